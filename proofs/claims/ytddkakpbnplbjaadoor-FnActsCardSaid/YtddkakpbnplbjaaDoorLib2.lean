/- A plain evaluator for Go's loaded code,and that it is sound;part 2. Conditions: none. -/
import Derived.Test.YtddkakpbnplbjaaDoorLib1
import Derived.Laws.BytesArg
import Derived.Lib.ConvBytes
import Derived.Laws.AppendOwn
import Derived.Sort.Grow
import Derived.Deep.Draws
set_option linter.all false
namespace Go.Ev
theorem DK{P:Program}{w w':World}(t ty e:TypeId)(i:TypeInfo)(ht:P.underlying t=some (.slice e))(hi:P.info? e=some i)(b:Addr)(sLen sCap:Nat)(A:Option Addr)(n c:Nat)(news:List Value)
  (hf:(Builtin.firstCells i.size n (.slice A n c)).run P w=.ok news.toArray w) (WH:sLen+n≤sCap) (Xq:(storeCells (b.add (sLen*i.size)) news).run P w=.ok () w'):
  (Builtin.append_ #[t,t] ty #[.slice (some b) sLen sCap,.slice A n c]).run P w=.ok (.slice (some b) (sLen+n) sCap) w':=by
 simp[Builtin.append_,run_underlying ht,sizeOf,typeInfo,hi,Builtin.lenOf,WH,hf,Xq]
theorem Cv{P:Program}{w:World}(t ty e:TypeId)(i:TypeInfo)(ht:P.underlying t=some (.slice e))(hi:P.info? e=some i)(sCap:Nat)(A:Option Addr)(c:Nat)(news:List Value)
  (hf:(Builtin.firstCells i.size 0 (.slice A 0 c)).run P w=.ok news.toArray w):
  (Builtin.append_ #[t,t] ty #[.slice none 0 sCap,.slice A 0 c]).run P w=.ok (.slice none 0 sCap) w:=by
 simp[Builtin.append_,run_underlying ht,sizeOf,typeInfo,hi,Builtin.lenOf,hf]
theorem O9{t' t:TypeId}{e' e:Ls}{xs:List e'.D}{ys:List e.D}(h:L.cast (a:=.sl t' e') (.sl t e) xs=some ys):t'=t∧∃he:e'=e,∀(Q:(f:Ls)→List f.D→Prop),Q e' xs→Q e ys:=by obtain⟨h1,h2⟩:=L.AH h;grind
theorem DS{α β:Type}:∀l:List α,(l.flatMap fun _=>([]:List β))=[]
 | []=>rfl
 |_::l=>by simp[DS l]
section
variable {P:Program}{E:Cy}{s:St}{W:Wd}{o:Oper}{a:Act}{ws:List Wr}{cx:Cx}{v:Nat}
theorem Mb(e:Ls)(m k:Nat)(hk:k<m):(madeCells (e.kinds.map CA).toArray m)[k]?=some ((e.kinds.map CA).toArray[k%e.n]!):=by simp[madeCells,hk,BC]
theorem Ma(e:Ls)(hp:0<e.n)(n:Nat){d:Nat}{w:World}{fz:Nat→Prop}:B1 e d w fz (fun k=>(madeCells (e.kinds.map CA).toArray (n*e.n))[0+k]?) (List.replicate n (Ff e)) fun _=>[]:=by intro i hi;rw[List.getElem_replicate];refine Ls.GD e fun j hj=>?_;simp only[kO];rw[Mb e _ _ (Kk (by grind) hj),Nat.mul_add_mod',Nat.mod_eq_of_lt hj];simp[BC,hj]
theorem JV(hc:Db P cx)(h:AW E s a.tmps W)(hv:Af s v){t:TypeId}{x y:Operand}(ho:o.op=.makeSlice t x y)(hd:∀d,o.dst=some d→d<a.tmps.size)(hl:(AB cx v o s).leads ws):Bc P E o a W.w (s.app ws):=by
 simp only[AB,ho]at hl;split at hl
 ·rename_i ty d ht WT;split at hl
  ·exact hl.elim
  ·rename_i Xi;split at hl
   ·rename_i t' e XK;obtain⟨kl,n,hx,hl⟩:=EP (Ah h x) hl;obtain⟨kc,m,hy,hl⟩:=EP (Ah h y) hl;rcases Ag hl with⟨hb,hl⟩|⟨_,hl⟩
    ·simp only[j8,kV]at hb;obtain⟨⟨h0,h1⟩,rfl⟩:=hb;obtain⟨WI,V5⟩:=(CC hc ht XK (by grind):GY P t (.sl t' e));obtain⟨i,hi,V7,Zj,z,hz,YV⟩:=V5.info;have XS:m≤68719476736:=h1
     have Vx:=run_make (P:=P) W.w t t' i z WI hi hz kl kc m m h0 (Int.le_refl _)
      (Int.le_trans (Int.mul_le_mul (show(i.bytes:Int)≤1024 by omega) XS h0 (by decide)) (by decide)) (by omega)
     rw[YV,V7]at Vx
     obtain⟨W',Wl,Vo⟩:=h.CT hv [] (hd d WT) (t0:=t') (e:=e) (xs:=List.replicate m.toNat (Ff e)) (dd:=2) (u:=.slice (some ⟨W.w.heap.size,0,none⟩) m.toNat m.toNat) (w':=W.w.alloc (.cells (madeCells (e.kinds.map CA).toArray (m.toNat*e.n)) t')) (o:=[W.w.heap.size]) (Eg h _) (fun b hb _=>alloc_old _ _ (by have:=h.sep.size;omega)) (by rw[Ar];omega) ⟨rfl,rfl,rfl⟩
      (by
       have:=FD (e:=e) (w:=W.w.alloc (.cells (madeCells (e.kinds.map CA).toArray (m.toNat*e.n)) t')) (fz:=W.fz) (ad:=⟨W.w.heap.size,0,none⟩) (c:=m.toNat) (xs:=List.replicate m.toNat (Ff e)) (os:=fun _=>[])
        (heap_alloc_new _ _) rfl (by omega) (by simp[size_madeCells]) (by simp) (Ma e V5.pos m.toNat)
       simpa[DS]using this) (by simp) (fun b hb=>by simp at hb;subst hb;exact .inr ⟨kT _,by rw[Ar];omega⟩)
     have hl:_=ws:=hl;rw[←hl];refine BZ h WT ?_ Wl Vo;simp[execOp,ho,hx,hy,Vx]
    ·exact hl.elim
   ·exact hl.elim
 ·exact hl.elim
def KZ(P:Program)(s:St)(W:Wd)(e:Ls)(u:Value)(ys:List e.D)(us:List (Nat×Nat)):Prop:=
 ∃A c g os,u=.slice A ys.length c∧(A=none→ys=[])∧(∀ad,A=some ad→ys≠[]→ad.spot=none∧∀k,W.w.cell? (at_ ad k)=g k)∧B1 e 2 W.w W.fz g ys os∧((List.range ys.length).flatMap os).Nodup∧
  (∀i,i<ys.length→∀b∈os i,∃r j,(r,j)∈us∧b∈W.om (.lf r j))∧us.Nodup
theorem JP(h:AW E s a.tmps W){la:LA}{u:Value}(hu:AP s W la u){t:TypeId}{e:Ls}{β:Type}{k:List e.D→List (Nat×Nat)→Step β}{z:β}(hl:(Ec cx s la t e k).leads z):
  ∃ys us,(k ys us).leads z∧KZ P s W e u ys us:=by
 unfold Ec at hl;split at hl
 ·rename_i hf;obtain⟨ys,hl,hr⟩:=Bj h hu hl;refine⟨ys,[],hl,?_⟩;obtain⟨A,c,hv,hc,hn,WK⟩:=AD.KX (L.Kr.1 hr);cases A with
  |none=>
   have:ys=[]:=kD (by grind);subst this;exact⟨none,c,fun _=>none,fun _=>[],hv,fun _=>rfl,(fun ad Wt _=>by cases Wt),(fun i hi=>by simp at hi),by simp,(fun i hi=>by simp at hi),kE⟩
  |some ad=>
   by_cases cA:c=0
   ·have:ys=[]:=kD (by omega);subst this;exact⟨some ad,c,fun _=>none,fun _=>[],hv,fun _=>rfl,(fun ad Wt Vv=>absurd rfl Vv),(fun i hi=>by simp at hi),by simp,(fun i hi=>by simp at hi),kE⟩
   obtain⟨arr,T,fr,os,hs,hh,_,_,V5,_,_⟩:=WK ad rfl (.inl (by omega));refine⟨some ad,c,_,_,hv,(fun hA=>by cases hA),?_,B1.flat hf V5 2 W.w W.fz,by grind,(fun i hi b hb=>by cases hb),kE⟩;intro bD Wt _;injection Wt with Wt;subst Wt
   exact⟨hs,fun k=>by simp[World.cell?,at_,hh]⟩
 ·split at hl
  ·rename_i c;split at hl
   ·rename_i AA gen t' e' xs d Vl;split at hl
    ·rename_i Vt;simp only[j8,kI,kJ]at Vt;obtain⟨⟨⟨Vu,hp⟩,Yk⟩,hd⟩:=Vt;subst Vu;subst hd;have hp:c.p=[]:=by cases hq:c.p<;>simp_all[isNil]
     split at hl
     ·rename_i ys dr;obtain⟨h1,h2⟩:=L.AH dr;cases h1;have h2:xs=ys:=h2;subst h2;obtain⟨h',e',WE,hn⟩:=hu gen _ _ _ _ Vl (.inl hp);rw[hp]at hn;obtain⟨rfl,rfl⟩:=hn;obtain⟨u',Vy,Vw⟩:=(h.roots c.r).row Vl;rw[WE]at Vy;injection Vy with Vy;subst Vy
      refine⟨xs,_,hl,?_⟩;obtain⟨A,cc,hv,hc,hn,WK⟩:=Vw.KX;cases A with
      |none=>
       have:xs=[]:=kD (by grind);subst this;exact⟨none,cc,fun _=>none,fun _=>[],hv,fun _=>rfl,(fun ad Wt _=>by cases Wt),(fun i hi=>by simp at hi),by simp,(fun i hi=>by simp at hi),by simp⟩
      |some ad=>
       obtain⟨arr,T,fr,os,hs,hh,_,_,V5,ho,_⟩:=WK ad rfl (.inr (by decide));have ho:=ho (by decide);have Wi:=h.sep.nodup (.lf c.r c.j);rw[ho]at Wi;refine⟨some ad,cc,_,os,hv,(fun hA=>by cases hA),?_,V5,(kQ.1 Wi).2,?_,by simp⟩
       ·intro bD Wt _;injection Wt with Wt;subst Wt
        exact⟨hs,fun k=>by simp[World.cell?,at_,hh]⟩
       grind
     ·exact hl.elim
    ·exact hl.elim
   ·exact hl.elim
  ·exact hl.elim
theorem LZ{w:World}{fz:Nat→Prop}{v:Value}{xs:List Int}{d:Nat}{oo:List Nat}{t1 t2 t0:TypeId}(e1:P.underlying t1=some (.slice t0))(e2:P.underlying t2=some .string)(e0:P.underlying t0=some (.int .u8))
  (hr:AD (.one (.int .u8)) d w fz v xs oo):(convert t1 t2 v).run P w=.ok (.string ⟨(bytesOf xs).toArray⟩) w:=by
 obtain⟨A,c,hv,WS,Xc,WK⟩:=hr.KX;have hv:v=.slice A (List.length (α:=Int) xs) c:=hv;have WS:List.length (α:=Int) xs≤c:=WS;rw[hv];cases A with
 |none=>
  obtain⟨cA,_⟩:=Xc rfl;have YT:xs=[]:=kD (by omega);subst YT;rw[run_convert_bytes_nil w t1 t0 e1 e0 _ _ t2 e2];rfl
 |some ad=>
  by_cases YR:0<c
  ·obtain⟨arr,T,fr,os,hs,hh,V7,_,V5,_⟩:=WK ad rfl (.inl YR);obtain⟨b,off,sp⟩:=ad;dsimp only at hs hh V7 V5;subst hs
   rw[run_convert_bytes_arg w t1 t0 e1 e0 b off (List.length (α:=Int) xs) c xs rfl (fun i hi=>by
    obtain⟨y,hy,Z2⟩:=V5 i hi;have hy:arr[off+(i*1+0)]?=some y:=hy;have bz:y=.int .u8 (xs[i]'hi):=Z2.1;simp only[World.cell?,hh];grind) t2 e2]
   rfl
  ·have YT:xs=[]:=kD (by omega);subst YT;rw[run_convert_bytes_string w t1 t2 t0 (some ad) _ c e1 e0 e2]
   have:=run_bytesToString (P:=P) w ad 0 c [] (by
    have:=run_loadCells_list (P:=P) (w:=w) ad [] (fun j v hj=>by simp at hj);grind)
   exact this
theorem N8(hc:Db P cx){t0:TypeId}(aH:Gz cx t0 (.int .u8)=true):P.underlying t0=some (.int .u8):=by
 unfold Gz at aH;split at aH
 ·rename_i ty0 fc;simp only[j8,kJ]at aH;exact CC hc fc (Ls.Ds aH.2) aH.1
 ·cases aH
theorem LX(b:List UInt8)(r:Array Value){d:Nat}{w:World}{fz:Nat→Prop}:B1 (.one (.int .u8)) d w fz (fun k=>((b.toArray.map fun c=>Value.int .u8 c.toNat)++r)[0+k]?) (Ct b) fun _=>[]:=by
 intro i hi
 have XJ:i<b.length:=by have:i<(Ct b).length:=hi;simpa[Ct]using this
 refine⟨.int .u8 (b[i].toNat:Int),?_,?_,rfl⟩
 ·show((b.toArray.map fun c=>Value.int .u8 c.toNat)++r)[0+(i*1+0)]?=_;rw[ka (by simp;omega)];simp[XJ]
 ·show Value.int .u8 _=.int .u8 ((Ct b)[i]'hi);simp[Ct]
theorem LY(w:World)(t0:TypeId)(b:List UInt8)(fz:Nat→Prop):AD (.one (.int .u8)) 2 (Go.Lib.bytesWorld w t0 ⟨b.toArray⟩) fz (.slice (some ⟨w.heap.size,0,none⟩) b.length (grownCap w b.length 0 t0)) (Ct b) [w.heap.size]:=by
 have Wg:b.length≤grownCap w b.length 0 t0:=grownCap_ge ..;have hlen:(Ct b).length=b.length:=by simp[Ct]
 have hs:(Go.Lib.bytesCells w t0 ⟨b.toArray⟩).size=grownCap w b.length 0 t0:=by show((b.toArray.map _)++Array.replicate (grownCap w b.toArray.size 0 t0-b.toArray.size) _).size=_;rw[lM,lS,Array.size_replicate,lL];omega
 have h:=FD (e:=.one (.int .u8)) (w:=Go.Lib.bytesWorld w t0 ⟨b.toArray⟩) (fz:=fz) (ad:=⟨w.heap.size,0,none⟩) (c:=grownCap w b.length 0 t0) (xs:=Ct b) (os:=fun _=>[])
  (Go.Lib.bytesWorld_at_new w t0 ⟨b.toArray⟩) rfl (fun j hj=>by dsimp only;omega) (by
   show 0+_*1≤_;rw[hs];omega) (by
   show(Ct b).length≤_;omega) (LX b _)
 rw[DS,show(List.length (α:=Ls.D (.one (.int .u8))) (Ct b))=b.length from hlen]at h;exact h
theorem Km(hc:Db P cx)(h:AW E s a.tmps W)(hv:Af s v){t1 t2:TypeId}{x:Operand}(ho:o.op=.convert t1 t2 x)(hd:∀d,o.dst=some d→d<a.tmps.size)(hl:(AB cx v o s).leads ws):Bc P E o a W.w (s.app ws):=by
 simp only[AB,ho]at hl;have h1:=Ah h x;generalize s.Al x=p at hl h1;split at hl
 ·rename_i ta ty k0 n dc ht;split at hl
  ·exact hl.elim
  ·rename_i Xi;split at hl
   ·rename_i k XK;rw[AM hl];have hu:P.underlying t2=some (.int k):=CC hc ht XK (by grind)
    have hd:∃d,P.underlying t1=some d:=by
     cases hg:ta.agg with
     |true=>obtain⟨fs,Xg,_⟩:=(hc _ _ dc).agg hg;grind
     |false=>obtain⟨l,_,XI⟩:=(hc _ _ dc).lone hg;obtain⟨d,hd,_⟩:=XI.JR;grind
    obtain⟨d,hd⟩:=hd;refine AR h (u:=.int k (k.wrap n)) ?_ (Bh _ _);have e1:a.eval x=.int k0 n:=h1.1;simp only[execOp,ho,convert,Sem.run_bind,run_underlying hd,run_underlying hu,Result.andThen_ok,e1];simp[Conv.intToInt]
   ·exact hl.elim
 ·rename_i ta ty p dc ht Yv;split at hl
  ·exact hl.elim
  ·rename_i Xi;simp only[kU,not_or,Bool.not_eq_true]at Xi;obtain⟨aB,cE⟩:=Xi;split at hl
   ·rename_i t0 bX bY;split at hl
    ·rename_i aH;have e1:P.underlying t1=some (.slice t0):=(CC hc dc bX aB).1;have e2:P.underlying t2=some .string:=CC hc ht bY cE;have e0:=N8 hc aH;obtain⟨xs,hl,hr⟩:=Bj h h1 hl;rw[AM hl];have Vx:=LZ e1 e2 e0 (xs:=xs) hr;refine AR h (u:=.string ⟨(bytesOf xs).toArray⟩) ?_ (Ks _);simp[execOp,ho,Vx]
    ·exact hl.elim
   ·rename_i t0 bX bY;unfold LL at hl;split at hl
    ·rename_i b d WT;split at hl
     ·rename_i aH;have e1:P.underlying t1=some .string:=CC hc dc bX aB;have e2:P.underlying t2=some (.slice t0):=(CC hc ht bY cE).1;have e0:=N8 hc aH;have hx:a.eval x=.string ⟨b.toArray⟩:=h1.1;have Vx:=Go.Lib.run_convert_string_bytes (P:=P) W.w t1 t2 t0 ⟨b.toArray⟩ e1 e2 e0;have hold:∀k,k<W.w.heap.size→(Go.Lib.bytesWorld W.w t0 ⟨b.toArray⟩).heap[k]?=W.w.heap[k]?:=fun k hk=>Go.Lib.bytesWorld_at_old W.w t0 _ k hk
      obtain⟨W',Wl,Vo⟩:=h.CT hv [] (hd d WT) (t0:=t0) (w':=Go.Lib.bytesWorld W.w t0 ⟨b.toArray⟩)
       (fun k hk=>hold k (hk.elim (fun hk=>(h.sep.fz k hk).1) fun⟨q,_,hk⟩=>(h.sep.own q k hk).2.1)) (fun k hk _=>hold k (by have:=h.sep.size;omega)) (by rw[Go.Lib.bytesWorld_size];omega) ⟨rfl,rfl,rfl⟩
       (LY W.w t0 b W.fz) (by simp) (fun k hk=>by simp at hk;subst hk;exact .inr ⟨kT _,by rw[Go.Lib.bytesWorld_size];omega⟩)
      have hl:_=ws:=hl;rw[←hl];refine BZ h WT ?_ Wl Vo;simp only[execOp,ho,hx,Sem.run_bind];rw[Vx];rfl
     ·exact hl.elim
    ·exact hl.elim
   ·exact hl.elim
 ·exact hl.elim
end
end Go.Ev
namespace Go.Ev
section
variable {P:Program}{E:Cy}{s:St}{W:Wd}{o:Oper}{a:Act}{ws:List Wr}{cx:Cx}{v:Nat}{tm:Array Value}
theorem Ih(n m:Nat)(os Wc:Nat→List Nat):((List.range (n+m)).flatMap fun i=>if i<n then os i else Wc (i-n))=(List.range n).flatMap os++(List.range m).flatMap Wc:=by
 rw[List.range_add,List.flatMap_append];congr 1
 ·rw[List.flatMap_def,List.flatMap_def];congr 1;refine List.map_congr_left fun i hi=>?_;grind
 ·rw[List.flatMap_map,List.flatMap_def,List.flatMap_def];congr 1;refine List.map_congr_left fun i hi=>?_;grind
theorem LV(h:AW E s tm W)(hv:Af s v){t t0 ty:TypeId}{e:Ls}(WI:P.underlying t=some (.slice t0))(V5:MC P t0 e){d:Nat}(hd:d<tm.size){ux uy:Value}{xs ys:List e.D}{us1 us2:List (Nat×Nat)}{o1:List Nat}
  (hx:AD e 2 W.w W.fz ux xs o1) (gJ:o1.Nodup) (Xz:∀b∈o1,∃r j,(r,j)∈us1∧b∈W.om (.lf r j)) (hy:KZ P s W e uy ys us2) (ZQ:∀x∈us1,x∉us2) (hlen:xs.length+ys.length≤Di) (t1:TypeId):
  ∃u w',(Builtin.append_ #[t,t] ty #[ux,uy]).run P W.w=.ok u w'∧∃W',W'.w=w'∧AW E (s.app (gone (us1++us2)++ownRow d v t1 e (xs++ys))) (tm.setIfInBounds d u) W':=by
 obtain⟨i,hi,V7,Zj,z,hz,YV⟩:=V5.info;have YR:=V5.pos;have WO:xs.length+ys.length≤68719476736:=hlen;obtain⟨A1,c1,Za,eT,cT,YZ⟩:=hx.KX;obtain⟨A2,c2,g2,os2,dj,cU,Yo,XZ,dI,Zq,hnus2⟩:=hy
 have YG:∀b∈o1,∀i,i<ys.length→b∉os2 i:=by
  intro b hb i hi Vz;obtain⟨r,j,hm,h1⟩:=Xz b hb;obtain⟨r',j',XL,XS⟩:=Zq i hi b Vz;by_cases he:(r,j)=(r',j')
  ·grind
  ·exact h.sep.Av (.lf r j) (.lf r' j') (fun e=>he (by grind)) b h1 XS
 have cr:∀b∈(List.range ys.length).flatMap os2,∃i,i<ys.length∧b∈os2 i:=by intro b hb;obtain⟨i,hi,hb⟩:=kA.1 hb;exact⟨i,kM.1 hi,hb⟩
 have Yc:∀b,(b∈o1∨b∈(List.range ys.length).flatMap os2)→∃r j,(r,j)∈us1++us2∧b∈W.om (.lf r j):=by
  intro b hb;rcases hb with hb|hb
  ·grind
  ·grind
 have Vs:∀b,(∃r j,(r,j)∈us1++us2∧b∈W.om (.lf r j))→b<W.w.heap.size:=fun b ⟨r,j,_,hb⟩=>(h.sep.own _ b hb).2.1
 have Yh:∃news:List Value,news.length=ys.length*e.n∧(∀k,k<ys.length*e.n→news[k]?=g2 k)∧(∀v∈news,v.oneCell'=true)∧
   (Builtin.firstCells i.size ys.length (.slice A2 ys.length c2)).run P W.w=.ok news.toArray W.w∧∀ad,A2=some ad→∀j u,news[j]?=some u→W.w.cell? (ad.add j)=some u:=by
  have V6:=XZ.cell
  have XH:∀ad,A2=some ad→∀j u,(BW g2 (ys.length*e.n))[j]?=some u→W.w.cell? (ad.add j)=some u:=by
   intro ad Wt j u hj;have Vs:j<ys.length*e.n:=by have:=(j9.1 hj).1;rwa[AL]at this
   rw[Bf V6 j Vs]at hj;obtain⟨hs,hg⟩:=Yo ad Wt (fun h0=>by grind);rw[EM hs,hg,hj]
  refine⟨BW g2 (ys.length*e.n),AL _ _,Bf V6,FQ V6,?_,XH⟩;cases hA:A2 with
  |none=>
   have:=cU hA;subst this;rw[run_firstCells_none];simp[BW]
  |some ad=>exact run_firstCells_some W.w i.size ys.length ad ys.length c2 _ (by rw[AL,V7]) (XH ad hA)
 obtain⟨news,XM,Zy,Zw,Y7,XD⟩:=Yh;subst Za;subst dj
 have fresh:∀(os1:Nat→List Nat)(arr:Array Value)(cap:Nat),xs.length+ys.length≤cap→cap*e.n≤arr.size→B1 e 2 W.w W.fz (fun k=>arr[k]?) xs os1→(∀k,k<ys.length*e.n→arr[xs.length*e.n+k]?=g2 k)→
   (∀b∈(List.range xs.length).flatMap os1,b∈o1)→((List.range xs.length).flatMap os1).Nodup→
   ∃W',W'.w=W.w.drew.alloc (.cells arr t0)∧AW E (s.app (gone (us1++us2)++ownRow d v t1 e (xs++ys))) (tm.setIfInBounds d (.slice (some ⟨W.w.heap.size,0,none⟩) (xs.length+ys.length) cap)) W':=by
  intro os1 arr cap Wn WZ Xs bw Wb X4;have hold:∀b,b<W.w.heap.size→(W.w.drew.alloc (.cells arr t0)).heap[b]?=W.w.heap[b]?:=fun b hb=>alloc_old W.w.drew _ hb
  have W9:B1 e 2 (W.w.drew.alloc (.cells arr t0)) W.fz (fun k=>arr[0+k]?) (xs++ys) fun i=>if i<xs.length then os1 i else os2 (i-xs.length):=by
   refine B1.append ?_ ?_
   ·refine B1.congr (g:=fun k=>arr[k]?) ?_ fun k _=>by grind
    refine Xs.frame (fun b hb=>hold b ?_) fun _ hb=>hb;rcases hb with⟨i,hi,hb⟩|hb
    ·exact Vs b (Yc b (.inl (Wb b (kA.2 ⟨i,kM.2 hi,hb⟩))))
    ·exact(h.sep.fz b hb).1
   ·refine B1.congr (g:=g2) ?_ fun k hk=>by grind
    refine XZ.frame (fun b hb=>hold b ?_) fun _ hb=>hb;rcases hb with⟨i,hi,hb⟩|hb
    ·obtain⟨r,j,hm,h1⟩:=Zq i hi b hb;exact(h.sep.own _ b h1).2.1
    ·exact(h.sep.fz b hb).1
  have Vr:=FD (w:=W.w.drew.alloc (.cells arr t0)) (ad:=⟨W.w.heap.size,0,none⟩) (c:=cap) (fr:=(0,0)) (T:=t0) (heap_alloc_new W.w.drew _) rfl (by omega) (by grind) (by grind) W9;rw[lC,Ih]at Vr;refine h.CT hv (us1++us2) hd (t0:=t1) (fun b hb=>hold b ?_) (fun b hb _=>hold b (by have:=h.sep.size;omega)) (by grind) ⟨rfl,rfl,rfl⟩ Vr ?_ ?_
  ·rcases hb with hb|⟨k,_,hb⟩
   ·exact(h.sep.fz b hb).1
   ·exact(h.sep.own k b hb).2.1
  ·refine kQ.2 ⟨fun Vm=>?_,kP.2 ⟨X4,dI,fun x hx y hy e=>?_⟩⟩
   ·have:=Vs _ (Yc _ ((lW.1 Vm).imp (Wb _) id));exact absurd this (Nat.lt_irrefl _)
   grind
  ·intro b hb;rcases kS.1 hb with rfl|hb
   ·exact .inr ⟨kT _,by show _<(W.w.drew.alloc _).heap.size;rw[Ar];simp⟩
   grind
 cases A1 with
 |none=>
  obtain⟨rfl,rfl⟩:=cT rfl;have YT:xs=[]:=kD (by omega);subst YT;cases ys with
  |nil=>
   refine⟨_,_,Cv t ty t0 i WI hi 0 A2 c2 news Y7,?_⟩;exact h.CT hv (us1++us2) hd (t0:=t1) (fun _ _=>rfl) (fun _ _ _=>rfl) (kT _) ⟨rfl,rfl,rfl⟩ Bm kE (fun b hb=>by cases hb)
  |cons y ys=>
   cases A2 with
   |none=>grind
   |some ad2=>
    refine⟨_,_,run_append_nil W.w t ty t0 i z WI hi hz ad2 (y::ys).length c2 news (by rw[XM,V7]) (XD ad2 rfl) (by simp) (by simp at WO ⊢;omega) (kv (lX (show _≤68719476736 by simp at WO ⊢;omega) Zj) (by decide)),?_⟩;have Wg:=grownCap_ge W.w (y::ys).length 0 t0
    have:=fresh (fun _=>[]) (news.toArray++Builtin.zeroCells z.cells (grownCap W.w (y::ys).length 0 t0-(y::ys).length)) (grownCap W.w (y::ys).length 0 t0) (by simpa using Wg)
     (by
      have:(y::ys).length*e.n+(grownCap W.w (y::ys).length 0 t0-(y::ys).length)*e.n=grownCap W.w (y::ys).length 0 t0*e.n:=by rw[←kd];congr 1;omega
      simp only[lM,lL,XM,Builtin.zeroCells,lS,lV,YV,lF,BC];omega) (fun i hi=>by simp at hi)
     (by
      intro k hk;rw[←Zy k hk];simp only[List.length_nil,Nat.zero_mul,kO];rw[ka (by simpa[XM]using hk)];simp) (by simp) (by simp)
    grind
 |some ad1=>
  obtain⟨arr,T,fr,os1,hs,hh,WH,Wk,Xs,Yj,_⟩:=YZ ad1 rfl (.inr (by decide));have YC:o1=ad1.block::(List.range xs.length).flatMap os1:=Yj (by decide);have V0:=Wk (by decide);clear Yj Wk YZ;obtain⟨b1,WA,sp1⟩:=ad1;dsimp only at hs hh WH Xs YC;subst hs;have X4:(b1::(List.range xs.length).flatMap os1).Nodup:=YC▸gJ;by_cases Wn:xs.length+ys.length≤c1
  ·
   have hmul:(xs.length+ys.length)*e.n≤c1*e.n:=kf _ Wn;rw[kd]at hmul;obtain⟨w',Xq,V1⟩:=DZ (P:=P) (o:=WA+xs.length*e.n) news hh V0 (by rw[XM];omega) Zw;have XH:(⟨b1,WA,none⟩:Addr).add (xs.length*i.size)=⟨b1,WA+xs.length*e.n,none⟩:=by rw[V7];exact addr_add _ _ _
   refine⟨_,_,DK t ty t0 i WI hi ⟨b1,WA,none⟩ xs.length c1 A2 ys.length c2 news Y7 Wn (by rw[XH];exact Xq),?_⟩;have XP:b1∈o1:=by rw[YC];simp
   have V4:=CV news (WA+xs.length*e.n) arr (by rw[XM];omega)
   have W9:B1 e 2 w' W.fz (fun k=>(B8 news (WA+xs.length*e.n) arr)[WA+k]?) (xs++ys) fun i=>if i<xs.length then os1 i else os2 (i-xs.length):=by
    refine B1.append ?_ ?_
    ·refine B1.congr (g:=fun k=>arr[WA+k]?) ?_ fun k hk=>?_
     ·refine Xs.frame (fun b hb=>V1.CJ b ?_) fun _ hb=>hb
      rintro rfl
      rcases hb with⟨i,hi,hb⟩|hb
      ·exact(kQ.1 X4).1 (kA.2 ⟨i,kM.2 hi,hb⟩)
      ·obtain⟨r,j,_,h1⟩:=Xz b XP;exact(h.sep.own _ b h1).1 hb
     ·rw[V4,kG (by omega)]
    ·refine B1.congr (g:=g2) ?_ fun k hk=>?_
     ·refine XZ.frame (fun b hb=>V1.CJ b ?_) fun _ hb=>hb
      rintro rfl
      rcases hb with⟨i,hi,hb⟩|hb
      ·exact YG b XP i hi hb
      ·obtain⟨r,j,_,h1⟩:=Xz b XP;exact(h.sep.own _ b h1).1 hb
     ·rw[←Zy k hk,V4,kF (by rw[XM];omega)];congr 1;omega
   have Vr:=FD (w:=w') (ad:=⟨b1,WA,none⟩) (c:=c1) V1.here rfl (by rw[Ap];exact V0) (by rw[Ap];exact WH) (by simpa using Wn) W9;rw[lC,Ih]at Vr;refine h.CT hv (us1++us2) hd (t0:=t1) (fun b hb=>V1.CJ b ?_) (fun b hb Yt=>V1.CJ b ?_) (by rw[V1.size];exact kT _) V1.rest Vr ?_ ?_
   ·rintro rfl
    obtain⟨r,j,hm,h1⟩:=Xz b XP;rcases hb with hb|⟨k,hk,hb⟩
    ·exact(h.sep.own _ b h1).1 hb
    ·by_cases bW:k=.lf r j
     ·subst bW;exact hk.2 (kK _ hm)
     ·exact h.sep.Av k _ bW b hb h1
   ·rintro rfl
    obtain⟨r,j,hm,h1⟩:=Xz b XP;rcases(h.sep.own _ b h1).2.2 with h2|h2
    ·omega
    ·exact Yt h2
   ·refine kQ.2 ⟨fun Vm=>?_,kP.2 ⟨(kQ.1 X4).2,dI,fun x hx y hy e=>?_⟩⟩
    ·rcases lW.1 Vm with Vm|Vm
     ·exact(kQ.1 X4).1 Vm
     ·obtain⟨i,hi,hb⟩:=cr _ Vm;exact YG _ XP i hi hb
    ·subst e;obtain⟨i,hi,hb⟩:=cr x hy;exact YG x (by rw[YC];exact kB _ hx) i hi hb
   grind
  ·
   cases A2 with
   |none=>grind
   |some ad2=>
    have Xx:=Xs.cell;have aB:=Bf Xx
    have holds:∀j u,(BW (fun k=>arr[WA+k]?) (xs.length*e.n))[j]?=some u→W.w.cell? ((⟨b1,WA,none⟩:Addr).add j)=some u:=by
     intro j u hj;have Vs:j<xs.length*e.n:=by have:=(j9.1 hj).1;rwa[AL]at this
     rw[aB j Vs]at hj;rw[addr_add];simp only[World.cell?,hh];simpa using hj
    refine⟨_,_,run_append_grow W.w t ty t0 i z WI hi hz ⟨b1,WA,none⟩ xs.length c1 (BW (fun k=>arr[WA+k]?) (xs.length*e.n)) (by rw[AL,V7]) holds ad2 ys.length c2 news (by rw[XM,V7]) (XD ad2 rfl) (by omega) (by omega)
     (growslice_fits (by omega) (kv (lX WO Zj) (by decide))),?_⟩
    have Wg:=grownCap_ge W.w (xs.length+ys.length) c1 t0;refine fresh os1 _ _ Wg ?_ ?_ ?_ (fun b hb=>by grind) (kQ.1 X4).2
    ·have:xs.length*e.n+ys.length*e.n+(grownCap W.w (xs.length+ys.length) c1 t0-(xs.length+ys.length))*e.n=grownCap W.w (xs.length+ys.length) c1 t0*e.n:=by rw[←kd,←kd];congr 1;omega
     simp only[lM,lL,XM,AL,Builtin.zeroCells,lS,lV,YV,lF,BC];omega
    ·refine B1.congr Xs fun k hk=>?_;grind
    ·intro k hk;rw[←Zy k hk];rw[ka (by simp[AL,XM];omega),Array.getElem?_append_right (by simp[AL])];simp[AL]
end
end Go.Ev
namespace Go.Ev
theorem Hp:∀(vs:List Value)(off n:Nat)(arr:Array Value),(vs.zipIdx n).foldl (fun cs (p:Value×Nat)=>cs.setIfInBounds (off+p.2) p.1) arr=B8 vs (off+n) arr
 | [],_,_,_=>rfl
 |v::vs,off,n,arr=>by rw[List.zipIdx_cons,List.foldl_cons,Hp vs off (n+1)];rfl
theorem Im{place:Nat→Option (Nat×Nat)}{cells:Array Value}{i:Nat}{v:Value}{rest:List (Nat×Value)}{off size:Nat}(hp:place i=some (off,size))(hs:v.cells.size=size)(hl:off+size≤cells.size):
  Instr.fill place cells ((i,v)::rest)=Instr.fill place (B8 v.cells.toList off cells) rest:=by
 have h1:(v.cells.zipIdx.foldl (fun cs (x:Value×Nat)=>match x with|(c,j)=>cs.setIfInBounds (off+j) c) cells)=B8 v.cells.toList off cells:=by rw[←Array.foldl_toList,Array.toList_zipIdx];exact Hp _ off 0 cells
 simp only[Instr.fill,hp];rw[kG (by simp[hs];omega)];rw[←h1]
theorem F1{α β:Type}{f:α→Option β}:∀ {l:List α} {r:List β},l.mapM f=some r→∀(i:Nat)(x:α),l[i]?=some x→∃y,f x=some y∧r[i]?=some y
 | [],r,h,i,x,hx=>by simp at hx
 |a::l,r,h,i,x,hx=>by
  simp only[List.mapM_cons,Option.bind_eq_bind,Option.pure_def]at h;cases ha:f a with
  |none=>simp[ha]at h
  |some b=>
   cases hr:l.mapM f with
   |none=>simp[ha,hr]at h
   |some r'=>
    simp[ha,hr]at h;subst h;cases i with
    |zero=>simp at hx;subst hx;exact⟨b,ha,rfl⟩
    |succ i=>obtain⟨y,h1,h2⟩:=F1 hr i x (by simpa using hx);exact⟨y,h1,by simpa using h2⟩
theorem IW:∀(as:List LA)(ls:List LA)(j:Nat),(Ej ls j as).length=ls.length
 | [],_,_=>rfl
 |b::as,ls,j=>by rw[Ej,IW as,CY]
theorem IV:∀(as:List LA)(ls:List LA)(o:Nat),o+as.length≤ls.length→∀k,(Ej ls o as)[k]?=if o≤k∧k<o+as.length then as[k-o]? else ls[k]?
 | [],ls,o,h,k=>by rw[Ej,kG (by simp)]
 |v::r,ls,o,h,k=>by
  simp only[lT]at h;rw[Ej,IV r _ (o+1) (by rw[CY];omega) k,Bi,List.getElem?_set];by_cases h1:k=o
  ·subst h1;rw[kG (by omega),kF rfl,kF (by omega),kF (by simp)];simp
  ·by_cases h2:o+1≤k∧k<o+1+r.length
   ·rw[kF h2,kF (by simp;omega)];obtain⟨j,rfl⟩:∃j,k=o+1+j:=⟨k-(o+1),by omega⟩;rw[show o+1+j-(o+1)=j by omega,show o+1+j-o=j+1 by omega];rfl
   ·rw[kG h2,kG (fun e=>h1 e.symm),kG (by simp;omega)]
section
variable {P:Program}{E:Cy}{s:St}{W:Wd}{o:Oper}{a:Act}{ws:List Wr}{cx:Cx}{v:Nat}
theorem Nv(h:AW E s a.tmps W){b:LA}{u:Value}(hu:AP s W b u)(hs:s.sure b=true):u.oneCell'=true:=by
 cases b with
 |sc l x=>exact L.Dl l hu
 |CP=>rw[show u=_ from hu];rfl
 |JQ=>rw[show u=_ from hu];rfl
 |D8 e x off=>obtain⟨ad,_,_,_,_,hv,_⟩:=hu;rw[hv];rfl
 |fn f=>rw[show u=_ from hu];rfl
 |ptr r j AA=>
  simp only[St.sure,j8,kI]at hs;rw[hu hs.1 hs.2];rfl
 |ref c=>
  simp only[St.sure]at hs;split at hs
  ·rename_i AA gen t e xs d Vl;simp only[j8,kU,kI]at hs;obtain⟨Vu,hp⟩:=hs;subst Vu;have hp:c.p=[]∨gen=c.gen:=hp.imp (fun h=>by cases hq:c.p<;>simp_all[isNil]) id;obtain⟨h',e',WE,hn⟩:=hu gen _ _ _ _ Vl hp;obtain⟨u',Vy,Vw⟩:=(h.roots c.r).row Vl;rw[WE]at Vy;injection Vy with Vy;subst Vy
   obtain⟨d',ys,o',hr,_⟩:=Mg c.p Vw hn;exact L.Dl (.sl 0 e') hr
  ·cases hs
 |win c lo hi=>
  simp only[St.sure]at hs;split at hs
  ·rename_i AA gen t e xs d Vl;simp only[j8,kU,kI]at hs;obtain⟨Vu,hp⟩:=hs;subst Vu;have hp:c.p=[]∨gen=c.gen:=hp.imp (fun h=>by cases hq:c.p<;>simp_all[isNil]) id;obtain⟨h',e',A,n,k,WE,hn,_,_,hv⟩:=hu gen _ _ _ _ Vl hp;rw[hv];rfl
  ·cases hs
 |Bl c=>obtain⟨ad,hv⟩:=HL hu hs;rw[hv];rfl
 |_=>cases hs
theorem Kw(h:AW E s a.tmps W){g:Bool}{as:List LA}{u:Value}(hu:E6 s W g as u)(hs:(g||as.all s.sure)=true):u.cells.size=as.length∧∀(j:Nat)(b:LA),as[j]?=some b→∃y,u.cells[j]?=some y∧AP s W b y:=by
 refine I8 hu fun hg=>?_;subst hg;cases as with
 |nil=>exact hu.elim
 |cons b bs=>cases bs with
  |cons=>exact hu.elim
  |nil=>exact Er (Nv h hu (by simpa using hs))
def Ie(s:St)(W:Wd)(ls:List LA)(cells:Array Value):Prop:=cells.size=ls.length∧∀(j:Nat)(b:LA),ls[j]?=some b→∃u,cells[j]?=some u∧AP s W b u
theorem Ie.CZ{ls as:List LA}{cells:Array Value}{u:Value}{off:Nat}(hb:Ie s W ls cells)(hl:off+as.length≤ls.length)(hu:u.cells.size=as.length∧∀(j:Nat)(b:LA),as[j]?=some b→∃y,u.cells[j]?=some y∧AP s W b y):
  Ie s W (Ej ls off as) (B8 u.cells.toList off cells):=by
 refine⟨by rw[Ap,IW,hb.1],fun j b hj=>?_⟩;rw[IV _ _ _ hl]at hj;rw[CV _ _ _ (by rw[hb.1];simp[hu.1];omega)];by_cases hc:off≤j∧j<off+as.length
 ·rw[kF hc]at hj;rw[kF (by simp[hu.1];omega)];obtain⟨y,hy,WQ⟩:=hu.2 _ b hj;exact⟨y,by simpa using hy,WQ⟩
 ·rw[kG hc]at hj;rw[kG (by simp[hu.1];omega)];exact hb.2 j b hj
theorem Jx(hc:Db P cx)(h:AW E s a.tmps W){fs:List (Nat×TypeId)}{place:Nat→Option (Nat×Nat)}(Xu:∀(i off:Nat)(t:TypeId),fs[i]?=some (off,t)→∃inf,P.info? t=some inf∧place i=some (off,inf.size)):
  ∀(parts:List (Nat×Operand)) {ls ZP:List LA} {cells:Array Value},Ie s W ls cells→Hm cx s fs parts ls=some ZP→∃YD,Instr.fill place cells (parts.map fun p=>(p.1,a.eval p.2))=some YD∧Ie s W ZP YD
 | [],ls,ZP,cells,hb,hl=>by
  injection hl with hl;subst hl
  exact⟨cells,rfl,hb⟩
 |(i,x)::ps,ls,ZP,cells,hb,hl=>by
  simp only[Hm]at hl;have h1:=A8 h x;generalize s.Au x=p at hl h1;split at hl
  ·rename_i g as off t Xg;split at hl
   ·rename_i tf cJ;split at hl
    ·rename_i Vt;rw[F3]at Xg;obtain⟨inf,aU,hp⟩:=Xu i off t Xg;obtain⟨inf',ZK,V7,_⟩:=(hc t tf cJ).info;rw[aU]at ZK;injection ZK with ZK;subst ZK
     rw[j8,j8,kI,kV]at Vt;obtain⟨⟨hlen,YO⟩,db⟩:=Vt;have hu:=Kw h h1 db;have Vz:=hb.CZ (off:=off) (by omega) hu;obtain⟨YD,hf,eQ⟩:=Jx hc h Xu ps Vz hl;refine⟨YD,?_,eQ⟩;rw[lQ,Im hp (by rw[hu.1,hlen,V7]) (by rw[hb.1,V7];exact YO)];exact hf
    ·cases hl
   ·cases hl
  ·cases hl
theorem MA(l:L):AP s W (zeroOf l) (CA l):=by
 cases l with
 |int k=>exact⟨rfl,rfl⟩
 |bool=>exact⟨rfl,rfl⟩
 |str=>exact⟨rfl,rfl⟩
 |sl t e=>exact rfl
theorem Mn(hc:Db P cx)(h:AW E s a.tmps W){t:TypeId}{parts:Array (Nat×Operand)}(ho:o.op=.build t parts)(hl:(AB cx v o s).leads ws):Bc P E o a W.w (s.app ws):=by
 simp only[AB,ho]at hl;split at hl
 ·rename_i ty ht;split at hl
  ·rename_i ls XK;rw[AM hl];split at XK
   ·rename_i Xi;obtain⟨fs,Xg,Zn,pl,Xu⟩:=(hc t ty ht).agg Xi;obtain⟨i,hi,V7,z,hz,YV,_⟩:=(hc t ty ht).info
    have bg:∀(i off:Nat)(t':TypeId),ty.fs[i]?=some (off,t')→∃inf,P.info? t'=some inf∧pl.toArray[i]?=some (off,inf.size):=by
     intro i off t' hq;rw[←Zn,kN]at hq;cases hf:fs.toList[i]? with
     |none=>rw[hf]at hq;cases hq
     |some f=>
      rw[hf]at hq;simp only[lE,Option.some.injEq,Prod.mk.injEq]at hq;obtain⟨rfl,rfl⟩:=hq;obtain⟨y,h1,h2⟩:=F1 Xu i f hf;cases aU:P.info? f.type with
      |none=>rw[aU]at h1;cases h1
      |some inf=>rw[aU]at h1;injection h1 with h1;subst h1;exact⟨inf,rfl,by simpa using h2⟩
    have iY:Ie s W (ty.ls.kinds.map zeroOf) z.cells:=by
     refine⟨by rw[YV];simp,fun j b hj=>?_⟩;rw[kN]at hj;cases hk:ty.ls.kinds[j]? with
     |none=>rw[hk]at hj;cases hj
     |some l=>rw[hk]at hj;injection hj with hj;subst hj;exact⟨CA l,by rw[YV];simp[hk],MA l⟩
    obtain⟨cells,hf,hb⟩:=Jx hc h bg parts.toList iY XK;refine AR h (u:=.agg cells) ?_ ⟨cells,rfl,hb.1,hb.2⟩
    have bG:P.built t (parts.map fun(i,x)=>(i,a.eval x)).toList=some cells:=by unfold Program.built;rw[hi,Xg];simp only[hz,Xu];rw[lU];exact hf
    unfold execOp;simp only[ho,Sem.run_bind,run_build W.w t _ cells bG,Result.andThen_ok];rfl
   ·cases XK
  ·exact hl.elim
 ·exact hl.elim
end
end Go.Ev
namespace Go.Ev
theorem Dk:∀(ls:Ls) {d:Nat} {w:World} {fz:Nat→Prop} {g:Nat→Option Value} {x:ls.D} {os:Nat→List Nat},
  (∀(j:Nat)(lv:Lv),(unpack ls x)[j]?=some lv→∃u,g j=some u∧lv.l.rd d w fz u lv.x (os j))→ls.rd d w fz g x ((List.range ls.n).flatMap os)
 | .nil,_,_,_,_,_,_,_=>by simp only[Ls.rd,Ls.n];rfl
 | .one l,_,w,fz,g,x,os,h=>by simp only[Ls.rd,Ls.n];obtain⟨u,hu,hr⟩:=h 0 ⟨l,x⟩ rfl;grind
 | .cons l ls,_,w,fz,g,x,os,h=>by simp only[Ls.rd,Ls.n];obtain⟨u,hu,hr⟩:=h 0 ⟨l,x.1⟩ rfl;have ih:=Dk ls (g:=fun j=>g (j+1)) (os:=fun j=>os (j+1)) fun j lv hj=>h (j+1) lv (by simpa[unpack]using hj);refine⟨u,os 0,_,hu,hr,ih,?_⟩;rw[Nat.add_comm,List.range_add,List.flatMap_append,List.flatMap_map];grind
def FN(b:LA):Option Lv:=match b with
 | .arr _ _ t e xs 2=>some ⟨.sl t e,xs⟩
 | .sc l x=>if Bs l then none else some ⟨l,x⟩
 |_=>none
section
variable {P:Program}{E:Cy}{s:St}{W:Wd}{o:Oper}{a:Act}{ws:List Wr}{cx:Cx}{v:Nat}
theorem Ij{b:LA}{u:Value}{oo:List Nat}{us:List (Nat×Nat)}(ht:JB s W v b u oo us){lv:Lv}(hb:FN b=some lv):lv.l.rd 2 W.w W.fz u lv.x oo:=by
 unfold FN at hb;split at hb
 ·injection hb with hb;subst hb
  exact ht.2.2.2.2.2
 ·split at hb
  ·cases hb
  ·rename_i l x hs;injection hb with hb;subst hb
   obtain⟨h1,h2,_⟩:=ht.2.2.2;subst h1;exact(L.Aa l (by grind) h2).1
 ·cases hb
def Ay(g:Bool)(u:Value):Nat→Option Value:=fun j=>match g with
 |true=>u.cells[j]?
 |false=>if j=0 then some u else none
theorem B7{g:Bool}{as:List LA}{u:Value}(hu:E6 s W g as u)(j:Nat)(b:LA)(hj:as[j]?=some b):∃y,Ay g u j=some y∧AP s W b y:=by
 cases g with
 |true=>obtain⟨cs,Xt,_,V4⟩:=hu;obtain⟨y,hy,WQ⟩:=V4 j b hj;exact⟨y,by simp only[Ay,Xt];exact hy,WQ⟩
 |false=>
  cases as with
  |nil=>exact hu.elim
  |cons b' bs=>cases bs with
   |cons=>exact hu.elim
   |nil=>cases j with
    |zero=>simp at hj;subst hj;exact⟨u,by simp[Ay],hu⟩
    |succ j=>simp at hj
theorem Bt{g:Bool}{as:List LA}{u:Value}(hu:E6 s W g as u)(h1:∀(j:Nat)(b:LA),as[j]?=some b→∃y,Ay g u j=some y∧y.oneCell'=true):u.cells.size=as.length∧∀j,j<as.length→u.cells[j]?=Ay g u j:=by
 cases g with
 |true=>obtain⟨cs,Xt,V7,_⟩:=hu;subst Xt;exact⟨V7,fun j _=>rfl⟩
 |false=>
  cases as with
  |nil=>exact hu.elim
  |cons b' bs=>cases bs with
   |cons=>exact hu.elim
   |nil=>
    obtain⟨y,hy,WU⟩:=h1 0 b' rfl;simp[Ay]at hy;subst hy;rw[Er WU];refine⟨rfl,fun j hj=>?_⟩;have:j=0:=by simpa using hj
    subst this;simp[Ay]
structure NG(P:Program)(s:St)(W:Wd)(a:Act)(e:Ls)(ps:List (Nat×Operand))(n:Nat)(ys:List e.D)(us:List (Nat×Nat))(os:Nat→List Nat):Prop where
 len:ys.length=ps.length
 nodup:us.Nodup
 PN:∀i j,i≠j→∀b∈os i,b∉os j
 PW:∀i,(os i).Nodup
 Pb:∀i,ys.length≤i→os i=[]
 Oo:∀i,∀b∈os i,∃r j,(r,j)∈us∧b∈W.om (.lf r j)
 el:∀m (hm:m<ys.length),∃x,ps[m]?=some (n+m,x)∧(a.eval x).cells.size=e.n∧e.rd 2 W.w W.fz (fun j=>(a.eval x).cells[j]?) ys[m] (os m)
theorem EB{os:Nat→List Nat}(hn:∀i,(os i).Nodup)(hd:∀i j,i≠j→∀b∈os i,b∉os j):∀n,((List.range n).flatMap os).Nodup
 |0=>by simp
 |n+1=>by rw[List.range_succ,List.flatMap_append];refine kP.2 ⟨EB hn hd n,by simpa using hn n,fun x hx y hy e=>?_⟩;grind
theorem Hi(h:AW E s a.tmps W)(hv:Af s v){e:Ls}{β:Type}{z:β}:∀(ps:List (Nat×Operand)) (n:Nat) {k:List e.D→List (Nat×Nat)→Step β},(Cm cx s v e ps n k).leads z→
  ∃ys us os,(k ys us).leads z∧NG P s W a e ps n ys us os
 | [],n,k,hl=>⟨[],[],fun _=>[],hl,rfl,kE,(fun _ _ _ b hb=>by cases hb),fun _=>kE,fun _ _=>rfl,(fun _ b hb=>by cases hb),fun m hm=>by simp at hm⟩
 |(i,x)::ps,n,k,hl=>by
  simp only[Cm]at hl;split at hl
  ·rename_i hi;have hi:i=n:=by simpa using hi
   subst hi;have h1:=A8 h x;have Xh:=F4 hv x;generalize s.Au x=p at hl h1 Xh;split at hl
   ·rename_i g as;split at hl
    ·rename_i Xn;obtain⟨vs,hl,WX,ZE,XV⟩:=Es h (g:=Ay g (a.eval x)) (fun j b hj=>B7 h1 j b hj) hl;split at hl
     ·rename_i y hy;obtain⟨ys,us,os,hl,V2⟩:=Hi h hv ps (i+1) hl;have Xv:=Ae e vs y hy;have ea:as.length=e.n:=by rw[←WX,←Xv,B9]
      have V9:=Bt h1 fun j b hj=>by
       have Vs:j<vs.length:=by rw[WX];exact(j9.1 hj).1
       obtain⟨u,hu,hr⟩:=XV j vs[j] (j7 Vs);exact⟨u,hu,L.Dl _ hr⟩
      have Vw:e.rd 0 W.w (Seen W (as.flatMap LA.roots)) (Ay g (a.eval x)) y []:=Bg e fun j lv hj=>by grind
      have fS:=(Ls.Aa e Xn Vw (d':=2) (w':=W.w) (Vp:=W.fz)).1;refine⟨y::ys,us,fun m=>match m with|0=>[]|m+1=>os m,hl,by simp[V2.len],V2.nodup,?_,?_,?_,?_,?_⟩
      ·intro i j aC b hb;cases i with
       |zero=>cases hb
       |succ i=>cases j with
        |zero=>simp
        |succ j=>exact V2.PN i j (fun e=>aC (by rw[e])) b hb
      ·intro i;cases i with
       |zero=>grind
       |succ i=>exact V2.PW i
      ·intro i hi;cases i with
       |zero=>simp at hi
       |succ i=>exact V2.Pb i (by grind)
      ·intro i b hb;cases i with
       |zero=>cases hb
       |succ i=>exact V2.Oo i b hb
      ·intro m hm;cases m with
       |zero=>exact⟨x,rfl,by omega,Ls.BG e fS fun j hj=>V9.2 j (by omega)⟩
       |succ m=>
        obtain⟨x',h1,h2,h3⟩:=V2.el m (by simpa using hm);grind
     ·exact hl.elim
    ·obtain⟨bs,vs,os0,hl,XY,ZG,fh,_,ck,hbig0,Xk⟩:=Ei (v:=v) h (g:=Ay g (a.eval x)) (fun j b hj=>⟨fun Vm=>Xh (kA.2 ⟨b,kC hj,Vm⟩),B7 h1 j b hj⟩) hl;split at hl
     ·rename_i lvs YL;have YL:bs.mapM FN=some lvs:=YL;split at hl
      ·rename_i y hy;obtain⟨ys,us,os,hl,V2⟩:=Hi h hv ps (i+1) hl;split at hl
       ·rename_i Wa
        have Yz:∀x∈vs,x∉us:=by intro x hx bu;have:=kL.1 Wa x hx;simp at this;exact this bu
        have Xv:=Ae e lvs y hy
        have hlen:lvs.length=bs.length:=by
         have:∀ {l:List LA} {r:List Lv},l.mapM FN=some r→r.length=l.length:=by
          intro l
          induction l with
          |nil=>grind
          |cons b l ih=>
           intro r hr;simp only[List.mapM_cons,Option.bind_eq_bind,Option.pure_def]at hr;cases hb:FN b with
           |none=>grind
           |some c=>
            cases WV:l.mapM FN with
            |none=>grind
            |some r'=>grind
         exact this YL
        have ea:as.length=e.n:=by rw[←XY,←hlen,←Xv,B9]
        have V9:=Bt h1 fun j b hj=>by
         have Vs:j<bs.length:=by rw[XY];exact(j9.1 hj).1
         obtain⟨u,hu,hr⟩:=Xk j bs[j] (j7 Vs);exact⟨u,hu,hr.1⟩
        have Vw:e.rd 2 W.w W.fz (Ay g (a.eval x)) y ((List.range e.n).flatMap os0):=Dk e fun j lv hj=>by
         rw[Xv]at hj;have Vs:j<bs.length:=by rw[←hlen];exact(j9.1 hj).1
         obtain⟨y',X5,YU⟩:=F1 YL j bs[j] (j7 Vs);rw[hj]at YU;injection YU with YU;subst YU
         obtain⟨u,hu,ht⟩:=Xk j bs[j] (j7 Vs);exact⟨u,hu,Ij ht X5⟩
        have dJ:∀j,(os0 j).Nodup:=by
         intro j;by_cases hj:j<bs.length
         ·obtain⟨u,_,ht⟩:=Xk j bs[j] (j7 hj);exact ht.2.1
         ·grind
        have bR:∀b∈(List.range e.n).flatMap os0,∃r j,(r,j)∈vs∧b∈W.om (.lf r j):=by
         intro b hb;obtain⟨j,hj,hb⟩:=kA.1 hb;have hj:j<bs.length:=by rw[XY,ea];exact kM.1 hj
         obtain⟨u,_,ht⟩:=Xk j bs[j] (j7 hj);exact ht.2.2.1 b hb
        have YG:∀i,∀b∈(List.range e.n).flatMap os0,b∉os i:=by
         intro i b hb Vz;obtain⟨r,j,hm,h1⟩:=bR b hb;obtain⟨r',j',XL,XS⟩:=V2.Oo i b Vz;by_cases he:(r,j)=(r',j')
         ·grind
         ·exact h.sep.Av (.lf r j) (.lf r' j') (fun e=>he (by grind)) b h1 XS
        refine⟨y::ys,vs++us,fun m=>match m with|0=>(List.range e.n).flatMap os0|m+1=>os m,hl,by simp[V2.len],?_,?_,?_,?_,?_,?_⟩
        ·exact kP.2 ⟨fh,V2.nodup,fun x hx y hy e=>Yz x hx (e▸hy)⟩
        ·intro i j aC b hb;cases i with
         |zero=>grind
         |succ i=>cases j with
          |zero=>grind
          |succ j=>exact V2.PN i j (fun e=>aC (by rw[e])) b hb
        ·intro i;cases i with
         |zero=>exact EB dJ ck e.n
         |succ i=>exact V2.PW i
        ·intro i hi;cases i with
         |zero=>simp at hi
         |succ i=>exact V2.Pb i (by grind)
        ·intro i b hb;cases i with
         |zero=>grind
         |succ i=>obtain⟨r,j,hm,h1⟩:=V2.Oo i b hb;grind
        ·intro m hm;cases m with
         |zero=>exact⟨x,rfl,by omega,Ls.BG e Vw fun j hj=>V9.2 j (by omega)⟩
         |succ m=>
          obtain⟨x',h1,h2,h3⟩:=V2.el m (by simpa using hm);grind
       ·exact hl.elim
      ·exact hl.elim
     ·exact hl.elim
   ·exact hl.elim
  ·exact hl.elim
theorem FP{e:Ls}(f:Operand→Value):∀(ps:List (Nat×Operand)) (n:Nat) (arr:Array Value),(∀m x i,ps[m]?=some (i,x)→i=n+m∧(f x).cells.size=e.n)→(n+ps.length)*e.n≤arr.size→
  ∃W4,Instr.fill (fun i=>some (i*e.n,e.n)) arr (ps.map fun p=>(p.1,f p.2))=some W4∧W4.size=arr.size∧(∀k,k<n*e.n→W4[k]?=arr[k]?)∧∀m i x,ps[m]?=some (i,x)→∀j,j<e.n→W4[(n+m)*e.n+j]?=(f x).cells[j]?
 | [],n,arr,h,hs=>⟨arr,rfl,rfl,fun _ _=>rfl,fun m i x hm=>by simp at hm⟩
 |(i,x)::ps,n,arr,h,hs=>by
  obtain⟨hi,V7⟩:=h 0 x i rfl;simp only[kz]at hi;subst hi;have aG:(i+(ps.length+1))*e.n≤arr.size:=by simpa using hs
  have WH:i*e.n+e.n≤arr.size:=by have h2:(i+1)*e.n≤(i+(ps.length+1))*e.n:=kf _ (by omega);rw[kd,lk]at h2;omega
  have V4:=CV (f x).cells.toList (i*e.n) arr (by grind)
  obtain⟨W4,hf,WZ,hlow,V5⟩:=FP f ps (i+1) (B8 (f x).cells.toList (i*e.n) arr) (fun m y j hm=>by
   obtain⟨h1,h2⟩:=h (m+1) y j (by grind);exact⟨by omega,h2⟩) (by rw[Ap,show i+1+ps.length=i+(ps.length+1) by omega];exact aG)
  refine⟨W4,?_,by rw[WZ,Ap],?_,?_⟩
  ·rw[lQ,Im (off:=i*e.n) (size:=e.n) rfl V7 WH];exact hf
  ·grind
  ·intro m j y hm q hq;cases m with
   |zero=>
    grind
   |succ m=>
    grind
theorem Ee{P:Program}{w:World}{t t0:TypeId}{i:TypeInfo}{z:Value}{len:Nat}{parts:Array (Nat×Value)}{arr:Array Value}(ht:P.underlying t=some (.slice t0))(hi:P.info? t0=some i)(hz:i.zero=some z)
  (hlen:len*i.size≤16777216) (hf:Instr.fill (fun j=>some (j*i.size,i.size)) (madeCells z.cells (len*i.size)) parts.toList=some arr):
  (Instr.buildSlice t len parts).run P w=.ok (.slice (some ⟨w.heap.size,0,none⟩) len len) (w.alloc (.cells arr t0)):=by
 have n1:¬(16777216<len*i.size):=by omega
 by_cases hn:len*i.size=0
 ·rw[hn]at hf;have h0:madeCells z.cells 0 = #[]:=by simp[madeCells]
  rw[h0]at hf;simp[Instr.buildSlice,run_underlying ht,sizeOf,typeInfo,hi,n1,hn,hf,newRow,Array.range_zero']
 ·unfold madeCells at hf;simp[Instr.buildSlice,run_underlying ht,sizeOf,typeInfo,zeroValue,hi,hz,n1,hn,hf,newRow]
end
end Go.Ev
namespace Go.Ev
theorem Ja{s:St}{r:Nat}(h:(s.root r).box=true):r<s.ro.length:=by
 rcases kq r s.ro.length with Vs|Wg
 ·exact Vs
 ·have:s.root r=dead:=A6 _ Wg;rw[this]at h;cases h
theorem HA{s:St}{r j AA gen:Nat}{t:TypeId}{e:Ls}{xs:List e.D}{d:Nat}(h:s.leaf r j=.arr AA gen t e xs d):r<s.ro.length∧j<(s.root r).ls.length:=by
 constructor
 ·rcases kq r s.ro.length with Vs|Wg
  ·exact Vs
  ·have:s.root r=dead:=A6 _ Wg;unfold St.leaf at h;rw[this]at h;cases j<;>cases h
 ·rcases kq j (s.root r).ls.length with Vs|Wg
  ·exact Vs
  ·unfold St.leaf at h;rw[A6 _ Wg]at h;cases h
theorem D9(r:Nat):∀(bs:List LA)(j:Nat)(s:St),(bs=[]∨r<s.ro.length)→j+bs.length≤(s.root r).ls.length→Jl s (s.app (BD r j bs))∧
  ∀r' j',(s.app (BD r j bs)).leaf r' j'=if r'=r∧j≤j'∧j'<j+bs.length then nth .bad bs (j'-j)else s.leaf r' j'
 | [],j,s,hr,hj=>⟨⟨rfl,rfl,fun _=>⟨rfl,rfl,rfl⟩⟩,fun r' j'=>by rw[kG (by simp)];rfl⟩
 |b::bs,j,s,hr,hj=>by
  simp only[lT]at hj;have hr:r<s.ro.length:=hr.resolve_left (by simp);have h1:=BI s r j b;obtain⟨h2,h3⟩:=D9 r bs (j+1) (s.AF (.leaf r j b)) (by rw[h1.len];exact .inr hr) (by rw[(h1.box r).2.2];omega);refine⟨⟨h2.sl.trans h1.sl,h2.len.trans h1.len,fun x=>⟨(h2.box x).1.trans (h1.box x).1,(h2.box x).2.1.trans (h1.box x).2.1,(h2.box x).2.2.trans (h1.box x).2.2⟩⟩,fun r' j'=>?_⟩;show((s.AF (.leaf r j b)).app (BD r (j+1) bs)).leaf r' j'=_;rw[h3,Ea];by_cases Yw:r'=r
  ·subst Yw;by_cases eC:j'=j
   ·subst eC;rw[kG (by omega),kF ⟨rfl,rfl,hr,by omega⟩,kF ⟨rfl,by omega,by simp⟩];simp[nth]
   ·by_cases Vm:j+1≤j'∧j'<j+1+bs.length
    ·rw[kF ⟨rfl,Vm⟩,kF ⟨rfl,by omega,by simp;omega⟩];obtain⟨k,rfl⟩:∃k,j'=j+1+k:=⟨j'-(j+1),by omega⟩;rw[show j+1+k-(j+1)=k by omega,show j+1+k-j=k+1 by omega];rfl
    ·rw[kG (fun hh=>Vm hh.2),kG (fun hh=>eC hh.2.1.symm),kG (fun hh=>Vm (by simp at hh;omega))]
  grind
section
variable {P:Program}{E:Cy}{s:St}{W:Wd}{o:Oper}{a:Act}{ws:List Wr}{cx:Cx}{v:Nat}{tm:Array Value}
theorem LA.Dx(hv:Af s v)(r j:Nat):(s.leaf r j).CK=true∨v∉(s.leaf r j).AG:=hv.2.1 r j
theorem AW.KS(h:AW E s tm W)(hv:Af s v){r j:Nat}(WN:(s.root r).box=true){us:List (Nat×Nat)}{bs:List LA}{os:Nat→List Nat}{cells:List Value}(hlen:cells.length=bs.length)(WH:j+bs.length≤(s.root r).ls.length)
  (Xk:∀(i:Nat)(b:LA),bs[i]?=some b→∃u,cells[i]?=some u∧JB s W v b u (os i) us) (Wh:∀i j,i≠j→∀b∈os i,b∉os j) (Xw:∀i,bs.length≤i→os i=[])
  {arr:Array Value} {T:TypeId} {fr:Nat×Nat} (aO:W.w.heap[W.bk r]?=some (.cells arr T fr)) {w':World} (V1:NL W.w w' (W.bk r) (B8 cells j arr) T fr):
  ∃W',W'.w=w'∧AW E (s.app (gone us++BD r j bs)) tm W':=by
 have hr:r<s.ro.length:=Ja WN;obtain⟨_,X8⟩:=h.roots r;rw[kF WN]at X8;obtain⟨YP,arr0,T0,fr0,hh,V0,V7,WE⟩:=X8;rw[aO]at hh;injection hh with hh;injection hh with e1 e2 e3;subst e1;subst e2;subst e3
 have V4:=CV cells j arr (by omega)
 have Wu:∀b,(W.fz b∨∃k,k≠.AT r∧b∈W.om k)→b≠W.bk r:=by
  rintro b hb rfl
  have h0:W.bk r∈W.om (.AT r):=by rw[YP];simp
  rcases hb with hb|⟨k,hk,hb⟩
  ·exact(h.sep.own _ _ h0).1 hb
  ·exact h.sep.Av k _ hk _ hb h0
 have hw:∀b,(W.fz b∨∃k,k≠.AT r∧b∈W.om k)→w'.heap[b]?=W.w.heap[b]?:=fun b hb=>V1.CJ b (Wu b hb);obtain⟨Wy,Zu⟩:=Dt s us;rw[BF];generalize YZ:s.app (gone us)=s1 at Wy Zu;obtain⟨WM,WL⟩:=D9 r bs j s1 (by rw[Wy.len];exact .inr hr) (by rw[(Wy.box r).2.2];exact WH);generalize Yo:s1.app (BD r j bs)=s' at WM WL;have XU:s'.sl=s.sl:=WM.sl.trans Wy.sl
 have Zi:∀r,(s'.root r).box=(s.root r).box∧(s'.root r).AA=(s.root r).AA∧(s'.root r).ls.length=(s.root r).ls.length:=fun r=>
  ⟨(WM.box r).1.trans (Wy.box r).1,(WM.box r).2.1.trans (Wy.box r).2.1,(WM.box r).2.2.trans (Wy.box r).2.2⟩
 have Vl:∀r' j',s'.leaf r' j'=if r'=r∧j≤j'∧j'<j+bs.length then nth .bad bs (j'-j)else if(r',j')∈us then .bad else s.leaf r' j':=fun r' j'=>by grind
 have fV:s'.ro.length=s.ro.length:=WM.len.trans Wy.len;clear Zu WL Wy YZ Yo
 let W':Wd:={
  w:=w'
  fz:=W.fz
  cv:=fun r' j'=>if r'=r then(B8 cells j arr)[j']? else W.cv r' j'
  bk:=W.bk
  om:=fun k=>match k with
   | .lf r' j'=>if r'=r∧j≤j'∧j'<j+bs.length then os (j'-j)else if(r',j')∈us then []else W.om (.lf r' j')
   |k=>W.om k }
 have Wp:∀i,∀b∈os i,∃r' j',(r',j')∈us∧b∈W.om (.lf r' j'):=by
  intro i b hb;by_cases hi:i<bs.length
  ·obtain⟨u,_,ht⟩:=Xk i bs[i] (j7 hi);exact ht.2.2.1 b hb
  ·grind
 have Yi:∀i,i<bs.length→∃u,cells[i]?=some u∧JB s W v (nth .bad bs i) u (os i) us:=by intro i hi;have:=Xk i bs[i] (j7 hi);rw[Ai,j7 hi];exact this
 have Y1:∀r' j',¬(r'=r∧j≤j'∧j'<j+bs.length)→W'.cv r' j'=W.cv r' j':=by
  intro r' j' hn;by_cases Yw:r'=r
  ·grind
  ·grind
 have WD:EL v s s' W W':={
  fz:=fun b hb=>hb
  Le:=fun b hb=>hw b (.inl hb)
  leaf:=by
   intro r' j' AA gen t e xs d hl Vv;rw[Vl]at hl;by_cases Vm:r'=r∧j≤j'∧j'<j+bs.length
   ·rw[kF Vm]at hl;obtain⟨u,_,ht⟩:=Yi (j'-j) (by omega);rw[hl]at ht;exact absurd ht.2.2.2.1 Vv
   ·rw[kG Vm]at hl;by_cases hm:(r',j')∈us
    ·grind
    ·rw[kG hm]at hl;refine⟨Y1 r' j' Vm,gen,t,xs,d,hl,fun _=>⟨rfl,fun p h' e' u' hc hn=>?_⟩⟩;obtain⟨u0,Wj,Vw⟩:=(h.roots r').row hl;rw[hc]at Wj;injection Wj with Wj;subst Wj
     exact BM p Vw hn fun b hb=>hw b (hb.elim (fun hb=>.inr ⟨.lf r' j',by simp,hb⟩) .inl)
  box:=fun r' hb Vv=>⟨(Zi r').1▸hb,(Zi r').2.1.symm,rfl⟩ }
 have XR:Sep E W':=by
  refine h.sep.IE (fun k=>∃r' j',k=.lf r' j'∧((r',j')∈us∨(r'=r∧j≤j'∧j'<j+bs.length))) rfl (by show _≤w'.heap.size;rw[V1.size];omega) ?_ V1.rest ?_ ?_ ?_ ?_
  ·intro b hb Yt;refine V1.CJ b ?_
   rintro rfl
   have h0:W.bk r∈W.om (.AT r):=by rw[YP];simp
   rcases(h.sep.own _ _ h0).2.2 with h2|h2
   all_goals grind
  ·grind
  ·rintro k ⟨r',j',rfl,hk⟩
   show(if r'=r∧j≤j'∧j'<j+bs.length then os (j'-j)else if(r',j')∈us then []else W.om (.lf r' j')).Nodup;by_cases Vm:r'=r∧j≤j'∧j'<j+bs.length
   ·rw[kF Vm];obtain⟨u,_,ht⟩:=Yi (j'-j) (by omega);exact ht.2.1
   grind
  ·rintro k k' ⟨r',j',rfl,hk⟩ ⟨r2,j2,rfl,cz⟩ Vv b hb Vz
   have hb:b∈(if r'=r∧j≤j'∧j'<j+bs.length then os (j'-j)else if(r',j')∈us then []else W.om (.lf r' j')):=hb;have Vz:b∈(if r2=r∧j≤j2∧j2<j+bs.length then os (j2-j)else if(r2,j2)∈us then []else W.om (.lf r2 j2)):=Vz;by_cases Vm:r'=r∧j≤j'∧j'<j+bs.length
   ·rw[kF Vm]at hb;by_cases aT:r2=r∧j≤j2∧j2<j+bs.length
    ·rw[kF aT]at Vz;exact Wh (j'-j) (j2-j) (fun e=>Vv (by rw[Vm.1,aT.1,show j'=j2 by omega])) b hb Vz
    ·rw[kG aT,kF (cz.resolve_right aT)]at Vz;cases Vz
   grind
  ·grind
 refine⟨W',rfl,h.IE hv WD XR (by rw[XU,h.DM]) ?_ (fun t=>.inl ⟨by show nth _ s'.sl t=_;rw[XU];rfl,rfl⟩) ?_⟩
 ·rw[fV,h.BQ]
 ·intro r';obtain⟨h1,h2⟩:=h.roots r';refine⟨fun j'=>?_,?_⟩
  ·show Ab s' W' (s'.leaf r' j') (W'.cv r' j') (W'.om (.lf r' j'));have fH:W'.om (.lf r' j')=if r'=r∧j≤j'∧j'<j+bs.length then os (j'-j)else if(r',j')∈us then []else W.om (.lf r' j'):=rfl
   rw[Vl,fH];by_cases Vm:r'=r∧j≤j'∧j'<j+bs.length
   ·rw[kF Vm,kF Vm];obtain⟨u,hu,ht⟩:=Yi (j'-j) (by omega)
    have eW:W'.cv r' j'=some u:=by show(if r'=r then _ else _)=_;grind
    rw[eW];obtain⟨_,_,_,ht⟩:=ht;generalize nth LA.bad bs (j'-j)=b at ht;unfold Ab;cases b with
    |arr AA gen t e xs dd=>
     obtain⟨_,_,hr⟩:=ht;refine⟨u,rfl,hr.frame (fun b hb=>hw b ?_) fun b hb=>hb⟩;grind
    |_=>exact⟨ht.1,fun u' Vy=>by injection Vy with Vy;subst Vy;exact AP.DL WD ht.2.2 ht.2.1⟩
   ·rw[kG Vm,kG Vm,Y1 r' j' Vm];by_cases hm:(r',j')∈us
    ·rw[kF hm,kF hm];exact⟨rfl,fun _ _=>trivial⟩
    ·rw[kG hm,kG hm];exact Ab.DL WD (LA.Dx hv r' j') (fun b hb=>hw b (.inr ⟨.lf r' j',by simp,hb⟩)) (h1 j')
  ·rw[(Zi r').1];split
   ·rename_i hb;rw[kF hb]at h2;obtain⟨Xd,W4,T',aJ,Yr,a1,a2,a3⟩:=h2;by_cases Yw:r'=r
    ·subst Yw;rw[aO]at Yr;injection Yr with Yr;injection Yr with e1 e2 e3;subst e1;subst e2;subst e3
     exact⟨Xd,_,_,_,V1.here,by rw[Ap];exact a1,by rw[Ap,(Zi r').2.2];exact a2,fun j'=>kF rfl⟩
    ·refine⟨Xd,W4,T',aJ,(hw (W.bk r') (.inr ⟨.AT r',by simpa using Yw,by rw[Xd];simp⟩)).trans Yr,a1,by rw[(Zi r').2.2];exact a2,fun j'=>?_⟩;rw[←a3 j'];exact kG Yw
   grind
theorem AW.JY(h:AW E s tm W)(hv:Af s v){r j AA gen:Nat}{t:TypeId}{e:Ls}{xs WW:List e.D}{d:Nat}(hl:s.leaf r j=.arr AA gen t e xs d){u:Value}(WE:W.cv r j=some u){w':World}
  (Vw:AD e d w' W.fz u WW (W.om (.lf r j))) (hw:∀b,b∉W.om (.lf r j)→w'.heap[b]?=W.w.heap[b]?) (V7:w'.heap.size=W.w.heap.size) (V2:w'.os=W.w.os∧w'.tape=W.w.tape∧w'.output=W.w.output):
  AW E (s.app [.leaf r j (.arr AA v t e WW d)]) tm { W with w:=w' }:=by
 obtain⟨hr,hj⟩:=HA hl;show AW E (s.AF (.leaf r j (.arr AA v t e WW d))) tm _;have Vq:=BI s r j (.arr AA v t e WW d);have Vl:=Ea s r j (.arr AA v t e WW d);generalize s.AF (.leaf r j (.arr AA v t e WW d))=s' at Vq Vl;have XA:∀b,W.fz b→w'.heap[b]?=W.w.heap[b]?:=fun b hb=>hw b fun Vm=>(h.sep.own _ b Vm).1 hb;have ZA:∀k,k≠.lf r j→∀b∈W.om k,w'.heap[b]?=W.w.heap[b]?:=fun k hk b hb=>hw b fun Vm=>h.sep.Av k _ hk b hb Vm
 have WD:EL v s s' W { W with w:=w' }:={
  fz:=fun b hb=>hb
  Le:=XA
  leaf:=by
   intro r' j' Z9 W5 t' e' ys d' Ws Vv;rw[Vl]at Ws;by_cases Vm:r=r'∧j=j'
   ·grind
   ·rw[kG (fun hh=>Vm ⟨hh.1,hh.2.1⟩)]at Ws;refine⟨rfl,W5,t',ys,d',Ws,fun _=>⟨rfl,fun p h' e2 u' hc hn=>?_⟩⟩;obtain⟨u0,Wj,bn⟩:=(h.roots r').row Ws;rw[hc]at Wj;injection Wj with Wj;subst Wj
    exact BM p bn hn fun b hb=>hb.elim (fun hb=>ZA _ (by grind) b hb) (XA b)
  box:=fun r' hb Vv=>⟨(Vq.box r').1▸hb,(Vq.box r').2.1.symm,rfl⟩ }
 have XR:Sep E { W with w:=w' }:={
  nodup:=h.sep.nodup
  Av:=h.sep.Av
  own:=fun k b hb=>by obtain⟨a,c,d⟩:=h.sep.own k b hb;grind
  fz:=fun b hb=>by obtain⟨a,c⟩:=h.sep.fz b hb;grind
  frame:=fun b h1 h2=>(hw b fun Vm=>by
   rcases(h.sep.own _ b Vm).2.2 with h3|h3
   all_goals grind).trans (h.sep.frame b h1 h2)
  size:=by show _≤w'.heap.size;rw[V7];exact h.sep.size
  rest:=⟨V2.1.trans h.sep.rest.1,V2.2.1.trans h.sep.rest.2.1,V2.2.2.trans h.sep.rest.2.2⟩ }
 refine h.IE hv WD XR (by rw[Vq.sl,h.DM]) (by rw[Vq.len,h.BQ]) (fun t=>.inl ⟨by show nth _ s'.sl t=_;rw[Vq.sl];rfl,rfl⟩) ?_;intro r';obtain⟨h1,h2⟩:=h.roots r';refine⟨fun j'=>?_,?_⟩
 ·show Ab s' _ (s'.leaf r' j') (W.cv r' j') (W.om (.lf r' j'));rw[Vl];by_cases Vm:r=r'∧j=j'
  ·obtain⟨rfl,rfl⟩:=Vm;rw[kF ⟨rfl,rfl,hr,hj⟩];exact⟨u,WE,Vw⟩
  ·rw[kG (fun hh=>Vm ⟨hh.1,hh.2.1⟩)];exact Ab.DL WD (LA.Dx hv r' j') (ZA _ (by grind)) (h1 j')
 ·rw[(Vq.box r').1];split
  ·rename_i hb;rw[kF hb]at h2;obtain⟨Xd,W4,T',aJ,Yr,a1,a2,a3⟩:=h2;exact⟨Xd,W4,T',aJ,(ZA (.AT r') (by simp) _ (by rw[Xd];simp)).trans Yr,a1,by rw[(Vq.box r').2.2];exact a2,a3⟩
  grind
end
end Go.Ev
namespace Go.Ev
def Plain(w:World)(fz:Nat→Prop)(vs:List Lv)(cells:List Value):Prop:=
 cells.length=vs.length∧∀(m:Nat)(lv:Lv),vs[m]?=some lv→Bs lv.l=false∧∃u,cells[m]?=some u∧∀d w' Vp,lv.l.rd d w' Vp u lv.x []
theorem Da{w:World}{fz:Nat→Prop}:∀(e:Ls)(off:Nat)(vs:List Lv)(cells:List Value) {f:e.D→e.D} {d:Nat} {g g':Nat→Option Value} {x:e.D} {o:List Nat},Bu e off vs=some f→Plain w fz vs cells→
  e.rd d w fz g x o→(∀m,m<e.n→g' m=if off≤m∧m<off+vs.length then cells[m-off]? else g m)→off+vs.length≤e.n∧e.rd d w fz g' (f x) o
 | .nil,off,vs,cells,f,d,g,g',x,o,hf,hp,hr,hg=>by simp[Bu]at hf
 | .one l,off,vs,cells,f,d,g,g',x,o,hf,hp,hr,hg=>by
  simp only[Bu]at hf;split at hf
  ·rename_i v;split at hf
   ·rename_i y hy;injection hf with hf;subst hf
    obtain⟨l',z⟩:=v;obtain⟨e1,e2⟩:=L.AH hy;dsimp only at e1;subst e1;have e2:z=y:=e2;subst e2;obtain⟨ZX,u,hu,Vy⟩:=hp.2 0 ⟨l',z⟩ rfl;simp only[Ls.rd]at hr ⊢;obtain⟨v0,ZO,hr⟩:=hr;have ho:=(L.Aa l' ZX hr (d':=d) (w':=w) (Vp:=fz)).2;subst ho;refine⟨by simp[Ls.n],u,?_,Vy _ _ _⟩;rw[hg 0 (by simp[Ls.n]),kF (by simp),←hu]
   ·cases hf
  ·cases hf
 | .cons l ls,off,vs,cells,f,d,g,g',x,o,hf,hp,hr,hg=>by
  simp only[Bu]at hf;simp only[Ls.rd]at hr ⊢;obtain⟨v0,o1,o2,ZO,h1,h2,rfl⟩:=hr;cases off with
  |zero=>
   simp only at hf;split at hf
   ·cases hf
   ·rename_i v;split at hf
    ·rename_i y hy;injection hf with hf;subst hf
     obtain⟨l',z⟩:=v;obtain⟨e1,e2⟩:=L.AH hy;dsimp only at e1;subst e1;have e2:z=y:=e2;subst e2;obtain⟨ZX,u,hu,Vy⟩:=hp.2 0 ⟨l',z⟩ rfl;have ho:=(L.Aa l' ZX h1 (d':=d) (w':=w) (Vp:=fz)).2;subst ho;refine⟨by simp[Ls.n]<;>omega,u,[],o2,?_,Vy _ _ _,?_,rfl⟩
     ·rw[hg 0 (by simp[Ls.n]<;>omega),kF (by simp),←hu]
     ·exact Ls.BG ls h2 fun j hj=>by rw[hg (j+1) (by simp[Ls.n]<;>omega),kG (by simp)]
    ·cases hf
   ·rename_i v u0 YW;split at hf
    ·rename_i y f' hy Yq;injection hf with hf;subst hf
     obtain⟨l',z⟩:=v;obtain⟨e1,e2⟩:=L.AH hy;dsimp only at e1;subst e1;have e2:z=y:=e2;subst e2;obtain⟨ZX,u,hu,Vy⟩:=hp.2 0 ⟨l',z⟩ rfl;have ho:=(L.Aa l' ZX h1 (d':=d) (w':=w) (Vp:=fz)).2;subst ho
     obtain⟨c0,cs,rfl⟩:∃c0 cs,cells=c0::cs:=by
      cases cells with
      |nil=>grind
      |cons c cs=>grind
     obtain⟨ih1,ih2⟩:=Da ls 0 (u0::YW) cs (g':=fun j=>g' (j+1)) Yq ⟨by have:=hp.1;grind,fun m lv hm=>by
      have:=hp.2 (m+1) lv (by simpa using hm);grind⟩ h2 (fun m hm=>by
       rw[hg (m+1) (by simp[Ls.n]<;>omega)];grind)
     refine⟨by simp[Ls.n]at ih1 ⊢ <;> omega,u,[],o2,?_,Vy _ _ _,ih2,rfl⟩;rw[hg 0 (by simp[Ls.n]<;>omega),kF (by simp),←hu]
    ·cases hf
  |succ off=>
   simp only at hf;split at hf
   ·rename_i f' Yq;injection hf with hf;subst hf
    obtain⟨ih1,ih2⟩:=Da ls off vs cells (g':=fun j=>g' (j+1)) Yq hp h2 (fun m hm=>by
     rw[hg (m+1) (by simp[Ls.n]<;>omega)];grind)
    refine⟨by simp[Ls.n]<;>omega,v0,o1,o2,?_,h1,ih2,rfl⟩;rw[hg 0 (by simp[Ls.n]<;>omega),kG (by omega)];exact ZO
   ·cases hf
theorem KE{w:World}{fz:Nat→Prop}:∀(e:Ls)(j:Nat) {G:(t:TypeId)→(f:Ls)→Option (List f.D→List f.D)} {hh:e.D→e.D} {g:Nat→Option Value} {x:e.D} {o:List Nat} {t:TypeId} {f:Ls} {h':Value},CL e j G=some hh→
  e.kinds[j]?=some (.sl t f)→e.rd 2 w fz g x o→g j=some h'→∃(fn:List f.D→List f.D) (ys:List f.D) (o':List Nat),G t f=some fn∧AD f 2 w fz h' ys o'∧(∀b∈o',b∈o)∧(o.Nodup→o'.Nodup)∧
   ∀w',AD f 2 w' fz h' (fn ys) o'→(∀b,b∈o∨fz b→b∉o'→w'.heap[b]?=w.heap[b]?)→(∀b,fz b→b∉o')→o.Nodup→e.rd 2 w' fz g (hh x) o
 | .nil,j,G,hh,g,x,o,t,f,h',hm,hk,hr,hg=>by simp[CL]at hm
 | .one l,j,G,hh,g,x,o,t,f,h',hm,hk,hr,hg=>by
  simp only[CL]at hm;simp only[Ls.rd]at hr;obtain⟨v,hv,hr⟩:=hr;cases j with
  |succ j=>cases hm
  |zero=>
   simp[Ls.kinds]at hk;subst hk;rw[hg]at hv;injection hv with hv;subst hv
   refine⟨hh,x,o,hm,hr,fun b hb=>hb,id,fun w' WV _ _ _=>?_⟩;simp only[Ls.rd];exact⟨h',hg,WV⟩
 | .cons l ls,j,G,hh,g,x,o,t,f,h',hm,hk,hr,hg=>by
  simp only[CL]at hm;simp only[Ls.rd]at hr;obtain⟨v,o1,o2,hv,h1,h2,rfl⟩:=hr;cases j with
  |zero=>
   simp[Ls.kinds]at hk;subst hk;rw[hg]at hv;injection hv with hv;subst hv
   simp only at hm;split at hm
   ·rename_i fn YH;injection hm with hm;subst hm
    refine⟨fn,x.1,o1,YH,h1,fun b hb=>kK _ hb,fun hn=>(kP.1 hn).1,fun w' WV hf hz hn=>?_⟩;simp only[Ls.rd];refine⟨h',o1,o2,hg,WV,Ls.AI ls h2 (fun b hb=>hf b (hb.imp (kH _) id) ?_) (fun b hb=>hb),rfl⟩;grind
   ·cases hm
  |succ j=>
   simp only at hm;split at hm
   ·rename_i X7 Yr;injection hm with hm;subst hm
    obtain⟨fn,ys,o',a1,a2,a3,a4,a5⟩:=KE ls j Yr (by simpa[Ls.kinds]using hk) h2 (show(fun j=>g (j+1)) j=_ from hg);refine⟨fn,ys,o',a1,a2,fun b hb=>kH _ (a3 b hb),fun hn=>a4 (kP.1 hn).2.1,fun w' WV hf hz hn=>?_⟩;simp only[Ls.rd];refine⟨v,o1,o2,hv,L.AI l h1 (fun b hb=>hf b (hb.imp (kK _) id) ?_) (fun b hb=>hb),a5 w' WV (fun b hb ZL=>hf b (hb.imp (kH _) id) ZL) hz (kP.1 hn).2.1,rfl⟩;grind
   ·cases hm
theorem FB:∀(e:Ls),(∀l∈e.kinds,Bs l=false)→Br e=true
 | .nil,_=>rfl
 | .one l,h=>by simp[Br,h l (by simp[Ls.kinds])]
 | .cons l ls,h=>by simp[Br,h l (by simp[Ls.kinds]),FB ls fun l hl=>h l (by simp[Ls.kinds,hl])]
theorem FX{α:Type}(xs:List α)(i:Nat)(f:α→α)(m:Nat)(hm:m<(xs.modify i f).length):(xs.modify i f)[m]=if i=m then f (xs[m]'(by grind))else xs[m]'(by grind):=by grind
theorem HE{e:Ls}{d:Nat}{w:World}{fz:Nat→Prop}{a:Addr}{n k:Nat}{xs:List e.D}{o:List Nat}(hr:AD e d w fz (.slice (some a) n k) xs o)(hd:0<d)(hn:o.Nodup)(hz:∀b∈o,¬fz b){i:Nat}(hi:i<n)
  {off:Nat} {cells:List Value} {F:e.D→e.D} (WH:off+cells.length≤e.n)
  (hF:∀g g' x oo,e.rd (dec d) w fz g x oo→(∀m,m<e.n→g' m=if off≤m∧m<off+cells.length then cells[m-off]? else g m)→e.rd (dec d) w fz g' (F x) oo):
  a.spot=none∧∃arr T fr,w.heap[a.block]?=some (.cells arr T fr)∧(∀j,j<arr.size→¬(fr.1≤j∧j<fr.2))∧a.off+(i*e.n+off)+cells.length≤arr.size∧a.block∈o∧
   ∀w',NL w w' a.block (B8 cells (a.off+(i*e.n+off)) arr) T fr→AD e d w' fz (.slice (some a) n k) (xs.modify i F) o:=by
 obtain⟨A,c,hv,hc,_,WK⟩:=hr.KX;injection hv with hA hl hk
 subst hA;subst hl;subst hk;obtain⟨arr,T,fr,os,hs,hh,V7,V0,V5,ho,_⟩:=WK a rfl (.inr hd);have ho:=ho hd;have V0:=V0 hd
 have hmul:i*e.n+e.n≤k*e.n:=by have:(i+1)*e.n≤k*e.n:=kf _ (by omega);rw[kd,lk]at this;omega
 have Xj:a.off+(i*e.n+off)+cells.length≤arr.size:=by omega
 refine⟨hs,arr,T,fr,hh,V0,Xj,by rw[ho];simp,fun w' V1=>?_⟩;have V4:=CV cells (a.off+(i*e.n+off)) arr Xj;have hd':decide (0<d)=true:=by simpa using hd
 refine⟨some a,k,by simp,by simpa using hc,?_⟩;refine .inr ⟨fun q=>(B8 cells (a.off+(i*e.n+off)) arr)[a.off+q]?,os,⟨hs,_,T,fr,V1.here,by rw[Ap];exact V7,fun _=>by rw[Ap];exact V0,fun _=>rfl⟩,fun m hm=>?_,?_⟩
 ·have XL:m<xs.length:=by simpa using hm
  have aX:a.block∉os m:=by intro Vm;rw[ho]at hn;exact(kQ.1 hn).1 (kA.2 ⟨m,kM.2 XL,Vm⟩)
  rw[FX]
  have XQ:∀ {g x},e.rd (dec d) w fz g x (os m)→e.rd (dec d) w' fz g x (os m):=fun h=>Ls.AI e h (fun b hb=>V1.CJ b (by
   rintro rfl
   rcases hb with hb|hb
   ·exact aX hb
   ·exact hz _ (by rw[ho];simp) hb)) fun _ hb=>hb
  by_cases Xb:i=m
  ·subst Xb;rw[kF rfl];refine XQ (hF _ _ _ _ (V5 i XL) fun q hq=>?_);show(B8 cells (a.off+(i*e.n+off)) arr)[a.off+(i*e.n+q)]?=_;rw[V4];by_cases hc:off≤q∧q<off+cells.length
   ·rw[kF (by omega),kF hc];congr 1;omega
   ·rw[kG (by omega),kG hc]
  ·rw[kG Xb];refine XQ (Ls.BG e (V5 m XL) fun q hq=>?_);show(B8 cells (a.off+(i*e.n+off)) arr)[a.off+(m*e.n+q)]?=_;rw[V4,kG];intro hc;rcases lY Xb with h1|h1
   ·have:(i+1)*e.n≤m*e.n:=kf _ h1;rw[kd,lk]at this;omega
   ·have:(m+1)*e.n≤i*e.n:=kf _ h1;rw[kd,lk]at this;omega
 grind
theorem Kq{w:World}{fz:Nat→Prop}{e:Ls}{vs:List Lv}{y:e.D}{cells:List Value}(hy:pack e vs=some y)(hp:Plain w fz vs cells){g:Nat→Option Value}(hg:∀m,m<e.n→g m=cells[m]?):
  Br e=true∧vs.length=e.n∧∀d w' Vp,e.rd d w' Vp g y []:=by
 have Xv:=Ae e vs y hy;have hlen:vs.length=e.n:=by rw[←Xv,B9]
 have Zn:Br e=true:=FB e fun l hl=>by rw[←EC e y,Xv]at hl;obtain⟨lv,hm,rfl⟩:=kt.1 hl;obtain⟨m,hm⟩:=ko hm;exact(hp.2 m lv hm).1
 refine⟨Zn,hlen,fun d w' Vp=>?_⟩
 have:e.rd 0 w' Vp g y []:=Bg e fun j lv hj=>by
  rw[Xv]at hj;have Vs:j<e.n:=by rw[←hlen];exact(j9.1 hj).1
  obtain⟨_,u,hu,hr⟩:=hp.2 j lv hj;grind
 exact(Ls.Aa e Zn this).1
theorem ED{α:Type}:∀(xs:List α)(i:Nat)(y:α),CZ xs i y=xs.modify i fun _=>y
 | [],i,y=>by cases i<;>simp[CZ]
 |x::xs,0,y=>by simp[CZ]
 |x::xs,i+1,y=>by simp[CZ,ED xs i y]
theorem IP{x:Nat×Nat}{p:List (Nat×Nat)}(hp:p≠[]){q:List (Nat×Nat)}{i off:Nat}(h:Am (x::p)=some (q,i,off)):∃q',q=x::q'∧Am p=some (q',i,off):=by
 cases p with
 |nil=>grind
 |cons y r=>
  simp only[Am]at h;grind
theorem CQ{os:Nat→List Nat}:∀ {l:List Nat},(l.flatMap os).Nodup→∀ {i j:Nat},i∈l→j∈l→i≠j→∀b∈os i,b∉os j
 | [],_,i,j,hi,_,_=>by cases hi
 |x::l,h,i,j,hi,hj,Vv=>by
  rw[ke]at h;obtain⟨h1,h2,h3⟩:=kP.1 h;intro b hb Vz;rcases kS.1 hi with XJ|XJ
  ·grind
  ·rcases kS.1 hj with cF|cF
   ·grind
   ·exact CQ h2 XJ cF Vv b hb Vz
theorem CR{os:Nat→List Nat}:∀ {l:List Nat},(l.flatMap os).Nodup→∀ {i:Nat},i∈l→(os i).Nodup
 | [],_,i,hi=>by cases hi
 |x::l,h,i,hi=>by grind
theorem K6{vs:List Lv}{cells:List Value}{w:World}{fz:Nat→Prop}(hp:Plain w fz vs cells){i off:Nat}{e':Ls}{a:Addr}{n k:Nat}(hi:i<n):∀(p q:List (Nat×Nat)) {e:Ls} {d:Nat} {h:Value} {xs:List e.D} {o:List Nat} {f:List e.D→List e.D},
  Gw vs p e=some f→AD e d w fz h xs o→o.Nodup→(∀b∈o,¬fz b)→0<d→(p.length≤1∨d=2)→Am p=some (q,i,off)→Je w q e h e' (.slice (some a) n k)→
  a.spot=none∧∃arr T fr,w.heap[a.block]?=some (.cells arr T fr)∧(∀j,j<arr.size→¬(fr.1≤j∧j<fr.2))∧a.off+(i*e'.n+off)+cells.length≤arr.size∧a.block∈o∧
   ∀w',NL w w' a.block (B8 cells (a.off+(i*e'.n+off)) arr) T fr→AD e d w' fz h (f xs) o
 | [],q,e,d,h,xs,o,f,hm,hr,hn,hz,hd,Xu,hs,Wo=>by simp[Gw]at hm
 | [(i0,j0)],q,e,d,h,xs,o,f,hm,hr,hn,hz,hd,Xu,hs,Wo=>by
  simp only[Am,Option.some.injEq,Prod.mk.injEq]at hs;obtain⟨rfl,rfl,rfl⟩:=hs;obtain⟨rfl,rfl⟩:=Wo;simp only[Gw]at hm;split at hm
  ·rename_i y hy;injection hm with hm;subst hm
   split at hy
   ·rename_i hc;simp only[j8,kI]at hc;obtain⟨rfl,hlen⟩:=hc
    have:=HE (F:=fun _=>y) (off:=0) (cells:=cells) hr hd hn hz hi (by rw[hp.1,hlen];omega) (fun g g' x oo hx hg=>by
     obtain⟨Zn,_,Wa⟩:=Kq hy hp (g:=g') fun m hm=>by rw[hg m hm,kF (by rw[hp.1,hlen];omega)];simp
     have:=(Ls.Aa e' Zn hx (d':=0) (w':=w) (Vp:=fz)).2;grind)
    simpa only[ED]using this
   ·cases hy
  ·split at hm
   ·rename_i f' Yq;injection hm with hm;subst hm
    have hlen:∀g x oo,e'.rd (dec d) w fz g x oo→j0+vs.length≤e'.n:=fun g x oo hx=>(Da e' j0 vs cells (g':=fun m=>if j0≤m∧m<j0+vs.length then cells[m-j0]? else g m) Yq hp hx fun m _=>rfl).1;obtain⟨A,c,hv,hc,_,WK⟩:=hr.KX;injection hv with hA hl hk
    subst hA;subst hl;subst hk;obtain⟨arr,T,fr,os,_,_,_,_,V5,_,_⟩:=WK a rfl (.inr hd);have WH:=hlen _ _ _ (V5 i0 hi);exact HE (F:=f') (off:=j0) (cells:=cells) hr hd hn hz hi (by rw[hp.1];exact WH) (fun g g' x oo hx hg=>(Da e' j0 vs cells Yq hp hx fun m hm=>by rw[hg m hm,hp.1]).2)
   ·cases hm
 |(i0,j0)::p0::ps,q,e,d,h,xs,o,f,hm,hr,hn,hz,hd,Xu,hs,Wo=>by
  have cd:d=2:=Xu.resolve_left (by simp);subst cd;obtain⟨q',rfl,aG⟩:=IP (by simp) hs;simp only[Gw]at hm;split at hm
  ·rename_i hh hM;injection hm with hm;subst hm
   obtain⟨a0,len,c,t,ff,h',rfl,iK,ZJ,hk,V6,dH⟩:=Wo;obtain⟨A,cc,hv,hc,_,WK⟩:=hr.KX;injection hv with hA hl Wq
   subst hA;subst hl;subst Wq;obtain⟨arr,T,fr,os,_,eB,V7,V0,V5,ho,_⟩:=WK a0 rfl (.inr hd);have ho:=ho hd;have V0:=V0 hd
   have bI:arr[a0.off+(i0*e.n+j0)]?=some h':=by simp only[World.cell?,at_,eB]at V6;simpa using V6
   have Wi:=hn;rw[ho]at Wi
   have dM:(os i0).Nodup:=by exact CR (kQ.1 Wi).2 (kM.2 ZJ)
   have Wb:∀m,m<xs.length→∀b∈os m,b∈o:=fun m hm b hb=>by rw[ho];exact kB _ (kA.2 ⟨m,kM.2 hm,hb⟩)
   have Wh:∀m,m<xs.length→m≠i0→∀b∈os i0,b∉os m:=by intro m hm Vv b hb Vz;have h3:=(kQ.1 Wi).2;have:=CQ h3 (kM.2 ZJ) (kM.2 hm) (fun e=>Vv e.symm) b hb;exact this Vz
   obtain⟨fn,ys,o',YH,Vr,Wp,fL,Xm⟩:=KE e j0 hM hk (V5 i0 ZJ) bI;obtain⟨XO,arr2,T2,fr2,ek,XT,Xj,Vm,dQ⟩:=K6 hp hi (p0::ps) q' YH Vr (fL dM) (fun b hb=>hz b (Wb i0 ZJ b (Wp b hb))) hd (.inr rfl) aG dH;refine⟨XO,arr2,T2,fr2,ek,XT,Xj,Wb i0 ZJ _ (Wp _ Vm),fun w' V1=>?_⟩;have Yn:=dQ w' V1;have fD:a0.block≠a.block:=fun e=>(kQ.1 Wi).1 (kA.2 ⟨i0,kM.2 ZJ,by rw[e];exact Wp _ Vm⟩);refine⟨some a0,c,by simp,by simpa using hc,.inr ⟨fun qq=>arr[a0.off+qq]?,os,⟨iK,arr,T,fr,(V1.CJ _ fD).trans eB,V7,fun _=>V0,fun _=>rfl⟩,fun m hm=>?_,?_⟩⟩
   ·have XL:m<xs.length:=by simpa using hm
    rw[FX];by_cases Xb:i0=m
    ·subst Xb;rw[kF rfl];refine Xm w' Yn (fun b hb ZL=>V1.CJ b (fun e=>ZL (e▸Vm))) (fun b hb Vz=>hz b (Wb i0 ZJ b (Wp b Vz)) hb) dM
    ·rw[kG Xb];refine Ls.AI e (V5 m XL) (fun b hb=>V1.CJ b ?_) fun _ hb=>hb
     rintro rfl
     rcases hb with hb|hb
     ·exact Wh m XL (fun e=>Xb e.symm) _ (Wp _ Vm) hb
     ·exact hz _ (Wb i0 ZJ _ (Wp _ Vm)) hb
   grind
  ·cases hm
end Go.Ev
namespace Go.Ev
def FK(w:World)(fz:Nat→Prop)(g:Bool)(ls:List (L×Nat))(u:Value)(vs:List Lv)(own:Nat→List Nat):Prop:=
 vs.map (·.l)=ls.map (·.1)∧(match g with
  |true=>∃cs:Array Value,u=.agg cs∧cs.size=ls.length
  |false=>ls.length=1)∧∀(j:Nat)(p:L×Nat)(lv:Lv),ls[j]?=some p→vs[j]?=some lv→∃y,Ay g u j=some y∧lv.l.rd p.2 w fz y lv.x (own j)
def NF(w:World)(fz:Nat→Prop)(ls:List (L×Nat))(u:Value)(vs:List Lv)(AT:Nat)(own:Nat→List Nat):Prop:=
 u=.pointer (some ⟨AT,0,none⟩)∧vs.map (·.l)=ls.map (·.1)∧∃(arr:Array Value) (T:TypeId) (fr:Nat×Nat),w.heap[AT]?=some (.cells arr T fr)∧(∀j,j<arr.size→¬(fr.1≤j∧j<fr.2))∧arr.size=ls.length∧
  ∀(j:Nat)(p:L×Nat)(lv:Lv),ls[j]?=some p→vs[j]?=some lv→∃y,arr[j]?=some y∧lv.l.rd p.2 w fz y lv.x (own j)
def NK(w:World)(fz:Nat→Prop)(pm:PM)(u:Value)(vs:List Lv)(AT:Nat)(own:Nat→List Nat):Prop:=match pm with
 | .val g ls=>FK w fz g (ls.map fun l=>(l,0)) u vs fun _=>[]
 | .box ls=>NF w fz ls u vs AT own
 | .row g ls=>FK w fz g ls u vs own∧∀(j:Nat)(p:L×Nat),ls[j]?=some p→Bs p.1=true→p.2=4→Ay g u j=some (.slice none 0 0)
 | .fn f=>u=.func (.func f) #[] #[]∧vs=[]
def Jj(w:World)(fz:Nat→Prop)(pm:PM)(u:Value)(vs:List Lv)(AT:Nat)(own:Nat→List Nat):Prop:=match pm with
 | .val _ _=>vs=[]
 | .box ls=>NF w fz ls u vs AT own
 | .row g ls=>FK w fz g ls u vs own
 | .fn _=>vs=[]
def EH(w:World)(fz:Nat→Prop)(om:Nat→List Nat):List (Bool×List (L×Nat))→List Value→List (List Lv)→Nat→Prop
 | [],[],[],_=>True
 |(g,ls)::rs,u::us,vs::Vn,off=>FK w fz g ls u vs (fun j=>om (off+j))∧EH w fz om rs us Vn (off+ls.length)
 |_,_,_,_=>False
structure Ca(ps:List PM)(w:World)(fz:Nat→Prop)(args:List Value)(Vn:List (List Lv))(bk:Nat→Nat)(om:Key→List Nat):Prop where
 len:args.length=ps.length
 BQ:Vn.length=ps.length
 each:∀(i:Nat)(pm:PM)(u:Value)(vs:List Lv),ps[i]?=some pm→args[i]?=some u→Vn[i]?=some vs→NK w fz pm u vs (bk i) fun j=>om (.lf i j)
 AT:∀i,om (.AT i)=match ps[i]? with
  |some (.box _)=>[bk i]
  |_=>[]
 none:∀i,(∀ls,ps[i]?≠some (.box ls))→(∀g ls,ps[i]?≠some (.row g ls))→∀j,om (.lf i j)=[]
 box:∀i ls,ps[i]?=some (.box ls)→∀j,ls.length≤j→om (.lf i j)=[]
 row:∀i g ls,ps[i]?=some (.row g ls)→∀j,ls.length≤j→om (.lf i j)=[]
 fl:∀k,om (.fl k)=[]
 nodup:∀k,(om k).Nodup
 Av:∀k k',k≠k'→∀b∈om k,b∉om k'
 own:∀k,∀b∈om k,¬fz b∧b<w.heap.size
 fz:∀b,fz b→b<w.heap.size
def JZ:List Value→Value
 | [u]=>u
 |us=>.tuple us.toArray
structure El(g:Sm)(w:World)(fz:Nat→Prop)(args:List Value)(bk:Nat→Nat)(om:Key→List Nat)(z:g.outs.D)(r:Value)(w':World)(Vp:Nat→Prop)(WR:Key→List Nat)(rv:List Value)(vsR vsP:List (List Lv)):Prop where
 outs:unpack g.outs z=vsR.flatten++vsP.flatten
 res:r=JZ rv
 IG:EH w' Vp (fun k=>WR (.fl k)) g.rs rv vsR 0
 len:vsP.length=g.ps.length
 each:∀(i:Nat)(pm:PM)(u:Value)(vs:List Lv),g.ps[i]?=some pm→args[i]?=some u→vsP[i]?=some vs→Jj w' Vp pm u vs (bk i) fun j=>WR (.lf i j)
 AT:∀i,WR (.AT i)=om (.AT i)
 nodup:∀k,(WR k).Nodup
 Av:∀k k',k≠k'→∀b∈WR k,b∉WR k'
 own:∀k,∀b∈WR k,¬Vp b∧b<w'.heap.size∧(w.heap.size≤b∨∃k0,b∈om k0)
 fz:∀b,Vp b→b<w'.heap.size∧(fz b∨w.heap.size≤b∨∃k0,b∈om k0)
 frame:∀b,b<w.heap.size→(∀k,b∉om k)→w'.heap[b]?=w.heap[b]?
 size:w.heap.size≤w'.heap.size
 rest:w'.os=w.os∧w'.tape=w.tape∧w'.output=w.output
 kept:∀(i:Nat) (ls:List (L×Nat)) (j:Nat) (p:L×Nat),g.ps[i]?=some (.box ls)→ls[j]?=some p→p.2=3→w'.cell? ⟨bk i,j,none⟩=w.cell? ⟨bk i,j,none⟩
structure ME(g:Sm)(w:World)(fz:Nat→Prop)(z:g.outs.D)(r:Value)(w':World)(Vp:Nat→Prop)(b:Nat):Prop where
 box:NF w' Vp g.Gx r (unpack g.outs z) b fun _=>[]
 new:w.heap.size≤b∧b<w'.heap.size∧¬Vp b
 fz:∀x,Vp x→x<w'.heap.size∧(fz x∨w.heap.size≤x)
 frame:∀x,x<w.heap.size→w'.heap[x]?=w.heap[x]?
 size:w.heap.size≤w'.heap.size
 rest:w'.os=w.os∧w'.tape=w.tape∧w'.output=w.output
def PK(P:Program)(T:List (String×Array Value))(w:World)(io:Nat→Prop):Prop:=∀x∈T,w.var? P x.1=some x.2∧∃g,P.globalNamed x.1=some g∧¬io g∧g<w.heap.size
def Dz(P:Program)(T:List (String×Array Value))(f:FuncId)(g:MB):Prop:=
 ∀(args:List Value)(w:World)(fz:Nat→Prop) (Vn:List (List Lv)) (bk:Nat→Nat) (om:Key→List Nat) (x:g.s.ins.D) (z:g.s.outs.D),PK P T w (fun b=>∃k,b∈om k)→Ca g.s.ps w fz args Vn bk om→pack g.s.ins Vn.flatten=some x→g.f x=some z→
  Calls P f args.toArray w fun en w'=>match g.s.mk? with
   |false=>∃r Vp WR rv vsR vsP,en=.returned r∧El g.s w fz args bk om z r w' Vp WR rv vsR vsP
   |true=>∃r Vp b,en=.returned r∧ME g.s w fz z r w' Vp b
def HJ(w:World)(fz:Nat→Prop)(ls:List L)(u:Value)(vs:List Lv):Prop:=
 ∃(b:Nat) (arr:Array Value) (T:TypeId) (fr:Nat×Nat),u=.pointer (some ⟨b,0,none⟩)∧fz b∧w.heap[b]?=some (.cells arr T fr)∧arr.size=ls.length∧vs.map (·.l)=ls∧∀(j:Nat)(lv:Lv),vs[j]?=some lv→∃y,arr[j]?=some y∧lv.l.rd 0 w fz y lv.x []
def Dy(w:World)(fz:Nat→Prop):List (List L)→List Value→List Lv→Prop
 | [],[],vs=>vs=[]
 |ls::bs,u::us,vs=>∃x y,vs=x++y∧HJ w fz ls u x∧Dy w fz bs us y
 |_,_,_=>False
def Ky(w:World)(fz:Nat→Prop)(rowv:Value):KW→Value→List Lv→Prop
 | .box ls,u,vs=>HJ w fz ls u vs
 | .EI g bs,u,vs=>∃(b:Nat) (T:TypeId) (fr:Nat×Nat) (lb:Array Value),u=.pointer (some ⟨b,0,none⟩)∧fz b∧w.heap[b]?=some (.cells #[.func (.func g) #[] lb] T fr)∧Dy w fz bs lb.toList vs
 | .row,u,vs=>vs=[]∧∃(b:Nat) (T:TypeId) (fr:Nat×Nat),u=.pointer (some ⟨b,0,none⟩)∧fz b∧w.heap[b]?=some (.cells #[rowv] T fr)
def EJ(w:World)(fz:Nat→Prop)(rowv:Value):List KW→List Value→List Lv→Prop
 | [],[],vs=>vs=[]
 |c::cs,u::us,vs=>∃x y,vs=x++y∧Ky w fz rowv c u x∧EJ w fz rowv cs us y
 |_,_,_=>False
def OA(P:Program)(g:FuncId)(σ:Ow):Prop:=
 ∀(w:World)(fz:Nat→Prop)(us:List Value)(vs:List Lv) (y:(E4 (σ.JG.flatMap KW.kinds)).D) (AT off n c:Nat) (G:Nat→Int),EJ w fz (.slice (some ⟨AT,off,none⟩) n c) σ.JG us vs→pack (E4 (σ.JG.flatMap KW.kinds)) vs=some y→
  (∀t,t<n→w.cell? ⟨AT,off+t,none⟩=some (.int .i64 (G t)))→n≤20→∀i j:Nat,i<n→j<n→∀b,σ.lt y (G i) (G j)=some b→
  Calls P g (#[.int .i64 i,.int .i64 j]++us.toArray) w fun e w'=>e=.returned (.bool b)∧∃q os,w'=Go.Sort.grow (w.drewN q) os
structure OB(P:Program)(f:FuncId)(t:TypeId):Prop where
 many:∀(α:Type) [Inhabited α] (enc:α→Value),(∀x,(enc x).oneCell'=true)→∀(lt:α→α→Bool)(g:Nat)(lb:Array Value),(∀args w,(callFunc g args).run P w=.ok (.enter g args) w)→∀(AT off c:Nat)(d:Array α),2≤d.size→d.size≤20→∀(w:World),
  (∀(m:Nat)(os:Array Obj)(dk:Array α),dk.size=d.size→∀i j:Nat,i<d.size→j<d.size→
   Calls P g (#[.int .i64 i,.int .i64 j]++lb) (Go.Sort.grow (Go.Sort.putRow enc (Go.Sort.ahead w m) AT off dk) os) fun e w'=>e=.returned (.bool (lt dk[i]! dk[j]!))∧∃q Wc,w'=Go.Sort.grow ((Go.Sort.grow (Go.Sort.putRow enc (Go.Sort.ahead w m) AT off dk) os).drewN q) Wc)→
  Go.Sort.Holds enc w AT off d→AT<w.heap.size→
  Calls P f #[.iface t (.slice (some ⟨AT,off,none⟩) d.size c),.func (.func g) #[] lb] w fun e w'=>e=.returned (.tuple #[])∧∃n os,w'=Go.Sort.grow (Go.Sort.putRow enc (Go.Sort.ahead w n) AT off (Go.Sort.insertionSort lt d 0 d.size)) os
 Oi:∀(p:Option Addr)(n c:Nat),n≤1→∀(lf:Fn)(la lb:Array Value)(w:World),Calls P f #[.iface t (.slice p n c),.func lf la lb] w fun e w'=>e=.returned (.tuple #[])∧∃os,w'=Go.Sort.grow w os
 body : ∃ (fn : Func) (c : Code), P.funcs[f]? = some fn ∧ fn.body = some c ∧ (fn.name == "runtime.NumGoroutine") = false
structure Nz(P:Program)(f g:FuncId)(σ:Ow):Prop where
 sort:OB P f σ.t
 less:OA P g σ
 enters:∀args w,(callFunc g args).run P w=.ok (.enter g args) w
def Jh (P : Program) (T : List (String × Array Value)) (env : FuncId → Option MB) : Prop := ∀ f g, env f = some g → Dz P T f g ∧ ∃ (fn : Func) (c : Code), P.funcs[f]? = some fn ∧ fn.body = some c ∧ (fn.name == "runtime.NumGoroutine") = false
structure Kz(P:Program)(T:List (String×Array Value))(env:Env):Prop where
 fns:Jh P T env.fn
 PZ:∀f g σ,env.Pf f g=some σ→Nz P f g σ
 O1:MD P env
def DN(P:Program)(E:Cy)(env:Env):Prop:=Kz P E.Nx env∧∀x∈E.Nx,E.w0.var? P x.1=some x.2∧∃g,P.globalNamed x.1=some g∧¬E.io g∧g<E.base
theorem DN.Pd{P:Program}{E:Cy}{env:Env}(h:DN P E env){W:Wd}(hs:Sep E W){om:Key→List Nat}(ho:∀k,∀b∈om k,∃k',b∈W.om k'):PK P E.Nx W.w (fun b=>∃k,b∈om k):=by
 intro x hx;obtain⟨h1,g,h2,h3,h4⟩:=h.2 x hx;have hg:W.w.heap[g]?=E.w0.heap[g]?:=hs.frame g h4 h3;refine⟨?_,g,h2,?_,by have:=hs.size;omega⟩
 ·unfold World.var? at h1 ⊢;grind
 ·rintro ⟨k,hb⟩
  obtain⟨k',hb⟩:=ho k g hb;rcases(hs.own k' g hb).2.2 with h5|h5
  all_goals grind
section
variable {P:Program}{E:Cy}{s s':St}{W W':Wd}{v:Nat}{tm:Array Value}
theorem AW.Mf(h:AW E s tm W)(hv:Af s v)(Vq:Jl s s')(chk:Nat→Nat→Prop)(chb:Nat→Prop)
  (hl:∀r j,¬chk r j→s'.leaf r j=s.leaf r j) (WE:∀r,¬chb r→∀j,W'.cv r j=W.cv r j) (gF:∀r j,chb r→chk r j) (Zb:∀r,W'.bk r=W.bk r)
  (YP:∀r j,¬chk r j→W'.om (.lf r j)=W.om (.lf r j)) (fJ:∀r,W'.om (.AT r)=W.om (.AT r))
  (hw:∀b,(W.fz b∨(∃r,¬chb r∧b∈W.om (.AT r))∨∃r j,¬chk r j∧b∈W.om (.lf r j))→W'.w.heap[b]?=W.w.heap[b]?) (XA:∀b,W.fz b→W'.fz b)
  (Vl:∀(r j AA gen:Nat)(t:TypeId)(e:Ls)(xs:List e.D)(d:Nat),chk r j→s'.leaf r j=.arr AA gen t e xs d→AA≠v→W'.cv r j=W.cv r j∧∃gen0 t0 xs0 d0,s.leaf r j=.arr AA gen0 t0 e xs0 d0∧(gen≠v→gen=gen0∧W'.w=W.w))
  (XR:Sep E W') (WQ:EL v s s' W W'→∀r j,chk r j→Ab s' W' (s'.leaf r j) (W'.cv r j) (W'.om (.lf r j)))
  (WN:∀r,chb r→(s.root r).box=true→∃(arr:Array Value) (T:TypeId) (fr:Nat×Nat),W'.w.heap[W.bk r]?=some (.cells arr T fr)∧(∀j,j<arr.size→¬(fr.1≤j∧j<fr.2))∧arr.size=(s.root r).ls.length∧∀j,W'.cv r j=arr[j]?):AW E s' tm W':=by
 have WD:EL v s s' W W':={
  fz:=XA
  Le:=fun b hb=>hw b (.inl hb)
  leaf:=by
   intro r j AA gen t e xs d Ze Vv;by_cases hc:chk r j
   ·grind
   ·rw[hl r j hc]at Ze;refine⟨WE r (fun hb=>hc (gF r j hb)) j,gen,t,xs,d,Ze,fun _=>⟨rfl,fun p h' e' u' WS hn=>?_⟩⟩;obtain⟨u0,Wj,Vw⟩:=(h.roots r).row Ze;rw[WS]at Wj;injection Wj with Wj;subst Wj
    exact BM p Vw hn fun b hb=>hw b (hb.elim (fun hb=>.inr (.inr ⟨r,j,hc,hb⟩)) .inl)
  box:=fun r hb Vv=>⟨(Vq.box r).1▸hb,(Vq.box r).2.1.symm,Zb r⟩ }
 refine h.IE hv WD XR (by rw[Vq.sl,h.DM]) (by rw[Vq.len,h.BQ]) (fun t=>.inl ⟨by show nth _ s'.sl t=_;rw[Vq.sl];rfl,rfl⟩) ?_;intro r;obtain⟨h1,h2⟩:=h.roots r;refine⟨fun j=>?_,?_⟩
 ·show Ab s' W' (s'.leaf r j) (W'.cv r j) (W'.om (.lf r j));by_cases hc:chk r j
  ·grind
  ·rw[hl r j hc,WE r (fun hb=>hc (gF r j hb)) j,YP r j hc];exact Ab.DL WD (LA.Dx hv r j) (fun b hb=>hw b (.inr (.inr ⟨r,j,hc,hb⟩))) (h1 j)
 ·rw[(Vq.box r).1,fJ,Zb];split
  ·rename_i hb;rw[kF hb]at h2;obtain⟨Xd,W4,T',aJ,Yr,a1,a2,a3⟩:=h2;refine⟨Xd,?_⟩;by_cases hc:chb r
   ·obtain⟨arr,T,fr,q1,q2,q3,q4⟩:=WN r hc hb;exact⟨arr,T,fr,q1,q2,by rw[q3,(Vq.box r).2.2],q4⟩
   ·exact⟨W4,T',aJ,(hw _ (.inr (.inl ⟨r,hc,by rw[Xd];simp⟩))).trans Yr,a1,by rw[(Vq.box r).2.2];exact a2,fun j=>(WE r hc j).trans (a3 j)⟩
  grind
structure Up where
 r:Nat
 lo:Nat
 news:List LA
def Ek(us:List Up):List Wr:=us.flatMap fun u=>BD u.r u.lo u.news
theorem IX:∀(us:List Up)(s:St),(∀u∈us,(u.news=[]∨u.r<s.ro.length)∧u.lo+u.news.length≤(s.root u.r).ls.length)→Jl s (s.app (Ek us))∧
  ∀r j,(s.app (Ek us)).leaf r j=us.foldl (fun a u=>if r=u.r∧u.lo≤j∧j<u.lo+u.news.length then nth .bad u.news (j-u.lo)else a) (s.leaf r j)
 | [],s,h=>⟨⟨rfl,rfl,fun _=>⟨rfl,rfl,rfl⟩⟩,fun r j=>rfl⟩
 |u::us,s,h=>by
  obtain⟨hr,hf⟩:=h u (by simp);obtain⟨h1,h2⟩:=D9 u.r u.news u.lo s hr hf
  obtain⟨h3,h4⟩:=IX us (s.app (BD u.r u.lo u.news)) fun x hx=>by
   obtain⟨q1,q2⟩:=h x (kB _ hx);exact⟨by rw[h1.len];exact q1,by rw[(h1.box x.r).2.2];exact q2⟩
  have he:s.app (Ek (u::us))=(s.app (BD u.r u.lo u.news)).app (Ek us):=by show s.app (BD u.r u.lo u.news++Ek us)=_;rw[BF]
  rw[he];refine⟨⟨h3.sl.trans h1.sl,h3.len.trans h1.len,fun x=>⟨(h3.box x).1.trans (h1.box x).1,(h3.box x).2.1.trans (h1.box x).2.1,(h3.box x).2.2.trans (h1.box x).2.2⟩⟩,fun r j=>?_⟩;grind
end
end Go.Ev
namespace Go.Ev
theorem CE.uniq{α:Type}{n:Nat}{R R':(Nat→Option Value)→α→List Nat→Prop}{own:Bool}{w:World}{fz Vp:Nat→Prop}{v:Value}{xs WW:List α}{o o':List Nat}
  (h:CE n R own w fz v xs o) (h':CE n R' own w Vp v WW o') (hr:∀g x y p q,R g x p→R' g y q→x=y∧p=q):xs=WW∧o=o':=by
 obtain⟨A,c,hv,hc,h⟩:=h;obtain⟨A',c',W0,WS,h'⟩:=h';rw[hv]at W0;injection W0 with e1 e2 e3
 subst e1;subst e3;cases A with
 |none=>
  have z1:xs=[]:=kD (by have:=h.1;omega);grind
 |some a=>
  by_cases cA:c=0
  ·have z1:xs=[]:=kD (by omega);have z2:WW=[]:=kD (by omega);subst z1;subst z2;refine⟨rfl,?_⟩;cases own with
   |true=>
    grind
   |false=>
    grind
  ·rcases h with⟨_,h,_⟩|⟨g,os,Vr,V5,ho⟩
   ·omega
   rcases h' with⟨_,h,_⟩|⟨g',Wc,Yn,eY,Xd⟩
   ·omega
   have Zc:g=g':=by funext j;rw[←Vr.cell j,←Yn.cell j]
   subst Zc;have hlen:xs.length=WW.length:=e2;have XZ:∀i (h1:i<xs.length) (h2:i<WW.length),xs[i]=WW[i]∧os i=Wc i:=fun i h1 h2=>hr _ _ _ _ _ (V5 i h1) (eY i h2);have dp:xs=WW:=List.ext_getElem hlen fun i h1 h2=>(XZ i h1 h2).1;refine⟨dp,?_⟩;cases own with
   |true=>
    have ho:o=a.block::(List.range xs.length).flatMap os:=ho;have Xd:o'=a.block::(List.range WW.length).flatMap Wc:=Xd;rw[ho,Xd,←hlen];congr 1
    have:∀(l:List Nat),(∀i∈l,i<xs.length)→l.flatMap os=l.flatMap Wc:=by
     intro l
     induction l with
     |nil=>intro _;rfl
     |cons i l ih=>
      intro hi;rw[ke,ke,ih fun k hk=>hi k (kB _ hk),(XZ i (hi i kR) (hlen▸hi i kR)).2]
    grind
   |false=>grind
mutual
theorem L.Ey:∀(l:L) {d:Nat} {w:World} {fz Vp:Nat→Prop} {v:Value} {x y:l.D} {o p:List Nat},l.rd d w fz v x o→l.rd d w Vp v y p→x=y∧o=p
 | .int _,_,_,_,_,_,_,_,_,_,h,h'=>by
  have:=h.1.symm.trans h'.1;injection this with _ e
  exact⟨e,h.2.trans h'.2.symm⟩
 | .bool,_,_,_,_,_,_,_,_,_,h,h'=>by
  have:=h.1.symm.trans h'.1;injection this with e
  exact⟨e,h.2.trans h'.2.symm⟩
 | .str,_,_,_,_,_,x,y,_,_,h,h'=>by
  have:=h.1.symm.trans h'.1;injection this with e
  have e2:List.toArray (show List UInt8 from x)=List.toArray (show List UInt8 from y):=by injection e
  have e3:(show List UInt8 from x)=(show List UInt8 from y):=by have:=congrArg Array.toList e2;simpa using this
  exact⟨e3,h.2.trans h'.2.symm⟩
 | .sl _ e,d,w,fz,Vp,v,x,y,o,p,h,h'=>by rw[L.IC]at h h';exact CE.uniq h h' fun g a b q r h1 h2=>Ls.Ey e h1 h2
theorem Ls.Ey:∀(ls:Ls) {d:Nat} {w:World} {fz Vp:Nat→Prop} {g:Nat→Option Value} {x y:ls.D} {o p:List Nat},ls.rd d w fz g x o→ls.rd d w Vp g y p→x=y∧o=p
 | .nil,_,_,_,_,_,x,y,_,_,h,h'=>⟨by cases x;cases y;rfl,by rw[show _=_ from h,show _=_ from h']⟩
 | .one l,_,_,_,_,_,_,_,_,_,h,h'=>by
  simp only[Ls.rd]at h h';obtain⟨v,hv,h⟩:=h;obtain⟨v',W0,h'⟩:=h';rw[hv]at W0;injection W0 with W0;subst W0
  exact L.Ey l h h'
 | .cons l ls,_,_,_,_,_,x,y,_,_,h,h'=>by
  simp only[Ls.rd]at h h';obtain⟨v,o1,o2,hv,h1,h2,rfl⟩:=h;obtain⟨v',p1,p2,W0,XS,X7,rfl⟩:=h';rw[hv]at W0;injection W0 with W0;subst W0
  obtain⟨a1,a2⟩:=L.Ey l h1 XS;obtain⟨b1,b2⟩:=Ls.Ey ls h2 X7;exact⟨Prod.ext a1 b1,by rw[a2,b2]⟩
end
theorem AD.uniq{e:Ls}{d:Nat}{w:World}{fz Vp:Nat→Prop}{v:Value}{xs ys:List e.D}{o p:List Nat}(h:AD e d w fz v xs o)(h':AD e d w Vp v ys p):xs=ys∧o=p:=
 L.Ey (.sl 0 e) h h'
def N9(o p o' q:List Nat):Prop:=q.Nodup∧∀b∈q,b∈o'∨(b∈o∧b∉p)
structure N0(w w':World)(fz Vp:Nat→Prop)(o p o':List Nat):Prop where
 nd:o'.Nodup
 new:∀b∈o',b∈o→b∈p
 rest:∀b,(b∈o∧b∉p)∨fz b→w'.heap[b]?=w.heap[b]?
 fz:∀b,fz b→Vp b
theorem Hy{G:(t:TypeId)→(f:Ls)→Option (List f.D→List f.D)}{d:Nat}{w:World}{fz:Nat→Prop}:∀(e:Ls)(j:Nat) {F:e.D→e.D} {g:Nat→Option Value} {x:e.D} {o:List Nat} {t:TypeId} {f:Ls} {h:Value},
  CL e j G=some F→e.kinds[j]?=some (.sl t f)→e.rd d w fz g x o→g j=some h→o.Nodup→
  ∃fn ys p,G t f=some fn∧AD f d w fz h ys p∧(∀b∈p,b∈o)∧p.Nodup∧∀w' Vp o',AD f d w' Vp h (fn ys) o'→N0 w w' fz Vp o p o'→∃q,e.rd d w' Vp g (F x) q∧N9 o p o' q
 | .nil,j,F,g,x,o,t,f,h,hm,hk,hr,hg,hn=>by simp[Ls.kinds]at hk
 | .one l,j+1,F,g,x,o,t,f,h,hm,hk,hr,hg,hn=>by simp[Ls.kinds]at hk
 | .one l,0,F,g,x,o,t,f,h,hm,hk,hr,hg,hn=>by
  simp[Ls.kinds]at hk;subst hk;simp only[Ls.rd]at hr;obtain⟨v,hv,hr⟩:=hr;rw[hg]at hv;injection hv with hv;subst hv
  simp only[CL]at hm;exact⟨F,x,o,hm,hr,fun b hb=>hb,hn,fun w' Vp o' WV hs=>⟨o',⟨h,hg,WV⟩,hs.nd,fun b hb=>.inl hb⟩⟩
 | .cons l ls,0,F,g,x,o,t,f,h,hm,hk,hr,hg,hn=>by
  simp[Ls.kinds]at hk;subst hk;simp only[Ls.rd]at hr;obtain⟨v,o1,o2,hv,hr,Z2,rfl⟩:=hr;rw[hg]at hv;injection hv with hv;subst hv
  simp only[CL]at hm;split at hm
  ·rename_i fn YH;injection hm with hm;subst hm
   obtain⟨n1,n2,n3⟩:=kP.1 hn;refine⟨fn,x.1,o1,YH,hr,fun b hb=>kK _ hb,n1,fun w' Vp o' WV hs=>⟨o'++o2,⟨h,o',o2,hg,WV,?_,rfl⟩,?_,?_⟩⟩
   ·exact Ls.AI ls Z2 (fun b hb=>hs.rest b (hb.imp (fun hb=>⟨kH _ hb,fun Vz=>n3 b Vz b hb rfl⟩) id)) hs.fz
   ·refine kP.2 ⟨hs.nd,n2,fun b hb c hc e=>?_⟩;subst e;exact n3 b (hs.new b hb (kH _ hc)) b hc rfl
   grind
  ·cases hm
 | .cons l ls,j+1,F,g,x,o,t,f,h,hm,hk,hr,hg,hn=>by
  simp only[Ls.rd]at hr;obtain⟨v,o1,o2,hv,hr,Z2,rfl⟩:=hr;simp only[CL]at hm;split at hm
  ·rename_i F2 hF;injection hm with hm;subst hm
   obtain⟨n1,n2,n3⟩:=kP.1 hn;obtain⟨fn,ys,p,h1,h2,h3,h4,h5⟩:=Hy ls j (g:=fun j=>g (j+1)) hF (by simpa[Ls.kinds]using hk) Z2 hg n2;refine⟨fn,ys,p,h1,h2,fun b hb=>kH _ (h3 b hb),h4,fun w' Vp o' WV hs=>?_⟩;obtain⟨q,hq,dR,dS⟩:=h5 w' Vp o' WV ⟨hs.nd,fun b hb Vz=>hs.new b hb (kH _ Vz),fun b hb=>hs.rest b (hb.imp (fun hb=>⟨kH _ hb.1,hb.2⟩) id),hs.fz⟩;have Yv:∀b∈o1,b∉p:=fun b hb hp=>n3 b hb b (h3 b hp) rfl;refine⟨o1++q,⟨v,o1,q,hv,?_,hq,rfl⟩,?_,?_⟩
   ·exact L.AI l hr (fun b hb=>hs.rest b (hb.imp (fun hb=>⟨kK _ hb,Yv b hb⟩) id)) hs.fz
   ·refine kP.2 ⟨n1,dR,fun b hb c hc e=>?_⟩;subst e;rcases dS b hc with h6|h6
    ·exact Yv b hb (hs.new b h6 (kK _ hb))
    ·exact n3 b hb b h6.1 rfl
   grind
  ·cases hm
theorem FR{os:Nat→List Nat}:∀ {l:List Nat},l.Nodup→(∀i∈l,(os i).Nodup)→(∀i∈l,∀j∈l,i≠j→∀b∈os i,b∉os j)→(l.flatMap os).Nodup
 | [],_,_,_=>by simp
 |x::l,h,h1,h2=>by obtain⟨hx,hl⟩:=kQ.1 h;rw[ke];refine kP.2 ⟨h1 x kR,FR hl (fun i hi=>h1 i (kB _ hi)) (fun i hi j hj=>h2 i (kB _ hi) j (kB _ hj)),fun b hb c hc e=>?_⟩;grind
theorem OR{G:(t:TypeId)→(f:Ls)→Option (List f.D→List f.D)}{w:World}{fz:Nat→Prop}:∀(p:List (Nat×Nat)) {t:TypeId} {e:Ls} {d:Nat} {h:Value} {xs:List e.D} {o:List Nat} {e':Ls} {v:Value} {F:List e.D→List e.D},
  Hx G p t e=some F→AD e d w fz h xs o→Je w p e h e' v→(p≠[]→d=2)→o.Nodup→
  ∃t' fn ys po,G t' e'=some fn∧AD e' d w fz v ys po∧(∀b∈po,b∈o)∧po.Nodup∧∀w' Vp o',AD e' d w' Vp v (fn ys) o'→N0 w w' fz Vp o po o'→∃q,AD e d w' Vp h (F xs) q∧N9 o po o' q
 | [],t,e,d,h,xs,o,e',v,F,hm,hr,hn,hp,Wi=>by obtain⟨rfl,rfl⟩:=hn;exact⟨t,F,xs,o,hm,hr,fun b hb=>hb,Wi,fun w' Vp o' WV hs=>⟨o',WV,hs.nd,fun b hb=>.inl hb⟩⟩
 |(i,j)::p,t,e,d,h,xs,o,e',v,F,hm,hr,hn,hp,Wi=>by
  have hd:d=2:=hp (by simp);subst hd;obtain⟨a,len,c,t',f,h',rfl,hs,hi,hk,hc,hn⟩:=hn;obtain⟨A,cc,hv,hle,Yw⟩:=hr;injection hv with hA hl bH
  subst hA;subst hl;subst bH;rcases Yw with⟨h0,_⟩|⟨g,os,Vr,V5,ho⟩
  ·simp at h0
  have ho:o=a.block::(List.range xs.length).flatMap os:=ho;have V5:∀i (h:i<xs.length),e.rd 2 w fz (fun j=>g (i*e.n+j)) xs[i] (os i):=V5;simp only[Hx]at hm;split at hm
  ·rename_i H hH;injection hm with hm;subst hm
   rw[ho]at Wi;obtain⟨nb,nf⟩:=kQ.1 Wi;have WU:∀m,m<xs.length→(os m).Nodup:=fun m hm=>CR nf (kM.2 hm);have Wh:∀m,m<xs.length→∀k,k<xs.length→m≠k→∀b∈os m,b∉os k:=fun m hm k hk Vv=>CQ nf (kM.2 hm) (kM.2 hk) Vv;have Wu:∀m,m<xs.length→a.block∉os m:=fun m hm hb=>nb (kA.2 ⟨m,kM.2 hm,hb⟩);have hg:g (i*e.n+j)=some h':=by rw[←Vr.cell];exact hc
   obtain⟨fn,ys,po,h1,h2,h3,h4,h5⟩:=Hy e j hH hk (V5 i hi) hg (WU i hi);obtain⟨t2,fn2,zs,po2,g1,g2,g3,g4,g5⟩:=OR p h1 h2 hn (fun _=>rfl) h4;have Vm:∀m,m<xs.length→∀b∈os m,b∈o:=fun m hm b hb=>by rw[ho];exact kB _ (kA.2 ⟨m,kM.2 hm,hb⟩)
   refine⟨t2,fn2,zs,po2,g1,g2,fun b hb=>Vm i hi b (h3 b (g3 b hb)),g4,fun w' Vp o' WV Xq=>?_⟩;obtain⟨q1,dR,XP,cW⟩:=g5 w' Vp o' WV ⟨Xq.nd,fun b hb Vz=>Xq.new b hb (Vm i hi b (h3 b Vz)),fun b hb=>Xq.rest b (hb.imp (fun hb=>⟨Vm i hi b (h3 b hb.1),hb.2⟩) id),Xq.fz⟩;have Z1:∀b∈po2,b∈os i:=fun b hb=>h3 b (g3 b hb)
   obtain⟨q2,dS,XT,eR⟩:=h5 w' Vp q1 dR ⟨XP,fun b hb Vz=>by
     rcases cW b hb with h6|h6
     ·exact g3 b (Xq.new b h6 (Vm i hi b Vz))
     ·exact h6.1,fun b hb=>Xq.rest b (hb.imp (fun hb=>⟨Vm i hi b hb.1,fun h7=>hb.2 (g3 b h7)⟩) id),Xq.fz⟩
   have bh:∀b∈q2,b∈o'∨(b∈os i∧b∉po2):=by
    intro b hb;rcases eR b hb with h6|h6
    ·rcases cW b h6 with h7|h7
     ·exact .inl h7
     ·exact .inr ⟨h3 b h7.1,h7.2⟩
    ·exact .inr ⟨h6.1,fun h7=>h6.2 (g3 b h7)⟩
   let Wc:Nat→List Nat:=fun m=>if m=i then q2 else os m
   have Yn:Row w' a (c*e.n) true g:=Vr.frame (Xq.rest _ (.inl ⟨by rw[ho];simp,fun h7=>Wu i hi (Z1 _ h7)⟩));have hlen:(xs.modify i H).length=xs.length:=by simp
   refine⟨a.block::(List.range xs.length).flatMap Wc,⟨some a,c,by simp,by simpa using hle,.inr ⟨g,Wc,Yn,fun m hm=>?_,?_⟩⟩,?_,?_⟩
   ·have XL:m<xs.length:=by simpa using hm
    show e.rd 2 w' Vp _ (xs.modify i H)[m] (Wc m);rw[List.getElem_modify];by_cases Xb:i=m
    ·subst Xb;rw[kF rfl,show Wc i=q2 from kF rfl];exact dS
    ·rw[kG Xb,show Wc m=os m from kG fun e=>Xb e.symm];exact Ls.AI e (V5 m XL) (fun b hb=>Xq.rest b (hb.imp (fun hb=>⟨Vm m XL b hb,fun h7=>Wh m XL i hi (fun e=>Xb e.symm) b hb (Z1 b h7)⟩) id)) Xq.fz
   ·show a.block::(List.range xs.length).flatMap Wc=a.block::(List.range (xs.modify i H).length).flatMap Wc;rw[hlen]
   ·refine kQ.2 ⟨fun hb=>?_,FR List.nodup_range (fun m hm=>?_) (fun m hm k hk Vv b hb Vz=>?_)⟩
    ·obtain⟨m,hm,hb⟩:=kA.1 hb;have hm:=kM.1 hm;by_cases Xb:m=i
     ·subst Xb;rw[show Wc m=q2 from kF rfl]at hb;rcases bh _ hb with h6|h6
      ·exact Wu m hm (Z1 _ (Xq.new _ h6 (by rw[ho];simp)))
      ·exact Wu m hm h6.1
     ·rw[show Wc m=os m from kG Xb]at hb;exact Wu m hm hb
    ·have hm:=kM.1 hm;by_cases Xb:m=i
     ·rw[show Wc m=q2 from kF Xb];exact XT
     ·rw[show Wc m=os m from kG Xb];exact WU m hm
    ·have hm:=kM.1 hm;have hk:=kM.1 hk;by_cases Xb:m=i
     ·have bU:k≠i:=fun e=>Vv (Xb.trans e.symm);rw[show Wc m=q2 from kF Xb]at hb;rw[show Wc k=os k from kG bU]at Vz;rcases bh b hb with h6|h6
      ·exact Wh k hk i hi bU b Vz (Z1 b (Xq.new b h6 (Vm k hk b Vz)))
      ·exact Wh k hk i hi bU b Vz h6.1
     ·rw[show Wc m=os m from kG Xb]at hb;by_cases bU:k=i
      ·rw[show Wc k=q2 from kF bU]at Vz;rcases bh b Vz with h6|h6
       ·exact Wh m hm i hi Xb b hb (Z1 b (Xq.new b h6 (Vm m hm b hb)))
       ·exact Wh m hm i hi Xb b hb h6.1
      ·rw[show Wc k=os k from kG bU]at Vz;exact Wh m hm k hk Vv b hb Vz
   grind
  ·cases hm
theorem Iw{β:Type}{d:Nat}{w:World}{fz:Nat→Prop}{k:(t:TypeId)→(f:Ls)→List f.D→Step β}{t:β}:∀(e:Ls)(j:Nat) {g:Nat→Option Value} {x:e.D} {o:List Nat} {t':TypeId} {f:Ls} {h:Value},
  (JO e j x k).leads t→e.rd d w fz g x o→e.kinds[j]?=some (.sl t' f)→g j=some h→o.Nodup→∃(ys:List f.D) (o':List Nat),(k t' f ys).leads t∧AD f d w fz h ys o'∧(∀b∈o',b∈o)∧o'.Nodup
 | .nil,j,_,_,_,_,_,_,hl,_,_,_,_=>hl.elim
 | .one l,0,g,x,o,t',f,h,hl,hr,hk,hg,hn=>by
  simp only[Ls.rd]at hr;obtain⟨v,hv,hr⟩:=hr;simp[Ls.kinds]at hk;subst hk;rw[hg]at hv;injection hv with hv;subst hv
  exact⟨x,o,hl,hr,fun b hb=>hb,hn⟩
 | .one _,_+1,_,_,_,_,_,_,hl,_,_,_,_=>hl.elim
 | .cons l ls,0,g,x,o,t',f,h,hl,hr,hk,hg,hn=>by
  simp only[Ls.rd]at hr;obtain⟨v,o1,o2,hv,hr,Z2,rfl⟩:=hr;simp[Ls.kinds]at hk;subst hk;rw[hg]at hv;injection hv with hv;subst hv
  exact⟨x.1,o1,hl,hr,fun b hb=>kK _ hb,(kP.1 hn).1⟩
 | .cons l ls,j+1,g,x,o,t',f,h,hl,hr,hk,hg,hn=>by simp only[Ls.rd]at hr;obtain⟨v,o1,o2,hv,hr,Z2,rfl⟩:=hr;obtain⟨ys,o',a,b,c,d⟩:=Iw ls j (g:=fun j=>g (j+1)) hl Z2 (by simpa[Ls.kinds]using hk) hg (kP.1 hn).2.1;grind
theorem Fq{β:Type}{w:World}{fz:Nat→Prop}{k:(t:TypeId)→(e:Ls)→List e.D→Nat→Step β}{z:β}:∀(p:List (Nat×Nat)) {t0:TypeId} {e:Ls} {xs:List e.D} {d:Nat} {h:Value} {o:List Nat} {e':Ls} {v:Value},
  (O2 k p t0 e xs d).leads z→AD e d w fz h xs o→Je w p e h e' v→(p≠[]→d=2)→o.Nodup→∃(t':TypeId) (ys:List e'.D) (o':List Nat),(k t' e' ys d).leads z∧AD e' d w fz v ys o'∧(∀b∈o',b∈o)∧o'.Nodup
 | [],t0,e,xs,d,h,o,e',v,hl,hr,hn,hp,Wi=>by obtain⟨rfl,rfl⟩:=hn;exact⟨t0,xs,o,hl,hr,fun b hb=>hb,Wi⟩
 |(i,j)::p,t0,e,xs,d,h,o,e',v,hl,hr,hn,hp,Wi=>by
  have hd:d=2:=hp (by simp);subst hd;obtain⟨a,len,c,t',f,h',rfl,hs,hi,hk,hc,hn⟩:=hn;obtain⟨A,cc,hv,hle,Yw⟩:=hr;injection hv with hA Ws bH
  subst hA;subst Ws;subst bH;rcases Yw with⟨h0,_⟩|⟨g,os,Vr,V5,ho⟩
  ·simp at h0
  have ho:o=a.block::(List.range xs.length).flatMap os:=ho;have V5:∀i (h:i<xs.length),e.rd 2 w fz (fun j=>g (i*e.n+j)) xs[i] (os i):=V5;obtain⟨x,hx,hl⟩:=hl;rw[j7 hi]at hx;injection hx with hx;subst hx
  have hg:g (i*e.n+j)=some h':=by rw[←Vr.cell];exact hc
  rw[ho]at Wi;obtain⟨nb,nf⟩:=kQ.1 Wi;obtain⟨ys,o',hl,Vw,Wb,bZ⟩:=Iw e j hl (V5 i hi) hk hg (CR nf (kM.2 hi));obtain⟨t2,zs,o2,hl,hz,Yo,Y5⟩:=Fq p hl Vw hn (fun _=>rfl) bZ;exact⟨t2,zs,o2,hl,hz,fun b hb=>by grind,Y5⟩
end Go.Ev
namespace Go.Ev
def GZ(ovs:Nat→List Nat)(o:List Nat):Prop:=(∀m,(ovs m).Nodup)∧(∀m m',m≠m'→∀b∈ovs m,b∉ovs m')∧∀m,∀b∈ovs m,b∉o
theorem GZ.sub{ovs:Nat→List Nat}{o o':List Nat}(h:GZ ovs o)(hs:∀b∈o',b∈o):GZ ovs o':=⟨h.1,h.2.1,fun m b hb Vz=>h.2.2 m b hb (hs b Vz)⟩
theorem Bx{w:World}{fz:Nat→Prop}{d:Nat}{ovs:Nat→List Nat}:∀(e:Ls)(off:Nat)(vs:List Lv)(cells:List Value)(sh:Nat) {f:e.D→e.D} {g g':Nat→Option Value} {x:e.D} {o:List Nat},Bu e off vs=some f→cells.length=vs.length→
  (∀(m:Nat)(lv:Lv),vs[m]?=some lv→∃u,cells[m]?=some u∧lv.l.rd d w fz u lv.x (ovs (sh+m)))→e.rd d w fz g x o→(∀m,m<e.n→g' m=if off≤m∧m<off+vs.length then cells[m-off]? else g m)→
  off+vs.length≤e.n∧∃o',e.rd d w fz g' (f x) o'∧(∀b∈o',b∈o∨∃m,sh≤m∧b∈ovs m)∧(o.Nodup→GZ ovs o→o'.Nodup)
 | .nil,off,vs,cells,sh,f,g,g',x,o,hf,hl,hp,hr,hg=>by simp[Bu]at hf
 | .one l,off,vs,cells,sh,f,g,g',x,o,hf,hl,hp,hr,hg=>by
  simp only[Bu]at hf;split at hf
  ·rename_i v;split at hf
   ·rename_i y hy;injection hf with hf;subst hf
    obtain⟨l',z⟩:=v;obtain⟨e1,e2⟩:=L.AH hy;dsimp only at e1;subst e1;have e2:z=y:=e2;subst e2;obtain⟨u,hu,Vy⟩:=hp 0 ⟨l',z⟩ rfl;refine⟨by simp[Ls.n],ovs sh,?_,fun b hb=>.inr ⟨sh,kT _,hb⟩,fun _ hn=>hn.1 sh⟩;simp only[Ls.rd];refine⟨u,?_,by omega⟩;rw[hg 0 (by simp[Ls.n]),kF (by simp),←hu]
   ·cases hf
  ·cases hf
 | .cons l ls,off,vs,cells,sh,f,g,g',x,o,hf,hl,hp,hr,hg=>by
  simp only[Bu]at hf;simp only[Ls.rd]at hr;obtain⟨v0,o1,o2,ZO,h1,h2,rfl⟩:=hr;cases off with
  |zero=>
   simp only at hf;split at hf
   ·cases hf
   ·rename_i v;split at hf
    ·rename_i y hy;injection hf with hf;subst hf
     obtain⟨l',z⟩:=v;obtain⟨e1,e2⟩:=L.AH hy;dsimp only at e1;subst e1;have e2:z=y:=e2;subst e2;obtain⟨u,hu,Vy⟩:=hp 0 ⟨l',z⟩ rfl;refine⟨by simp[Ls.n]<;>omega,ovs sh++o2,?_,fun b hb=>?_,fun hn hk=>?_⟩
     ·simp only[Ls.rd];refine⟨u,ovs sh,o2,?_,by omega,Ls.BG ls h2 fun j hj=>by rw[hg (j+1) (by simp[Ls.n]<;>omega),kG (by simp)],rfl⟩;rw[hg 0 (by simp[Ls.n]<;>omega),kF (by simp),←hu]
     ·grind
     ·refine kP.2 ⟨hk.1 sh,(kP.1 hn).2.1,fun a ha b hb e=>?_⟩;subst e;exact hk.2.2 sh a ha (kH _ hb)
    ·cases hf
   ·rename_i v u0 YW;split at hf
    ·rename_i y f' hy Yq;injection hf with hf;subst hf
     obtain⟨l',z⟩:=v;obtain⟨e1,e2⟩:=L.AH hy;dsimp only at e1;subst e1;have e2:z=y:=e2;subst e2;obtain⟨u,hu,Vy⟩:=hp 0 ⟨l',z⟩ rfl
     obtain⟨c0,cs,rfl⟩:∃c0 cs,cells=c0::cs:=by
      cases cells with
      |nil=>simp at hl
      |cons c cs=>grind
     obtain⟨ih1,o',ih2,ih3,ih4⟩:=Bx ls 0 (u0::YW) cs (sh+1) (g':=fun j=>g' (j+1)) Yq (by grind) (fun m lv hm=>by
       have:=hp (m+1) lv (by grind);rw[show sh+(m+1)=sh+1+m by omega]at this;simpa using this) h2 (fun m hm=>by
       rw[hg (m+1) (by simp[Ls.n]<;>omega)];grind)
     refine⟨by simp[Ls.n]at ih1 ⊢ <;> omega,ovs sh++o',?_,fun b hb=>?_,fun hn hk=>?_⟩
     ·simp only[Ls.rd];refine⟨u,ovs sh,o',?_,by omega,ih2,rfl⟩;rw[hg 0 (by simp[Ls.n]<;>omega),kF (by simp),←hu]
     ·grind
     ·refine kP.2 ⟨hk.1 sh,ih4 (kP.1 hn).2.1 (hk.sub fun b hb=>kH _ hb),fun a ha b hb e=>?_⟩;subst e;rcases ih3 a hb with hb|⟨m,hm,hb⟩
      ·exact hk.2.2 sh a ha (kH _ hb)
      ·exact hk.2.1 sh m (by omega) a ha hb
    ·cases hf
  |succ off=>
   simp only at hf;split at hf
   ·rename_i f' Yq;injection hf with hf;subst hf
    obtain⟨ih1,o',ih2,ih3,ih4⟩:=Bx ls off vs cells sh (g':=fun j=>g' (j+1)) Yq hl hp h2 (fun m hm=>by
     rw[hg (m+1) (by simp[Ls.n]<;>omega)];grind)
    refine⟨by simp[Ls.n]<;>omega,o1++o',?_,fun b hb=>?_,fun hn hk=>?_⟩
    ·simp only[Ls.rd];refine⟨v0,o1,o',?_,h1,ih2,rfl⟩;rw[hg 0 (by simp[Ls.n]<;>omega),kG (by omega)];exact ZO
    ·grind
    ·refine kP.2 ⟨(kP.1 hn).1,ih4 (kP.1 hn).2.1 (hk.sub fun b hb=>kH _ hb),fun a ha b hb e=>?_⟩;subst e;rcases ih3 a hb with hb|⟨m,_,hb⟩
     ·grind
     ·exact hk.2.2 m a hb (kK _ ha)
   ·cases hf
theorem LD{e:Ls}{w:World}{fz:Nat→Prop}{a:Addr}{n k:Nat}{xs:List e.D}{o:List Nat}(hr:AD e 2 w fz (.slice (some a) n k) xs o)(hn:o.Nodup)(hz:∀b∈o,¬fz b){i:Nat}(hi:i<n)
  {off:Nat} {cells:List Value} {F:e.D→e.D} {ovs:Nat→List Nat} (hk:GZ ovs o) (dB:∀m,∀b∈ovs m,¬fz b) (WH:off+cells.length≤e.n)
  (hF:∀g g' x oo,e.rd 2 w fz g x oo→(∀m,m<e.n→g' m=if off≤m∧m<off+cells.length then cells[m-off]? else g m)→∃o',e.rd 2 w fz g' (F x) o'∧(∀b∈o',b∈oo∨∃m,b∈ovs m)∧(oo.Nodup→GZ ovs oo→o'.Nodup)):
  a.spot=none∧∃arr T fr,w.heap[a.block]?=some (.cells arr T fr)∧(∀j,j<arr.size→¬(fr.1≤j∧j<fr.2))∧a.off+(i*e.n+off)+cells.length≤arr.size∧a.block∈o∧
   ∃o',o'.Nodup∧(∀b∈o',b∈o∨∃m,b∈ovs m)∧∀w',NL w w' a.block (B8 cells (a.off+(i*e.n+off)) arr) T fr→AD e 2 w' fz (.slice (some a) n k) (xs.modify i F) o':=by
 obtain⟨A,c,hv,hc,_,WK⟩:=hr.KX;injection hv with hA hl Wq
 subst hA;subst hl;subst Wq;obtain⟨arr,T,fr,os,hs,hh,V7,V0,V5,ho,_⟩:=WK a rfl (.inr (by omega));have ho:=ho (by omega);have V0:=V0 (by omega)
 have hmul:i*e.n+e.n≤k*e.n:=by have:(i+1)*e.n≤k*e.n:=kf _ (by omega);rw[kd,lk]at this;omega
 have Xj:a.off+(i*e.n+off)+cells.length≤arr.size:=by omega
 have Vm:a.block∈o:=by rw[ho];simp
 have V4:=CV cells (a.off+(i*e.n+off)) arr Xj;have Wi:=hn;rw[ho]at Wi;obtain⟨ZL,Y7⟩:=kQ.1 Wi;have Wp:∀m,m<xs.length→∀b∈os m,b∈o:=fun m hm b hb=>by grind
 obtain⟨oi,Vw,Wb,aX⟩:=hF _ (fun q=>(B8 cells (a.off+(i*e.n+off)) arr)[a.off+(i*e.n+q)]?) _ _ (V5 i hi) (fun q hq=>by
  show(B8 cells (a.off+(i*e.n+off)) arr)[a.off+(i*e.n+q)]?=_;rw[V4];by_cases hc:off≤q∧q<off+cells.length
  ·rw[kF (by omega),kF hc];congr 1;omega
  grind)
 have aX:=aX (CR Y7 (kM.2 hi)) (hk.sub (Wp i hi))
 let Wc:Nat→List Nat:=fun m=>if m=i then oi else os m
 have fO:∀m,m<xs.length→∀b∈Wc m,b∈os m∨∃q,b∈ovs q:=by
  intro m hm b hb;simp only[Wc]at hb;split at hb
  ·grind
  ·exact .inl hb
 have bb:∀m,m<xs.length→a.block∉Wc m:=by
  intro m hm hb;rcases fO m hm _ hb with hb|⟨q,hb⟩
  ·grind
  ·exact hk.2.2 q _ hb Vm
 refine⟨hs,arr,T,fr,hh,V0,Xj,Vm,a.block::(List.range xs.length).flatMap Wc,?_,?_,fun w' V1=>?_⟩
 ·refine kQ.2 ⟨fun hb=>?_,FR List.nodup_range (fun m hm=>?_) fun m hm m' XL Vv b hb Vz=>?_⟩
  ·grind
  ·grind
  ·have hd:=CQ Y7 hm XL Vv;simp only[Wc]at hb Vz;split at hb
   ·rename_i e1;split at Vz
    ·omega
    ·subst e1;rcases Wb b hb with hb|⟨q,hb⟩
     ·grind
     ·exact hk.2.2 q b hb (Wp m' (kM.1 XL) b Vz)
   ·split at Vz
    ·rename_i e2;subst e2;rcases Wb b Vz with Vz|⟨q,Vz⟩
     ·exact hd b hb Vz
     ·exact hk.2.2 q b Vz (Wp m (kM.1 hm) b hb)
    grind
 ·grind
 ·refine⟨some a,k,by simp,by simpa using hc,?_⟩;refine .inr ⟨fun q=>(B8 cells (a.off+(i*e.n+off)) arr)[a.off+q]?,Wc,⟨hs,_,T,fr,V1.here,by rw[Ap];exact V7,fun _=>by rw[Ap];exact V0,fun _=>rfl⟩,fun m hm=>?_,?_⟩
  ·have XL:m<xs.length:=by simpa using hm
   rw[FX]
   have XQ:∀ {g x},e.rd 2 w fz g x (Wc m)→e.rd 2 w' fz g x (Wc m):=fun h=>Ls.AI e h (fun b hb=>V1.CJ b (by
    rintro rfl
    rcases hb with hb|hb
    ·exact bb m XL hb
    ·exact hz _ Vm hb)) fun _ hb=>hb
   by_cases Xb:i=m
   ·subst Xb;rw[kF rfl];refine XQ ?_;have:Wc i=oi:=by simp[Wc]
    rw[this];exact Vw
   ·rw[kG Xb];have:Wc m=os m:=by simp only[Wc];rw[kG (fun e=>Xb e.symm)]
    refine XQ ?_;rw[this];refine Ls.BG e (V5 m XL) fun q hq=>?_;show(B8 cells (a.off+(i*e.n+off)) arr)[a.off+(m*e.n+q)]?=_;rw[V4,kG];intro hc;rcases lY Xb with h1|h1
    ·have:(i+1)*e.n≤m*e.n:=kf _ h1;rw[kd,lk]at this;omega
    ·have:(m+1)*e.n≤i*e.n:=kf _ h1;rw[kd,lk]at this;omega
  grind
theorem Me{vs:List Lv}{cells:List Value}{w:World}{fz:Nat→Prop}{ovs:Nat→List Nat}(hl:cells.length=vs.length)(hp:∀(m:Nat)(lv:Lv),vs[m]?=some lv→∃u,cells[m]?=some u∧lv.l.rd 2 w fz u lv.x (ovs m))(Xw:∀m,vs.length≤m→ovs m=[])
  {i off:Nat} {e:Ls} {a:Addr} {n k:Nat} (hi:i<n) {xs:List e.D} {o:List Nat} {f:List e.D→List e.D} (hm:Gw vs [(i,off)] e=some f) (hr:AD e 2 w fz (.slice (some a) n k) xs o) (hn:o.Nodup) (hz:∀b∈o,¬fz b) (hk:GZ ovs o) (dB:∀m,∀b∈ovs m,¬fz b):
  a.spot=none∧∃arr T fr,w.heap[a.block]?=some (.cells arr T fr)∧(∀j,j<arr.size→¬(fr.1≤j∧j<fr.2))∧a.off+(i*e.n+off)+cells.length≤arr.size∧a.block∈o∧
   ∃o',o'.Nodup∧(∀b∈o',b∈o∨∃m,b∈ovs m)∧∀w',NL w w' a.block (B8 cells (a.off+(i*e.n+off)) arr) T fr→AD e 2 w' fz (.slice (some a) n k) (f xs) o':=by
 simp only[Gw]at hm;split at hm
 ·rename_i y hy;injection hm with hm;subst hm
  split at hy
  ·rename_i hc;simp only[j8,kI]at hc;obtain⟨rfl,hlen⟩:=hc;have Xv:=Ae e vs y hy
   have:=LD (F:=fun _=>y) (off:=0) (cells:=cells) (ovs:=ovs) hr hn hz hi hk dB (by omega) (fun g g' x oo hx hg=>⟨_,Dk e (os:=ovs) (fun j lv hj=>by
     grind),fun b hb=>by
     grind,fun _ hk=>EB hk.1 hk.2.1 _⟩)
   simpa only[ED]using this
  ·cases hy
 ·split at hm
  ·rename_i f' Yq;injection hm with hm;subst hm
   have Zz:∀(m:Nat)(lv:Lv),vs[m]?=some lv→∃u,cells[m]?=some u∧lv.l.rd 2 w fz u lv.x (ovs (0+m)):=fun m lv hm=>by grind
   obtain⟨A,c,hv,hc,_,WK⟩:=hr.KX;injection hv with hA Ws Wq
   subst hA;subst Ws;subst Wq;obtain⟨arr,T,fr,os,_,_,_,_,V5,_,_⟩:=WK a rfl (.inr (by omega));have WH:=(Bx e off vs cells 0 (g':=fun m=>if off≤m∧m<off+vs.length then cells[m-off]? else _) Yq hl Zz (V5 i hi) fun m _=>rfl).1
   exact LD (F:=f') (off:=off) (cells:=cells) (ovs:=ovs) hr hn hz hi hk dB (by omega) (fun g g' x oo hx hg=>by
    obtain⟨_,o',q1,q2,q3⟩:=Bx e off vs cells 0 (g':=g') (ovs:=ovs) Yq hl Zz hx fun m hm=>by rw[hg m hm,hl]
    grind)
  ·cases hm
section
variable {P:Program}{E:Cy}{s:St}{W:Wd}{v:Nat}{tm:Array Value}
def Ik(W:Wd)(w':World)(r j:Nat)(o':List Nat)(us:List (Nat×Nat)):Wd:=
 { W with w:=w',om:=fun k=>match k with
   | .lf a b=>if a=r∧b=j then o' else if(a,b)∈us then []else W.om (.lf a b)
   |k=>W.om k }
theorem AW.L4(h:AW E s tm W)(hv:Af s v){r j AA gen:Nat}{t:TypeId}{e:Ls}{xs WW:List e.D}(hl:s.leaf r j=.arr AA gen t e xs 2){u:Value}(WE:W.cv r j=some u){us:List (Nat×Nat)}(bB:(r,j)∉us)
  {w':World} {AT:Nat} (Wu:AT∈W.om (.lf r j)) (hw:∀b,b≠AT→w'.heap[b]?=W.w.heap[b]?) (V7:w'.heap.size=W.w.heap.size) (V2:w'.os=W.w.os∧w'.tape=W.w.tape∧w'.output=W.w.output)
  {o':List Nat} (Wi:o'.Nodup) (Wf:∀b∈o',b∈W.om (.lf r j)∨∃a c,(a,c)∈us∧b∈W.om (.lf a c)) (Vw:AD e 2 w' W.fz u WW o'):
  AW E (s.app (gone us++[.leaf r j (.arr AA v t e WW 2)])) tm (Ik W w' r j o' us):=by
 obtain⟨hr,hj⟩:=HA hl;rw[BF];show AW E ((s.app (gone us)).AF (.leaf r j (.arr AA v t e WW 2))) tm _;obtain⟨YZ,Xo⟩:=Dt s us;have Yo:=BI (s.app (gone us)) r j (.arr AA v t e WW 2);have Yu:=Ea (s.app (gone us)) r j (.arr AA v t e WW 2);generalize (s.app (gone us)).AF (.leaf r j (.arr AA v t e WW 2))=s' at Yo Yu;have Vq:Jl s s':=⟨Yo.sl.trans YZ.sl,Yo.len.trans YZ.len,fun x=>⟨(Yo.box x).1.trans (YZ.box x).1,(Yo.box x).2.1.trans (YZ.box x).2.1,(Yo.box x).2.2.trans (YZ.box x).2.2⟩⟩
 have Vl:∀a b,s'.leaf a b=if a=r∧b=j then .arr AA v t e WW 2 else if(a,b)∈us then .bad else s.leaf a b:=by
  intro a b;rw[Yu,Xo];by_cases hc:a=r∧b=j
  ·obtain⟨rfl,rfl⟩:=hc;rw[kF ⟨rfl,rfl,by rw[YZ.len];exact hr,by rw[(YZ.box a).2.2];exact hj⟩,kF ⟨rfl,rfl⟩]
  ·grind
 have YQ:∀k,∀b∈W.om k,k≠.lf r j→b≠AT:=fun k b hb hk e=>h.sep.Av k _ hk b hb (e▸Wu);have XA:∀b,W.fz b→b≠AT:=fun b hb e=>(h.sep.own _ _ Wu).1 (e▸hb);refine h.Mf (W':=Ik W w' r j o' us) hv Vq (fun a b=>(a=r∧b=j)∨(a,b)∈us) (fun _=>False) (fun a b hc=>?_) (fun _ _ _=>rfl) (fun _ _ hh=>hh.elim) (fun _=>rfl) (fun a b hc=>?_) (fun _=>rfl) (fun b hb=>?_) (fun b hb=>hb) ?_ ?_ (fun _ a b hc=>?_) (fun _ hh=>hh.elim)
 ·grind
 ·show(if a=r∧b=j then o' else if(a,b)∈us then []else W.om (.lf a b))=_;grind
 ·refine hw b ?_;grind
 ·intro a b AA gen t e xs d hc hl Vv;refine⟨rfl,?_⟩;grind
 ·refine h.sep.IE (W':=Ik W w' r j o' us) (fun k=>match k with
   | .lf a b=>(a=r∧b=j)∨(a,b)∈us
   |_=>False) rfl (by show _≤w'.heap.size;omega) (fun b h1 h2=>hw b fun e=>?_) V2 (fun k hk=>?_) (fun k hk=>?_) (fun k k' hk Wq Vv b hb Vz=>?_) fun k hk b hb=>?_
  ·have:=(h.sep.own _ _ Wu).2.2;grind
  ·cases k with
   |lf a b=>
    show(if a=r∧b=j then o' else if(a,b)∈us then []else W.om (.lf a b))=_;grind
   |_=>rfl
  ·cases k with
   |lf a b=>
    show(if a=r∧b=j then o' else if(a,b)∈us then []else W.om (.lf a b)).Nodup;grind
   |_=>exact hk.elim
  ·have one:∀k:Key,(match k with | .lf a b=>(a=r∧b=j)∨(a,b)∈us|_=>False)→∀b∈(Ik W w' r j o' us).om k,k=.lf r j:=by
    intro k hk b hb;cases k with
    |lf a c=>
     have hb:b∈(if a=r∧c=j then o' else if(a,c)∈us then []else W.om (.lf a c)):=hb;split at hb
     ·rename_i hh;obtain⟨rfl,rfl⟩:=hh;rfl
     ·rename_i hh;rw[kF (hk.resolve_left hh)]at hb;cases hb
    |_=>exact hk.elim
   grind
  ·cases k with
   |lf a c=>
    have hb:b∈(if a=r∧c=j then o' else if(a,c)∈us then []else W.om (.lf a c)):=hb;grind
   |_=>exact hk.elim
 ·show Ab s' (Ik W w' r j o' us) (s'.leaf a b) (W.cv a b) (if a=r∧b=j then o' else if(a,b)∈us then []else W.om (.lf a b));rw[Vl];by_cases hh:a=r∧b=j
  ·rw[kF hh,kF hh];obtain⟨rfl,rfl⟩:=hh;exact⟨u,WE,Vw⟩
  ·rw[kG hh,kG hh,kF (hc.resolve_left hh),kF (hc.resolve_left hh)];exact⟨rfl,fun _ _=>trivial⟩
end
end Go.Ev
namespace Go.Ev
section
variable {P:Program}
theorem Jz{t t0 ty:TypeId}{e:Ls}(WI:P.underlying t=some (.slice t0))(V5:MC P t0 e)(hf:Br e=true){w:World}{fz fz2:Nat→Prop}(XA:∀b,fz b→b<w.heap.size){ux uy:Value}{xs ys:List e.D}{o1:List Nat}
  (hx:AD e 2 w fz ux xs o1) (hy:AD e 0 w fz2 uy ys []) (hlen:xs.length+ys.length≤Di):
  ∃u w',(Builtin.append_ #[t,t] ty #[ux,uy]).run P w=.ok u w'∧(w'.os=w.os∧w'.tape=w.tape∧w'.output=w.output)∧w.heap.size≤w'.heap.size∧(∀b,b<w.heap.size→b∉o1→w'.heap[b]?=w.heap[b]?)∧
   AD e 2 w' fz ux xs o1∧∃o',AD e 2 w' fz u (xs++ys) o'∧∀b∈o',b∈o1∨(w.heap.size≤b∧b<w'.heap.size):=by
 obtain⟨i,hi,V7,Zj,z,hz,YV⟩:=V5.info;have YR:=V5.pos;have WO:xs.length+ys.length≤68719476736:=hlen;have cj:=hx.dep
 have XC:∃A c g,uy=.slice A ys.length c∧(A=none→ys=[])∧(∀ad,A=some ad→ys≠[]→ad.spot=none∧∀k,w.cell? (at_ ad k)=g k)∧B1 e 2 w fz g ys fun _=>[]:=by
  obtain⟨A,c,hv,hc,hn,WK⟩:=hy.KX;cases A with
  |none=>
   have:ys=[]:=kD (by grind);subst this;exact⟨none,c,fun _=>none,hv,fun _=>rfl,(fun ad Wt _=>by cases Wt),(fun i hi=>by simp at hi)⟩
  |some ad=>
   by_cases cA:c=0
   ·have:ys=[]:=kD (by omega);subst this;exact⟨some ad,c,fun _=>none,hv,fun _=>rfl,(fun ad Wt Vv=>absurd rfl Vv),(fun i hi=>by simp at hi)⟩
   obtain⟨arr,T,fr,os,hs,hh,_,_,V5,_,_⟩:=WK ad rfl (.inl (by omega));refine⟨some ad,c,_,hv,(fun hA=>by cases hA),?_,B1.flat hf V5 2 w fz⟩;intro bD Wt _;injection Wt with Wt;subst Wt
   exact⟨hs,fun k=>by simp[World.cell?,at_,hh]⟩
 obtain⟨A1,c1,Za,eT,cT,YZ⟩:=hx.KX;obtain⟨A2,c2,g2,dj,cU,Yo,XZ⟩:=XC
 have Yh:∃news:List Value,news.length=ys.length*e.n∧(∀k,k<ys.length*e.n→news[k]?=g2 k)∧(∀v∈news,v.oneCell'=true)∧
   (Builtin.firstCells i.size ys.length (.slice A2 ys.length c2)).run P w=.ok news.toArray w∧∀ad,A2=some ad→∀j u,news[j]?=some u→w.cell? (ad.add j)=some u:=by
  have V6:=XZ.cell
  have XH:∀ad,A2=some ad→∀j u,(BW g2 (ys.length*e.n))[j]?=some u→w.cell? (ad.add j)=some u:=by
   intro ad Wt j u hj;have Vs:j<ys.length*e.n:=by have:=(j9.1 hj).1;rwa[AL]at this
   rw[Bf V6 j Vs]at hj;obtain⟨hs,hg⟩:=Yo ad Wt (fun h0=>by grind);rw[EM hs,hg,hj]
  refine⟨BW g2 (ys.length*e.n),AL _ _,Bf V6,FQ V6,?_,XH⟩;cases hA:A2 with
  |none=>
   have:=cU hA;subst this;rw[run_firstCells_none];simp[BW]
  |some ad=>exact run_firstCells_some w i.size ys.length ad ys.length c2 _ (by rw[AL,V7]) (XH ad hA)
 obtain⟨news,XM,Zy,Zw,Y7,XD⟩:=Yh
 have fresh:∀(arr:Array Value)(cap:Nat),xs.length+ys.length≤cap→cap*e.n≤arr.size→B1 e 2 w fz (fun k=>arr[k]?) xs (fun _=>[])→(∀k,k<ys.length*e.n→arr[xs.length*e.n+k]?=g2 k)→
   AD e 2 (w.drew.alloc (.cells arr t0)) fz ux xs o1∧(∀b,b<w.heap.size→b∉o1→(w.drew.alloc (.cells arr t0)).heap[b]?=w.heap[b]?)∧w.heap.size≤(w.drew.alloc (.cells arr t0)).heap.size∧
   ∃o',AD e 2 (w.drew.alloc (.cells arr t0)) fz (.slice (some ⟨w.heap.size,0,none⟩) (xs.length+ys.length) cap) (xs++ys) o'∧∀b∈o',b∈o1∨(w.heap.size≤b∧b<(w.drew.alloc (.cells arr t0)).heap.size):=by
  intro arr cap Wn WZ Xs bw;have hold:∀b,b<w.heap.size→(w.drew.alloc (.cells arr t0)).heap[b]?=w.heap[b]?:=fun b hb=>alloc_old w.drew _ hb;refine⟨hx.frame (fun b hb=>hold b (hb.elim (cj b) (XA b))) fun _ hb=>hb,fun b hb _=>hold b hb,by grind,?_⟩
  have W9:B1 e 2 (w.drew.alloc (.cells arr t0)) fz (fun k=>arr[0+k]?) (xs++ys) fun i=>if i<xs.length then []else []:=by
   refine B1.append (os:=fun _=>[]) (Wc:=fun _=>[]) ?_ ?_
   ·exact B1.congr (g:=fun k=>arr[k]?) (Xs.flat hf 2 _ fz) fun k _=>by grind
   ·exact B1.congr (g:=g2) (XZ.flat hf 2 _ fz) fun k hk=>by grind
  have Vr:=FD (w:=w.drew.alloc (.cells arr t0)) (ad:=⟨w.heap.size,0,none⟩) (c:=cap) (fr:=(0,0)) (T:=t0) (heap_alloc_new w.drew _) rfl (by omega) (by grind) (by grind) W9;rw[lC]at Vr;refine⟨_,Vr,fun b hb=>?_⟩;rcases kS.1 hb with rfl|hb
  ·exact .inr ⟨kT _,by rw[Ar];exact Nat.lt_succ_self _⟩
  ·grind
 subst Za;subst dj;cases A1 with
 |none=>
  obtain⟨rfl,rfl⟩:=cT rfl;have YT:xs=[]:=kD (by omega);subst YT;cases ys with
  |nil=>exact⟨_,_,Cv t ty t0 i WI hi 0 A2 c2 news Y7,⟨rfl,rfl,rfl⟩,kT _,fun _ _ _=>rfl,hx,[],Bm,fun b hb=>by cases hb⟩
  |cons y ys=>
   cases A2 with
   |none=>grind
   |some ad2=>
    have Wg:=grownCap_ge w (y::ys).length 0 t0
    obtain⟨f1,f2,f3,o',f4,f5⟩:=fresh (news.toArray++Builtin.zeroCells z.cells (grownCap w (y::ys).length 0 t0-(y::ys).length)) (grownCap w (y::ys).length 0 t0) (by simpa using Wg)
     (by
      have:(y::ys).length*e.n+(grownCap w (y::ys).length 0 t0-(y::ys).length)*e.n=grownCap w (y::ys).length 0 t0*e.n:=by rw[←kd];congr 1;omega
      simp only[lM,lL,XM,Builtin.zeroCells,lS,lV,YV,lF,BC];omega) (fun i hi=>by simp at hi)
     (by
      intro k hk;rw[←Zy k hk];simp only[List.length_nil,Nat.zero_mul,kO];rw[ka (by simpa[XM]using hk)];simp)
    refine⟨_,_,run_append_nil w t ty t0 i z WI hi hz ad2 (y::ys).length c2 news (by rw[XM,V7]) (XD ad2 rfl) (by simp) (by simp at WO ⊢;omega) (kv (lX (show _≤68719476736 by simp at WO ⊢;omega) Zj) (by decide)),⟨rfl,rfl,rfl⟩,f3,f2,f1,o',?_,f5⟩;grind
 |some ad1=>
  obtain⟨arr,T,fr,os1,hs,hh,WH,Wk,Xs,Yj,_⟩:=YZ ad1 rfl (.inr (by decide));have YC:o1=ad1.block::(List.range xs.length).flatMap os1:=Yj (by decide);have V0:=Wk (by decide);clear Yj Wk YZ;obtain⟨b1,WA,sp1⟩:=ad1;dsimp only at hs hh WH Xs YC;subst hs;have XP:b1∈o1:=by rw[YC];simp
  by_cases Wn:xs.length+ys.length≤c1
  ·
   have hmul:(xs.length+ys.length)*e.n≤c1*e.n:=kf _ Wn;rw[kd]at hmul;obtain⟨w',Xq,V1⟩:=DZ (P:=P) (o:=WA+xs.length*e.n) news hh V0 (by rw[XM];omega) Zw;have XH:(⟨b1,WA,none⟩:Addr).add (xs.length*i.size)=⟨b1,WA+xs.length*e.n,none⟩:=by rw[V7];exact addr_add _ _ _
   have V4:=CV news (WA+xs.length*e.n) arr (by rw[XM];omega)
   have Yl:B1 e 2 w' fz (fun k=>(B8 news (WA+xs.length*e.n) arr)[WA+k]?) xs os1:=by intro i hi;refine Ls.BG e (Ls.Aa e hf (Xs i hi) (d':=2) (w':=w') (Vp:=fz)).1 fun j hj=>?_;have Vs:=Kk hi hj;show(B8 news (WA+xs.length*e.n) arr)[WA+(i*e.n+j)]?=_;rw[V4,kG (by omega)]
   have W9:B1 e 2 w' fz (fun k=>(B8 news (WA+xs.length*e.n) arr)[WA+k]?) (xs++ys) fun i=>if i<xs.length then os1 i else []:=by refine B1.append (Wc:=fun _=>[]) Yl ?_;refine B1.congr (g:=g2) (XZ.flat hf 2 w' fz) fun k hk=>?_;rw[←Zy k hk,V4,kF (by rw[XM];omega)];congr 1;omega
   have Vr:=FD (w:=w') (ad:=⟨b1,WA,none⟩) (c:=c1) V1.here rfl (by rw[Ap];exact V0) (by rw[Ap];exact WH) (by simpa using Wn) W9;have dV:=FD (w:=w') (ad:=⟨b1,WA,none⟩) (c:=c1) V1.here rfl (by rw[Ap];exact V0) (by rw[Ap];exact WH) eT Yl;rw[lC]at Vr;refine⟨_,_,DK t ty t0 i WI hi ⟨b1,WA,none⟩ xs.length c1 A2 ys.length c2 news Y7 Wn (by rw[XH];exact Xq),V1.rest,by rw[V1.size];exact kT _,fun b hb hn=>V1.CJ b fun e=>hn (e▸XP),by rw[YC];exact dV,_,Vr,fun b hb=>?_⟩;grind
  ·
   cases A2 with
   |none=>grind
   |some ad2=>
    have Xx:=Xs.cell;have aB:=Bf Xx
    have holds:∀j u,(BW (fun k=>arr[WA+k]?) (xs.length*e.n))[j]?=some u→w.cell? ((⟨b1,WA,none⟩:Addr).add j)=some u:=by
     intro j u hj;have Vs:j<xs.length*e.n:=by have:=(j9.1 hj).1;rwa[AL]at this
     rw[aB j Vs]at hj;rw[addr_add];simp only[World.cell?,hh];simpa using hj
    have Wg:=grownCap_ge w (xs.length+ys.length) c1 t0
    obtain⟨f1,f2,f3,o',f4,f5⟩:=fresh (((BW (fun k=>arr[WA+k]?) (xs.length*e.n)).toArray++news.toArray)++Builtin.zeroCells z.cells (grownCap w (xs.length+ys.length) c1 t0-(xs.length+ys.length))) (grownCap w (xs.length+ys.length) c1 t0) Wg
     (by
      have:xs.length*e.n+ys.length*e.n+(grownCap w (xs.length+ys.length) c1 t0-(xs.length+ys.length))*e.n=grownCap w (xs.length+ys.length) c1 t0*e.n:=by rw[←kd,←kd];congr 1;omega
      simp only[lM,lL,XM,AL,Builtin.zeroCells,lS,lV,YV,lF,BC];omega)
     (B1.congr (Xs.flat hf 2 w fz) fun k hk=>by
      grind)
     (by
      intro k hk;rw[←Zy k hk];rw[ka (by simp[AL,XM];omega),Array.getElem?_append_right (by simp[AL])];simp[AL])
    exact⟨_,_,run_append_grow w t ty t0 i z WI hi hz ⟨b1,WA,none⟩ xs.length c1 (BW (fun k=>arr[WA+k]?) (xs.length*e.n)) (by rw[AL,V7]) holds ad2 ys.length c2 news (by rw[XM,V7]) (XD ad2 rfl) (by omega) (by omega)
     (growslice_fits (by omega) (kv (lX WO Zj) (by decide))),⟨rfl,rfl,rfl⟩,f3,f2,f1,o',f4,f5⟩
theorem AD.half{e:Ls}{w:World}{fz:Nat→Prop}{v:Value}{xs:List e.D}{o:List Nat}(h:AD e 2 w fz v xs o)(hn:o.Nodup):
  ∃o1,(∀b∈o1,b∈o∧∃a n c,v=.slice (some a) n c∧b=a.block)∧o1.Nodup∧∀Vp:Nat→Prop,(∀b,fz b→Vp b)→(∀b∈o,b∉o1→Vp b)→AD e 1 w Vp v xs o1:=by
 obtain⟨A,c,hv,hc,h⟩:=h;cases A with
 |none=>exact⟨[],(fun b hb=>by cases hb),kE,fun _ _ _=>⟨none,c,hv,hc,h.1,rfl⟩⟩
 |some a=>
  rcases h with⟨h,_⟩|⟨g,os,Vr,V5,ho⟩
  ·cases h
  have ho:o=a.block::(List.range xs.length).flatMap os:=ho;refine⟨[a.block],fun b hb=>⟨by grind,a,_,_,hv,km.1 hb⟩,kQ.2 ⟨by simp,kE⟩,fun Vp hz hf=>?_⟩;obtain⟨hs,arr,T,fr,hh,gL,hb,hg⟩:=Vr;refine⟨some a,c,hv,hc,.inr ⟨g,fun _=>[],⟨hs,arr,T,fr,hh,gL,fun _=>hb rfl,hg⟩,fun i hi=>?_,?_⟩⟩
  ·refine Ls.Cg e (V5 i hi) fun b hb=>?_;grind
  ·show _=_;simp[DS]
theorem H2{e f:Ls}{w:World}{fz:Nat→Prop}{a:Addr}{len c i off:Nat}{xs:List e.D}{o:List Nat}{t:TypeId}{u:Value}{ys:List f.D}{po:List Nat}(h:AD e 2 w fz (.slice (some a) len c) xs o)(hn:o.Nodup)(hi:i<len)
  (hk:e.kinds[off]?=some (.sl t f)) (hc:w.cell? (at_ a (i*e.n+off))=some u) (hr:AD f 2 w fz u ys po):a.block∉po:=by
 obtain⟨A,c',hv,_,h⟩:=h;injection hv with hA hl _
 subst hA;subst hl;rcases h with⟨h,_⟩|⟨g,os,Vr,V5,ho⟩
 ·cases h
 have ho:o=a.block::(List.range xs.length).flatMap os:=ho;obtain⟨h2,zs,o',hg,Vw,Wb⟩:=Ls.HD e off (V5 i hi) hk
 have hu:h2=u:=by have:=Vr.cell (i*e.n+off);rw[this,hg]at hc;exact Option.some.inj hc
 subst hu;obtain⟨_,e2⟩:=hr.uniq Vw;grind
theorem KD:∀(e:Ls)(j:Nat) {G:(t:TypeId)→(f:Ls)→Option (List f.D→List f.D)} {h:e.D→e.D},CL e j G=some h→(∀t f g,G t f=some g→∀l,g l=l)→∀x,h x=x
 | .nil,j,G,h,hm,hG,x=>by simp[CL]at hm
 | .one l,0,G,h,hm,hG,x=>by
  cases l with
  |sl t f=>exact hG t f h hm x
  |_=>simp[CL]at hm
 | .one l,j+1,G,h,hm,hG,x=>by simp[CL]at hm
 | .cons l ls,0,G,h,hm,hG,x=>by
  simp only[CL]at hm;split at hm
  ·split at hm
   ·rename_i hh;injection hm with hm;subst hm
    exact Prod.ext (hG _ _ _ hh x.1) rfl
   ·cases hm
  ·cases hm
 | .cons l ls,j+1,G,h,hm,hG,x=>by
  simp only[CL]at hm;split at hm
  ·rename_i hh;injection hm with hm;subst hm
   exact Prod.ext rfl (KD ls j hh hG x.2)
  ·cases hm
theorem Hz:∀(e:Ls)(j:Nat) {G:(t:TypeId)→(f:Ls)→Option (List f.D→List f.D)} {t:TypeId} {f:Ls} {g:List f.D→List f.D},e.kinds[j]?=some (.sl t f)→G t f=some g→∃h,CL e j G=some h
 | .nil,j,G,t,f,g,hk,hg=>by simp[Ls.kinds]at hk
 | .one l,0,G,t,f,g,hk,hg=>by simp[Ls.kinds]at hk;subst hk;exact⟨g,hg⟩
 | .one l,j+1,G,t,f,g,hk,hg=>by simp[Ls.kinds]at hk
 | .cons l ls,0,G,t,f,g,hk,hg=>by simp[Ls.kinds]at hk;subst hk;exact⟨_,by simp only[CL,hg];rfl⟩
 | .cons l ls,j+1,G,t,f,g,hk,hg=>by
  obtain⟨h,hh⟩:=Hz ls j (by simpa[Ls.kinds]using hk) hg;exact⟨_,by simp only[CL,hh];rfl⟩
end
section
variable {P:Program}
mutual
theorem ID:∀(l:L) {w:World} {fz:Nat→Prop} {v:Value} {x:l.D},l.rd 0 w fz v x []→l.rd 0 w (fun b=>fz b∧b<w.heap.size) v x []
 | .int _,_,_,_,_,h=>h
 | .bool,_,_,_,_,h=>h
 | .str,_,_,_,_,h=>h
 | .sl t e,w,fz,v,x,h=>by
  rw[L.IC]at h ⊢;obtain⟨A,c,hv,hc,h⟩:=h;refine⟨A,c,hv,hc,?_⟩;cases A with
  |none=>exact h
  |some a=>
   rcases h with h|⟨g,os,Vr,V5,ho⟩
   ·exact .inl h
   ·have ho:fz a.block∧[]=[]∧∀i,i<List.length (α:=e.D) x→os i=[]:=ho;refine .inr ⟨g,os,Vr,fun i hi=>?_,⟨ho.1,Vr.lt⟩,ho.2⟩;have h1:=V5 i hi;rw[ho.2.2 i hi]at h1 ⊢;exact GU e h1
theorem GU:∀(ls:Ls) {w:World} {fz:Nat→Prop} {g:Nat→Option Value} {x:ls.D},ls.rd 0 w fz g x []→ls.rd 0 w (fun b=>fz b∧b<w.heap.size) g x []
 | .nil,_,_,_,_,_=>by simp only[Ls.rd]
 | .one l,w,fz,g,x,h=>by simp only[Ls.rd]at h ⊢;obtain⟨v,hg,h⟩:=h;exact⟨v,hg,ID l h⟩
 | .cons l ls,w,fz,g,x,h=>by simp only[Ls.rd]at h ⊢;obtain⟨v,o1,o2,hg,h1,h2,ho⟩:=h;obtain⟨e1,e2⟩:=List.append_eq_nil_iff.1 ho.symm;subst e1;subst e2;exact⟨v,[],[],hg,ID l h1,GU ls h2,rfl⟩
end
theorem AD.OM{e:Ls}{w w':World}{fz Vp:Nat→Prop}{v:Value}{xs:List e.D}{o:List Nat}(h:AD e 1 w fz v xs o)(hold:∀b,b<w.heap.size→w'.heap[b]?=w.heap[b]?)(ho:∀b∈o,b<w.heap.size)(hz:∀b,fz b→Vp b):AD e 1 w' Vp v xs o:=by
 obtain⟨A,c,hv,hc,h⟩:=h;refine⟨A,c,hv,hc,?_⟩;cases A with
 |none=>exact h
 |some a=>
  rcases h with h|⟨g,os,Vr,V5,h2⟩
  ·exact .inl h
  refine .inr ⟨g,fun _=>[],Vr.frame (hold _ Vr.lt),fun i hi=>?_,?_⟩
  ·have h1:e.rd 0 w fz (fun j=>g (i*e.n+j)) xs[i] (os i):=V5 i hi;rw[Ls.Bn e h1]at h1;exact Ls.AI e (GU e h1) (fun b hb=>hold b (hb.elim (fun hb=>by cases hb) fun hb=>hb.2)) fun b hb=>hz b hb.1
  ·have h2:o=a.block::(List.range xs.length).flatMap os:=h2
   have:(List.range xs.length).flatMap os=[]:=by rw[List.flatMap_eq_nil_iff];intro i hi;exact Ls.Bn e (V5 i (kM.1 hi))
   show o=_;rw[h2,this];simp[DS]
theorem Md{e:Ls}{w:World}{fz:Nat→Prop}{xs:List e.D}{ad:Addr}{arr:Array Value}{T:TypeId}{fr:Nat×Nat}{c:Nat}(hh:w.heap[ad.block]?=some (.cells arr T fr))(hs:ad.spot=none)(hb:∀j,j<arr.size→¬(fr.1≤j∧j<fr.2))
  (hc:ad.off+c*e.n≤arr.size) (hl:xs.length≤c) (V5:B1 e 0 w fz (fun k=>arr[ad.off+k]?) xs fun _=>[]):
  AD e 1 w fz (.slice (some ad) xs.length c) xs [ad.block]:=
 ⟨some ad,c,rfl,hl,.inr ⟨fun k=>arr[ad.off+k]?,fun _=>[],⟨hs,arr,T,fr,hh,hc,fun _=>hb,fun j=>rfl⟩,V5,by show _=_;simp[DS]⟩⟩
theorem OS{e:Ls}{w:World}{fz:Nat→Prop}{xs:List e.D}{ad:Addr}{arr:Array Value}{T:TypeId}{fr:Nat×Nat}{c:Nat}(hh:w.heap[ad.block]?=some (.cells arr T fr))(hs:ad.spot=none)(hz:fz ad.block)
  (hc:ad.off+c*e.n≤arr.size) (hl:xs.length≤c) (V5:B1 e 0 w fz (fun k=>arr[ad.off+k]?) xs fun _=>[]):
  AD e 0 w fz (.slice (some ad) xs.length c) xs []:=
 ⟨some ad,c,rfl,hl,.inr ⟨fun k=>arr[ad.off+k]?,fun _=>[],⟨hs,arr,T,fr,hh,hc,fun h=>by simp at h,fun j=>rfl⟩,V5,hz,rfl,fun _ _=>rfl⟩⟩
theorem B1.zero{e:Ls}{w:World}{fz:Nat→Prop}{g:Nat→Option Value}{xs:List e.D}{os:Nat→List Nat}(h:B1 e 0 w fz g xs os):B1 e 0 w fz g xs fun _=>[]:=fun i hi=>by have:=h i hi;rw[Ls.Bn e this]at this;exact this
theorem J6{t t0 ty:TypeId}{e:Ls}(WI:P.underlying t=some (.slice t0))(V5:MC P t0 e){w:World}{fz:Nat→Prop}(XA:∀b,fz b→b<w.heap.size){ux uy:Value}{xs ys:List e.D}{o1:List Nat}
  (hx:AD e 1 w fz ux xs o1) (YQ:∀b∈o1,¬fz b) (hy:AD e 0 w fz uy ys []) (hlen:xs.length+ys.length≤Di):
  ∃u w',(Builtin.append_ #[t,t] ty #[ux,uy]).run P w=.ok u w'∧(w'.os=w.os∧w'.tape=w.tape∧w'.output=w.output)∧w.heap.size≤w'.heap.size∧(∀b,b<w.heap.size→b∉o1→w'.heap[b]?=w.heap[b]?)∧
   ∃o',AD e 1 w' fz u (xs++ys) o'∧o'.Nodup∧∀b∈o',b∈o1∨(w.heap.size≤b∧b<w'.heap.size):=by
 obtain⟨i,hi,V7,Zj,z,hz,YV⟩:=V5.info;have YR:=V5.pos;have WO:xs.length+ys.length≤68719476736:=hlen;have cj:=hx.dep
 have tr:∀ {w':World} {g:Nat→Option Value} {zs:List e.D},(∀b,fz b→w'.heap[b]?=w.heap[b]?)→B1 e 0 w fz g zs (fun _=>[])→B1 e 0 w' fz g zs fun _=>[]:=fun hb h=>
  h.frame (fun b Vz=>Vz.elim (fun⟨_,_,h⟩=>by cases h) (hb b)) fun _ hb=>hb
 have XC:∃A c g,uy=.slice A ys.length c∧(A=none→ys=[])∧(∀ad,A=some ad→ys≠[]→ad.spot=none∧∀k,w.cell? (at_ ad k)=g k)∧B1 e 0 w fz g ys fun _=>[]:=by
  obtain⟨A,c,hv,hc,hn,WK⟩:=hy.KX;cases A with
  |none=>
   have:ys=[]:=kD (by grind);subst this;exact⟨none,c,fun _=>none,hv,fun _=>rfl,(fun ad Wt _=>by cases Wt),(fun i hi=>by simp at hi)⟩
  |some ad=>
   by_cases cA:c=0
   ·have:ys=[]:=kD (by omega);subst this;exact⟨some ad,c,fun _=>none,hv,fun _=>rfl,(fun ad Wt Vv=>absurd rfl Vv),(fun i hi=>by simp at hi)⟩
   obtain⟨arr,T,fr,os,hs,hh,_,_,V5,_,_⟩:=WK ad rfl (.inl (by omega));refine⟨some ad,c,_,hv,(fun hA=>by cases hA),?_,B1.zero V5⟩;intro bD Wt _;injection Wt with Wt;subst Wt
   exact⟨hs,fun k=>by simp[World.cell?,at_,hh]⟩
 obtain⟨A1,c1,Za,eT,cT,YZ⟩:=hx.KX;obtain⟨A2,c2,g2,dj,cU,Yo,XZ⟩:=XC
 have Yh:∃news:List Value,news.length=ys.length*e.n∧(∀k,k<ys.length*e.n→news[k]?=g2 k)∧(∀v∈news,v.oneCell'=true)∧
   (Builtin.firstCells i.size ys.length (.slice A2 ys.length c2)).run P w=.ok news.toArray w∧∀ad,A2=some ad→∀j u,news[j]?=some u→w.cell? (ad.add j)=some u:=by
  have V6:=XZ.cell
  have XH:∀ad,A2=some ad→∀j u,(BW g2 (ys.length*e.n))[j]?=some u→w.cell? (ad.add j)=some u:=by
   intro ad Wt j u hj;have Vs:j<ys.length*e.n:=by have:=(j9.1 hj).1;rwa[AL]at this
   rw[Bf V6 j Vs]at hj;obtain⟨hs,hg⟩:=Yo ad Wt (fun h0=>by grind);rw[EM hs,hg,hj]
  refine⟨BW g2 (ys.length*e.n),AL _ _,Bf V6,FQ V6,?_,XH⟩;cases hA:A2 with
  |none=>
   have:=cU hA;subst this;rw[run_firstCells_none];simp[BW]
  |some ad=>exact run_firstCells_some w i.size ys.length ad ys.length c2 _ (by rw[AL,V7]) (XH ad hA)
 obtain⟨news,XM,Zy,Zw,Y7,XD⟩:=Yh
 have fresh:∀(arr:Array Value)(cap:Nat),xs.length+ys.length≤cap→cap*e.n≤arr.size→B1 e 0 w fz (fun k=>arr[k]?) xs (fun _=>[])→(∀k,k<ys.length*e.n→arr[xs.length*e.n+k]?=g2 k)→
   (∀b,b<w.heap.size→b∉o1→(w.drew.alloc (.cells arr t0)).heap[b]?=w.heap[b]?)∧w.heap.size≤(w.drew.alloc (.cells arr t0)).heap.size∧
   ∃o',AD e 1 (w.drew.alloc (.cells arr t0)) fz (.slice (some ⟨w.heap.size,0,none⟩) (xs.length+ys.length) cap) (xs++ys) o'∧o'.Nodup∧∀b∈o',b∈o1∨(w.heap.size≤b∧b<(w.drew.alloc (.cells arr t0)).heap.size):=by
  intro arr cap Wn WZ Xs bw;have hold:∀b,b<w.heap.size→(w.drew.alloc (.cells arr t0)).heap[b]?=w.heap[b]?:=fun b hb=>alloc_old w.drew _ hb;refine⟨fun b hb _=>hold b hb,by grind,?_⟩
  have W9:B1 e 0 (w.drew.alloc (.cells arr t0)) fz (fun k=>arr[0+k]?) (xs++ys) fun i=>if i<xs.length then []else []:=by
   refine B1.append (os:=fun _=>[]) (Wc:=fun _=>[]) ?_ ?_
   ·grind
   ·exact B1.congr (g:=g2) (tr (fun b hb=>hold b (XA b hb)) XZ) fun k hk=>by grind
  have Vr:=Md (w:=w.drew.alloc (.cells arr t0)) (ad:=⟨w.heap.size,0,none⟩) (c:=cap) (fr:=(0,0)) (T:=t0) (heap_alloc_new w.drew _) rfl (by omega) (by grind) (by grind) W9.zero;rw[lC]at Vr;refine⟨_,Vr,kQ.2 ⟨by simp,kE⟩,fun b hb=>?_⟩;rw[km.1 hb];exact .inr ⟨kT _,by rw[Ar];exact Nat.lt_succ_self _⟩
 subst Za;subst dj;cases A1 with
 |none=>
  obtain⟨rfl,rfl⟩:=cT rfl;have YT:xs=[]:=kD (by omega);subst YT;cases ys with
  |nil=>exact⟨_,_,Cv t ty t0 i WI hi 0 A2 c2 news Y7,⟨rfl,rfl,rfl⟩,kT _,fun _ _ _=>rfl,[],Bm,kE,fun b hb=>by cases hb⟩
  |cons y ys=>
   cases A2 with
   |none=>grind
   |some ad2=>
    have Wg:=grownCap_ge w (y::ys).length 0 t0
    obtain⟨f2,f3,o',f4,fn,f5⟩:=fresh (news.toArray++Builtin.zeroCells z.cells (grownCap w (y::ys).length 0 t0-(y::ys).length)) (grownCap w (y::ys).length 0 t0) (by simpa using Wg)
     (by
      have:(y::ys).length*e.n+(grownCap w (y::ys).length 0 t0-(y::ys).length)*e.n=grownCap w (y::ys).length 0 t0*e.n:=by rw[←kd];congr 1;omega
      simp only[lM,lL,XM,Builtin.zeroCells,lS,lV,YV,lF,BC];omega) (fun i hi=>by simp at hi)
     (by
      intro k hk;rw[←Zy k hk];simp only[List.length_nil,Nat.zero_mul,kO];rw[ka (by simpa[XM]using hk)];simp)
    refine⟨_,_,run_append_nil w t ty t0 i z WI hi hz ad2 (y::ys).length c2 news (by rw[XM,V7]) (XD ad2 rfl) (by simp) (by simp at WO ⊢;omega) (kv (lX (show _≤68719476736 by simp at WO ⊢;omega) Zj) (by decide)),⟨rfl,rfl,rfl⟩,f3,f2,o',?_,fn,f5⟩;grind
 |some ad1=>
  obtain⟨arr,T,fr,os1,hs,hh,WH,Wk,eK,Yj,_⟩:=YZ ad1 rfl (.inr (by decide));have Xs:B1 e 0 w fz (fun k=>arr[ad1.off+k]?) xs fun _=>[]:=B1.zero eK;clear eK;have YC:o1=ad1.block::(List.range xs.length).flatMap os1:=Yj (by decide);have V0:=Wk (by decide);clear Yj Wk YZ;obtain⟨b1,WA,sp1⟩:=ad1;dsimp only at hs hh WH Xs YC;subst hs;have XP:b1∈o1:=by rw[YC];simp
  by_cases Wn:xs.length+ys.length≤c1
  ·
   have hmul:(xs.length+ys.length)*e.n≤c1*e.n:=kf _ Wn;rw[kd]at hmul;obtain⟨w',Xq,V1⟩:=DZ (P:=P) (o:=WA+xs.length*e.n) news hh V0 (by omega) Zw;have XH:(⟨b1,WA,none⟩:Addr).add (xs.length*i.size)=⟨b1,WA+xs.length*e.n,none⟩:=by rw[V7];exact addr_add _ _ _
   have V4:=CV news (WA+xs.length*e.n) arr (by omega);have We:∀b,fz b→w'.heap[b]?=w.heap[b]?:=fun b hb=>V1.CJ b fun e=>YQ b1 XP (e▸hb)
   have W9:B1 e 0 w' fz (fun k=>(B8 news (WA+xs.length*e.n) arr)[WA+k]?) (xs++ys) fun i=>if i<xs.length then []else []:=by
    refine B1.append (os:=fun _=>[]) (Wc:=fun _=>[]) ?_ ?_
    ·refine B1.congr (g:=fun k=>arr[WA+k]?) (tr We Xs) fun k hk=>?_;grind
    ·refine B1.congr (g:=g2) (tr We XZ) fun k hk=>?_;rw[←Zy k hk,V4,kF (by omega)];congr 1;omega
   have Vr:=Md (w:=w') (ad:=⟨b1,WA,none⟩) (c:=c1) V1.here rfl (by rw[Ap];exact V0) (by rw[Ap];exact WH) (by grind) W9.zero;rw[lC]at Vr;exact⟨_,_,DK t ty t0 i WI hi ⟨b1,WA,none⟩ xs.length c1 A2 ys.length c2 news Y7 Wn (by grind),V1.rest,by rw[V1.size];omega,fun b hb hn=>V1.CJ b fun e=>hn (e▸XP),_,Vr,kQ.2 ⟨by simp,kE⟩,fun b hb=>.inl (by grind)⟩
  ·
   cases A2 with
   |none=>grind
   |some ad2=>
    have Xx:=Xs.cell;have aB:=Bf Xx
    have holds:∀j u,(BW (fun k=>arr[WA+k]?) (xs.length*e.n))[j]?=some u→w.cell? ((⟨b1,WA,none⟩:Addr).add j)=some u:=by
     intro j u hj;have Vs:j<xs.length*e.n:=by have:=(j9.1 hj).1;rwa[AL]at this
     rw[aB j Vs]at hj;rw[addr_add];simp only[World.cell?,hh];simpa using hj
    have Wg:=grownCap_ge w (xs.length+ys.length) c1 t0
    obtain⟨f2,f3,o',f4,fn,f5⟩:=fresh (((BW (fun k=>arr[WA+k]?) (xs.length*e.n)).toArray++news.toArray)++Builtin.zeroCells z.cells (grownCap w (xs.length+ys.length) c1 t0-(xs.length+ys.length))) (grownCap w (xs.length+ys.length) c1 t0) Wg
     (by
      have:xs.length*e.n+ys.length*e.n+(grownCap w (xs.length+ys.length) c1 t0-(xs.length+ys.length))*e.n=grownCap w (xs.length+ys.length) c1 t0*e.n:=by rw[←kd,←kd];congr 1;omega
      simp only[lM,lL,XM,AL,Builtin.zeroCells,lS,lV,YV,lF,BC];omega)
     (B1.congr Xs fun k hk=>by
      grind)
     (by
      intro k hk;rw[←Zy k hk];rw[ka (by simp[AL,XM];omega),Array.getElem?_append_right (by simp[AL])];simp[AL])
    exact⟨_,_,run_append_grow w t ty t0 i z WI hi hz ⟨b1,WA,none⟩ xs.length c1 (BW (fun k=>arr[WA+k]?) (xs.length*e.n)) (by rw[AL,V7]) holds ad2 ys.length c2 news (by rw[XM,V7]) (XD ad2 rfl) (by omega) (by omega)
     (growslice_fits (by omega) (kv (lX WO Zj) (by decide))),⟨rfl,rfl,rfl⟩,f3,f2,o',f4,fn,f5⟩
end
section
variable {P:Program}{E:Cy}{s:St}{W:Wd}{o:Oper}{a:Act}{ws:List Wr}{cx:Cx}{v:Nat}{tm:Array Value}
theorem Ll{vs:List Lv}{cells:List Value}{w:World}{fz:Nat→Prop}(hl:cells.length=vs.length)(hp:∀(m:Nat)(lv:Lv),vs[m]?=some lv→∃u,cells[m]?=some u∧lv.l.rd 0 w fz u lv.x [])
  {i off:Nat} {e:Ls} {a:Addr} {n k:Nat} (hi:i<n) {xs:List e.D} {o:List Nat} {f:List e.D→List e.D} (hm:Gw vs [(i,off)] e=some f) (hr:AD e 1 w fz (.slice (some a) n k) xs o) (hn:o.Nodup) (hz:∀b∈o,¬fz b):
  a.spot=none∧∃arr T fr,w.heap[a.block]?=some (.cells arr T fr)∧(∀j,j<arr.size→¬(fr.1≤j∧j<fr.2))∧a.off+(i*e.n+off)+cells.length≤arr.size∧a.block∈o∧
   ∀w',NL w w' a.block (B8 cells (a.off+(i*e.n+off)) arr) T fr→AD e 1 w' fz (.slice (some a) n k) (f xs) o:=by
 simp only[Gw]at hm;split at hm
 ·rename_i y hy;injection hm with hm;subst hm
  split at hy
  ·rename_i hc;simp only[j8,kI]at hc;obtain⟨rfl,hlen⟩:=hc;have Xv:=Ae e vs y hy
   have:=HE (F:=fun _=>y) (off:=0) (cells:=cells) hr (by omega) hn hz hi (by omega) (fun g g' x oo hx hg=>by
    have ho:oo=[]:=Ls.Bn e hx;subst ho
    exact Bg e fun j lv hj=>by
     grind)
   simpa only[ED]using this
  ·cases hy
 ·split at hm
  ·rename_i f' Yq;injection hm with hm;subst hm
   have Zz:∀(m:Nat)(lv:Lv),vs[m]?=some lv→∃u,cells[m]?=some u∧lv.l.rd (dec 1) w fz u lv.x ((fun _=>[]) (0+m)):=fun m lv hm=>hp m lv hm;obtain⟨A,c,hv,hc,_,WK⟩:=hr.KX;injection hv with hA Ws Wq
   subst hA;subst Ws;subst Wq;obtain⟨arr,T,fr,os,_,_,_,_,V5,_,_⟩:=WK a rfl (.inr (by omega));have WH:=(Bx e off vs cells 0 (ovs:=fun _=>[]) (g':=fun m=>if off≤m∧m<off+vs.length then cells[m-off]? else _) Yq hl Zz (V5 i hi) fun m _=>rfl).1
   exact HE (F:=f') (off:=off) (cells:=cells) hr (by omega) hn hz hi (by omega) (fun g g' x oo hx hg=>by
    obtain⟨_,o',q1,q2,q3⟩:=Bx e off vs cells 0 (g':=g') (ovs:=fun _=>[]) Yq hl Zz hx fun m hm=>by rw[hg m hm,hl]
    have ho:oo=[]:=Ls.Bn e hx;have Xd:o'=[]:=Ls.Bn e q1;grind)
  ·cases hm
def DV(W:Wd)(w':World)(r j:Nat)(o1 ob:List Nat):Wd:=
 { W with w:=w',fz:=fun b=>W.fz b∨(b∈W.om (.lf r j)∧b∉o1)∨b∈ob,om:=fun k=>match k with
   | .lf a b=>if a=r∧b=j then o1 else W.om (.lf a b)
   |k=>W.om k }
theorem AW.nest(h:AW E s tm W)(hv:Af s v){r j AA gen:Nat}{t:TypeId}{e:Ls}{xs:List e.D}(hl:s.leaf r j=.arr AA gen t e xs 2){u:Value}(WE:W.cv r j=some u){w':World}{o1 ob:List Nat}
  (Vw:AD e 1 w' (DV W w' r j o1 ob).fz u xs o1) (YC:∀b∈o1,b∈W.om (.lf r j)) (Wi:o1.Nodup) (au:∀b∈ob,(b∈W.om (.lf r j)∧b∉o1)∨(W.w.heap.size≤b∧b<w'.heap.size))
  (hw:∀b,b<W.w.heap.size→b∉W.om (.lf r j)→w'.heap[b]?=W.w.heap[b]?) (V7:W.w.heap.size≤w'.heap.size) (V2:w'.os=W.w.os∧w'.tape=W.w.tape∧w'.output=W.w.output):
  AW E (s.AF (.leaf r j (.arr AA v t e xs 1))) tm (DV W w' r j o1 ob):=by
 obtain⟨hr,hj⟩:=HA hl;have Vq:=BI s r j (.arr AA v t e xs 1);have Vl:=Ea s r j (.arr AA v t e xs 1);generalize s.AF (.leaf r j (.arr AA v t e xs 1))=s' at Vq Vl;have XA:∀b,W.fz b→w'.heap[b]?=W.w.heap[b]?:=fun b hb=>hw b (h.sep.fz b hb).1 fun Vm=>(h.sep.own _ b Vm).1 hb;have ZA:∀k,k≠.lf r j→∀b∈W.om k,w'.heap[b]?=W.w.heap[b]?:=fun k hk b hb=>hw b (h.sep.own _ b hb).2.1 fun Vm=>h.sep.Av k _ hk b hb Vm;have bc:∀a b,(DV W w' r j o1 ob).om (.lf a b)=if a=r∧b=j then o1 else W.om (.lf a b):=fun _ _=>rfl
 have dL:∀k,k≠.lf r j→(DV W w' r j o1 ob).om k=W.om k:=by
  intro k hk;cases k with
  |lf a b=>grind
  |AT a=>rfl
  |fl a=>rfl
 have fK:(DV W w' r j o1 ob).om (.lf r j)=o1:=by grind
 have Yp:∀k,∀b∈(DV W w' r j o1 ob).om k,b∈W.om k:=by
  intro k b hb;by_cases hk:k=.lf r j
  ·grind
  ·grind
 have WD:EL v s s' W (DV W w' r j o1 ob):={
  fz:=fun b hb=>.inl hb
  Le:=XA
  leaf:=by
   intro r' j' Z9 W5 t' e' ys d' Ws Vv;rw[Vl]at Ws;by_cases Vm:r=r'∧j=j'
   ·obtain⟨rfl,rfl⟩:=Vm;rw[kF ⟨rfl,rfl,hr,hj⟩]at Ws;injection Ws with e1 e2 e3 e4 e5 e6
    subst e1;subst e2;subst e3;subst e4;subst e6;exact⟨rfl,gen,t,xs,2,hl,fun hg=>absurd rfl hg⟩
   ·rw[kG (fun hh=>Vm ⟨hh.1,hh.2.1⟩)]at Ws;refine⟨rfl,W5,t',ys,d',Ws,fun _=>⟨rfl,fun p h' e2 u' hc hn=>?_⟩⟩;obtain⟨u0,Wj,bn⟩:=(h.roots r').row Ws;rw[hc]at Wj;injection Wj with Wj;subst Wj
    exact BM p bn hn fun b hb=>hb.elim (fun hb=>ZA _ (by grind) b hb) (XA b)
  box:=fun r' hb Vv=>⟨(Vq.box r').1▸hb,(Vq.box r').2.1.symm,rfl⟩ }
 have XR:Sep E (DV W w' r j o1 ob):={
  nodup:=fun k=>by
   by_cases hk:k=.lf r j
   ·grind
   ·rw[dL k hk];exact h.sep.nodup k
  Av:=fun k k' Vv b hb Vz=>h.sep.Av k k' Vv b (Yp k b hb) (Yp k' b Vz)
  own:=fun k b hb=>by
   obtain⟨a,c,d⟩:=h.sep.own k b (Yp k b hb);refine⟨?_,by show b<w'.heap.size;omega,d⟩;have Y8:k=.lf r j→b∈o1:=fun hk=>by grind
   rintro (hz|⟨h1,h2⟩|hz)
   ·exact a hz
   ·by_cases hk:k=.lf r j
    ·grind
    ·exact h.sep.Av k _ hk b (Yp k b hb) h1
   ·rcases au b hz with⟨h1,h2⟩|⟨h1,_⟩
    ·by_cases hk:k=.lf r j
     ·grind
     ·exact h.sep.Av k _ hk b (Yp k b hb) h1
    ·omega
  fz:=fun b hb=>by
   rcases hb with hb|⟨h1,_⟩|hb
   ·obtain⟨a,c⟩:=h.sep.fz b hb;exact⟨by show b<w'.heap.size;omega,c⟩
   ·obtain⟨_,c,d⟩:=h.sep.own _ b h1;exact⟨by show b<w'.heap.size;omega,.inr d⟩
   ·rcases au b hb with⟨h1,_⟩|⟨h1,h2⟩
    ·obtain⟨_,c,d⟩:=h.sep.own _ b h1;exact⟨by show b<w'.heap.size;omega,.inr d⟩
    ·exact⟨h2,.inr (.inl (by have:=h.sep.size;omega))⟩
  frame:=fun b h1 h2=>(hw b (by have:=h.sep.size;omega) fun Vm=>by
   rcases(h.sep.own _ b Vm).2.2 with h3|h3
   all_goals grind).trans (h.sep.frame b h1 h2)
  size:=by show _≤w'.heap.size;have:=h.sep.size;omega
  rest:=⟨V2.1.trans h.sep.rest.1,V2.2.1.trans h.sep.rest.2.1,V2.2.2.trans h.sep.rest.2.2⟩ }
 refine h.IE hv WD XR (by rw[Vq.sl,h.DM]) (by rw[Vq.len,h.BQ]) (fun t=>.inl ⟨by show nth _ s'.sl t=_;rw[Vq.sl];rfl,rfl⟩) ?_;intro r';obtain⟨h1,h2⟩:=h.roots r';refine⟨fun j'=>?_,?_⟩
 ·show Ab s' _ (s'.leaf r' j') (W.cv r' j') ((DV W w' r j o1 ob).om (.lf r' j'));rw[Vl];by_cases Vm:r=r'∧j=j'
  ·obtain⟨rfl,rfl⟩:=Vm;rw[kF ⟨rfl,rfl,hr,hj⟩,fK];exact⟨u,WE,Vw⟩
  ·have hk:Key.lf r' j'≠.lf r j:=by simp;intro e1 e2;exact Vm ⟨e1.symm,e2.symm⟩
   rw[kG (fun hh=>Vm ⟨hh.1,hh.2.1⟩),dL _ hk];exact Ab.DL WD (LA.Dx hv r' j') (ZA _ hk) (h1 j')
 ·rw[(Vq.box r').1];have hQ:(DV W w' r j o1 ob).om (.AT r')=W.om (.AT r'):=rfl;rw[hQ];split
  ·rename_i hb;rw[kF hb]at h2;obtain⟨Xd,W4,T',aJ,Yr,a1,a2,a3⟩:=h2;exact⟨Xd,W4,T',aJ,(ZA (.AT r') (by simp) _ (by rw[Xd];exact km.2 rfl)).trans Yr,a1,by rw[(Vq.box r').2.2];exact a2,a3⟩
  grind
theorem Iq{s:St}{r j AA gen v:Nat}{t:TypeId}{e:Ls}{xs:List e.D}{d:Nat}(h:s.leaf r j=.arr AA gen t e xs (d+1)):s.AF (.half r j v)=s.AF (.leaf r j (.arr AA v t e xs 1)):=by simp only[St.AF,h,LA.Cj]
theorem Nh(h:AW E s tm W)(hv:Af s v){t t0 ty:TypeId}{e:Ls}(WI:P.underlying t=some (.slice t0))(V5:MC P t0 e){d:Nat}{c:Loc}(ZT:∃q,c.p=[q]){ux uy:Value}(hx:AP s W (.ref c) ux){lb:LA}(hy:AP s W lb uy){t1:TypeId}
  (hl:(D1 cx s d v t1 e c lb fun ws=>.go ws).leads ws):∃u w',(Builtin.append_ #[t,t] ty #[ux,uy]).run P W.w=.ok u w'∧∃W',W'.w=w'∧AW E (s.app ws) (tm.setIfInBounds d u) W':=by
 obtain⟨⟨i,off⟩,ZT⟩:=ZT;unfold D1 at hl;split at hl
 ·rename_i AA gen tt e0 xs Vl;split at hl
  ·rename_i Vt;simp only[j8,kI,kJ]at Vt;obtain⟨⟨⟨Vu,Y4⟩,Yk⟩,Xn⟩:=Vt;subst Vu;subst Y4;obtain⟨ca,e2,WE,Wo⟩:=hx _ _ _ _ _ Vl (.inr rfl);obtain⟨u0,Wj,Vw⟩:=(h.roots c.r).row Vl;rw[WE]at Wj;injection Wj with Wj;subst Wj
   unfold St.content at hl;rw[Vl]at hl;dsimp only at hl;rw[ZT]at Wo hl;split at hl
   ·have Y6:=h.sep.nodup (.lf c.r c.j);obtain⟨t2,ys0,oy,hl,cI,bA,fC⟩:=Fq [(i,off)] hl Vw Wo (fun _=>rfl) Y6;obtain⟨ad,len,cc,tf,f2,cK,eo,XO,aS,Yd,V6,ec,cL⟩:=Wo;subst ec;subst cL;subst eo;split at hl
    ·rename_i zs Ya;obtain⟨q1,q2⟩:=L.AH Ya;cases q1;have q2:ys0=zs:=q2;subst q2;obtain⟨ys,hl,dq⟩:=Bj h hy hl;rcases Ag hl with⟨hb,hl⟩|⟨_,hl⟩
     ·have hl:_=ws:=hl;have hb:=kp hb;obtain⟨u,w',Vx,V2,V7,hold,Yl,ob,YN,au⟩:=Jz (P:=P) (ty:=ty) WI V5 Xn (fun b hb=>(h.sep.fz b hb).1) cI (L.Kr.1 dq) hb;refine⟨u,w',Vx,?_⟩;have ZQ:=H2 Vw Y6 aS Yd V6 cI;obtain⟨H,hH⟩:=Hz e0 off (G:=fun _ f=>some (fun(l:List f.D)=>l)) Yd rfl
      have hF:Hx (fun _ f=>some (fun(l:List f.D)=>l)) [(i,off)] tt e0=some fun xs=>xs.modify i H:=by simp only[Hx,hH]
      have eN:xs.modify i H=xs:=by rw[show H=id from funext (KD e0 off hH fun t f g hg l=>by injection hg with hg;subst hg;rfl)];simp
      obtain⟨t3,fn,zs,po,g1,g2,g3,g4,g5⟩:=OR [(i,off)] hF Vw ⟨ad,len,cc,tf,_,_,rfl,XO,aS,Yd,V6,rfl,rfl⟩ (fun _=>rfl) Y6;injection g1 with g1;subst g1
      obtain⟨z1,z2⟩:=g2.uniq cI;subst z1;subst z2
      obtain⟨q,hq,Xm⟩:=g5 w' W.fz po Yl {
       nd:=g4
       new:=fun b hb _=>hb
       rest:=fun b hb=>by
        rcases hb with⟨XP,XT⟩|hb
        ·exact hold b (h.sep.own _ b XP).2.1 XT
        ·exact hold b (h.sep.fz b hb).1 fun Vm=>(h.sep.own _ b (g3 b Vm)).1 hb
       fz:=fun b hb=>hb }
      rw[eN]at hq;have ay:∀b∈q,b∈W.om (.lf c.r c.j):=fun b hb=>(Xm.2 b hb).elim (fun hb=>g3 b hb) (fun hb=>hb.1);obtain⟨o1,YC,X4,Xa⟩:=hq.half Xm.1
      have WU:∀b∈o1,b∉po:=fun b hb=>by
       obtain⟨_,a',n',c',W0,e'⟩:=YC b hb;injection W0 with W0 _ _
       injection W0 with W0
       rw[e',←W0];exact ZQ
      have fF:∀b∈ob,(b∈W.om (.lf c.r c.j)∧b∉o1)∨(W.w.heap.size≤b∧b<w'.heap.size):=fun b hb=>(au b hb).imp (fun hb=>⟨g3 b hb,fun Vm=>WU b Vm hb⟩) id;have bo:AD e0 1 w' (DV W w' c.r c.j o1 ob).fz (.slice (some ad) len cc) xs o1:=Xa _ (fun b hb=>.inl hb) fun b hb hn=>.inr (.inl ⟨ay b hb,hn⟩);have Vo:=h.nest hv Vl WE bo (fun b hb=>ay b (YC b hb).1) X4 fF (fun b hb hn=>hold b hb fun Vm=>hn (g3 b Vm)) V7 V2;refine⟨DV W w' c.r c.j o1 ob,rfl,?_⟩;rw[←hl];show AW E ((s.AF (.half c.r c.j v)).app _) _ _;rw[Iq Vl];exact Vo.slot d (YN.freeze fun b hb=>hb.elim (fun hb=>.inl hb) fun hb=>.inr (.inr hb))
     ·exact hl.elim
    ·exact hl.elim
   grind
  ·exact hl.elim
 ·exact hl.elim
theorem NZ(h:AW E s tm W)(hv:Af s v){t t0 ty:TypeId}{e:Ls}(WI:P.underlying t=some (.slice t0))(V5:MC P t0 e){d:Nat}(hd:d<tm.size){c:Loc}(ZT:c.p=[]){ux uy:Value}(hx:AP s W (.ref c) ux){lb:LA}(hy:AP s W lb uy){t1:TypeId}
  (hl:(D0 cx s d v t1 e c lb fun ws=>.go ws).leads ws):∃u w',(Builtin.append_ #[t,t] ty #[ux,uy]).run P W.w=.ok u w'∧∃W',W'.w=w'∧AW E (s.app ws) (tm.setIfInBounds d u) W':=by
 unfold D0 at hl;split at hl
 ·rename_i AA gen t' e' xs Vl;split at hl
  ·rename_i Vt;simp only[j8,kI,kJ]at Vt;obtain⟨⟨Vu,Yk⟩,eH⟩:=Vt;subst Vu;split at hl
   ·rename_i zs Ya;obtain⟨q1,q2⟩:=L.AH Ya;cases q1;have q2:xs=zs:=q2;subst q2;obtain⟨h',e',WE,hn⟩:=hx gen _ _ _ _ Vl (.inl ZT);rw[ZT]at hn;obtain⟨rfl,rfl⟩:=hn;obtain⟨u',Vy,Vw⟩:=(h.roots c.r).row Vl;rw[WE]at Vy;injection Vy with Vy;subst Vy
    obtain⟨ys,hl,dq⟩:=Bj h hy hl;have Wx:lb.roots=[]:=by cases lb<;>first|rfl|cases eH
    rcases Ag hl with⟨hb,hl⟩|⟨_,hl⟩
    ·have hl:_=ws:=hl;have hb:=kp hb;have dq:=(L.Kr.1 dq).frame (Vp:=W.fz) (w':=W.w) (fun _ _=>rfl) fun b hb=>hb.elim id fun⟨r,hr,_⟩=>by grind
     obtain⟨u,w',Vx,V2,V7,hold,o',Vr,Wi,Wf⟩:=J6 (P:=P) (ty:=ty) WI V5 (fun b hb=>(h.sep.fz b hb).1) Vw (fun b hb=>(h.sep.own _ b hb).1) dq hb;refine⟨u,w',Vx,?_⟩;rw[←hl]
     exact h.CT hv [(c.r,c.j)] hd (t0:=t1) (fun b hb=>hold b (by
       rcases hb with hb|⟨k,_,hb⟩
       ·exact(h.sep.fz b hb).1
       ·exact(h.sep.own k b hb).2.1) fun Vm=>by
       rcases hb with hb|⟨k,hk,hb⟩
       ·exact(h.sep.own _ b Vm).1 hb
       ·by_cases bW:k=.lf c.r c.j
        ·subst bW;exact hk.2 (by simp)
        ·exact h.sep.Av k _ bW b hb Vm)
      (fun b hb Yt=>hold b (by have:=h.sep.size;omega) fun Vm=>by
       rcases(h.sep.own _ b Vm).2.2 with h3|h3
       all_goals grind) V7 V2 Vr Wi (fun b hb=>(Wf b hb).imp (fun hb=>⟨c.r,c.j,by simp,hb⟩) id)
    ·exact hl.elim
   ·exact hl.elim
  ·exact hl.elim
 ·exact hl.elim
theorem FY{a:LA}{c:Loc}(h:nested a=some c):a=.ref c∧∃q,c.p=[q]:=by unfold nested at h;grind
theorem FE:∀ {as:List LA} {c:Loc},Cf as=some c→∃(j:Nat),as[j]?=some (.ref c)∧∃q,c.p=[q]
 | [],c,h=>by cases h
 |a::as,c,h=>by
  unfold Cf at h;split at h
  ·rename_i c' WS;injection h with h;subst h
   obtain⟨e1,e2⟩:=FY WS;exact⟨0,by rw[e1];rfl,e2⟩
  ·obtain⟨j,h1,h2⟩:=FE h;exact⟨j+1,by grind,h2⟩
theorem K1{w:World}{Vp:Nat→Prop}{β:Type}{z:β}:∀ {ls:List L} {as:List LA} {g:Nat→Option Value} {k:List Lv→Step β},
  (∀(j:Nat)(b:LA),as[j]?=some b→∃u,g j=some u∧∀(l:L)(k':l.D→Step β),(s.datum l b k').leads z→∃x,(k' x).leads z∧l.rd 0 w Vp u x [])→(s.data ls as k).leads z→
  ∃vs:List Lv,(k vs).leads z∧vs.length=as.length∧vs.map (·.l)=ls∧∀(j:Nat)(lv:Lv),vs[j]?=some lv→∃u,g j=some u∧lv.l.rd 0 w Vp u lv.x []
 | [],[],g,k,hg,hl=>⟨[],hl,rfl,rfl,fun j lv hj=>by simp at hj⟩
 | [],_::_,g,k,hg,hl=>hl.elim
 |_::_,[],g,k,hg,hl=>hl.elim
 |l::ls,b::as,g,k,hg,hl=>by obtain⟨u,hu,hb⟩:=hg 0 b rfl;obtain⟨x,hl,hx⟩:=hb l _ hl;obtain⟨vs,hl,hn,hm,XV⟩:=K1 (g:=fun j=>g (j+1)) (fun j b hj=>hg (j+1) b (by simpa using hj)) hl;grind
theorem Nd(h:AW E s a.tmps W)(hv:Af s v){t t':TypeId}{e:Ls}(WI:P.underlying t=some (.slice t'))(V5:MC P t' e){d len:Nat}{c:Loc}{x:Operand}{g:Bool}{as:List LA}(Y7:∃(j:Nat),as[j]?=some (.ref c)∧∃q,c.p=[q])(Y9:s.Au x=.v g as)(hx:E6 s W g as (a.eval x)){t1:TypeId}(Z6:len*e.n≤16777216)(hlen:len=1){parts:Array (Nat×Operand)}
  (hl:(C2 cx s d v t1 e x c fun ws=>.go ws).leads ws) (XN:parts.toList=[(0,x)]):∃u w',(Instr.buildSlice t len (parts.map fun(i,x)=>(i,a.eval x))).run P W.w=.ok u w'∧∃W',W'.w=w'∧AW E (s.app ws) (a.tmps.setIfInBounds d u) W':=by
 obtain⟨j0,hj0,⟨i0,off0⟩,ZT⟩:=Y7;unfold C2 at hl;rw[Y9]at hl;dsimp only at hl;split at hl
 ·rename_i AA gen t0 e0 xs Vl;split at hl
  ·rename_i Vt;simp only[j8,kI,kJ]at Vt;obtain⟨⟨⟨Vu,Y4⟩,Yk⟩,Wa⟩:=Vt;subst Vu;subst Y4;obtain⟨i,hi,V7,Zj,z,hz,YV⟩:=V5.info;have Y6:=h.sep.nodup (.lf c.r c.j);obtain⟨ca,WE,Vw⟩:=(h.roots c.r).row Vl;obtain⟨o1,YC,X4,Xa⟩:=Vw.half Y6;have ZH:∀b,W.w.heap.size≤b→¬W.fz b:=fun b hb hz=>by have:=(h.sep.fz b hz).1;omega
   let Vp:Nat→Prop:=fun b=>W.fz b∨(b∈W.om (.lf c.r c.j)∧b∉o1)∨b∈[W.w.heap.size]
   obtain⟨vs,hl,WX,ZE,XV⟩:=K1 (w:=W.w) (Vp:=Vp) (g:=Ay g (a.eval x)) (fun j b hj=>by
    obtain⟨u,hu,WQ⟩:=B7 hx j b hj;refine⟨u,hu,fun l k' hl=>?_⟩;have aN:=kL.1 Wa b (kC hj);unfold KA at aN;split at aN
    ·rename_i c';simp only[j8,kI]at aN;obtain⟨⟨⟨⟨a1,a2⟩,a3⟩,a4⟩,a5⟩:=aN;obtain⟨r',j',Z9,W5,p'⟩:=c';dsimp only at a1 a2 a3 a4 a5;subst a1;subst a2;subst a3;subst a4
     have Zz:∃q,p'=[q]:=by
      split at a5
      ·exact⟨_,rfl⟩
      ·cases a5
     obtain⟨⟨i1,WA⟩,rfl⟩:=Zz;obtain⟨h',e',Y1,Wo⟩:=WQ _ _ _ _ _ Vl (.inr rfl);rw[WE]at Y1;injection Y1 with Y1;subst Y1
     unfold St.datum St.content at hl;simp only[Vl]at hl;split at hl
     ·obtain⟨t2,ys0,oy,hl,cI,bA,fC⟩:=Fq [(i1,WA)] hl Vw Wo (fun _=>rfl) Y6;obtain⟨ad,ln,cc,tf,f2,u2,eo,XO,aS,Yd,V6,ec,cL⟩:=Wo;subst ec;subst cL;subst eo;split at hl
      ·rename_i y hy;obtain⟨ee,he⟩:=L.AH hy;subst ee;subst he;have ZQ:=H2 Vw Y6 aS Yd V6 cI;refine⟨_,hl,cI.freeze fun b hb=>?_⟩;rcases hb with hb|hb
       ·exact .inl hb
       ·refine .inr (.inl ⟨bA b hb,fun Vm=>?_⟩);obtain⟨_,a',n',c',W0,e'⟩:=YC b Vm;injection W0 with W0 _ _
        injection W0 with W0
        rw[e',←W0]at hb;exact ZQ hb
      ·exact hl.elim
     grind
    ·rename_i l0 x0;simp only[St.datum]at hl;split at hl
     ·rename_i y hy;obtain⟨ee,he⟩:=L.AH hy;subst ee;subst he;exact⟨x0,hl,L.AI l0 WQ (fun _ _=>rfl) fun b hb=>.inl hb⟩
     ·exact hl.elim
    ·cases aN) hl
   split at hl
   ·rename_i y hy;have hl:_=ws:=hl;have Xv:=Ae e vs y hy;have ea:as.length=e.n:=by rw[←WX,←Xv,B9]
    have V9:=Bt hx fun j b hj=>by
     have Vs:j<vs.length:=by rw[WX];exact(j9.1 hj).1
     obtain⟨u,hu,hr⟩:=XV j vs[j] (j7 Vs);exact⟨u,hu,L.Dl _ hr⟩
    have hrde:e.rd 0 W.w Vp (Ay g (a.eval x)) y []:=Bg e fun j lv hj=>by grind
    obtain⟨arr,hf,Y0,_,V4⟩:=FP (e:=e) a.eval parts.toList 0 (madeCells z.cells (len*e.n)) (fun m x' i' hm=>by
     grind) (by rw[size_madeCells,XN,hlen];simp)
    rw[size_madeCells]at Y0;have Vx:=Ee (P:=P) (w:=W.w) (t:=t) (len:=len) (parts:=parts.map fun(i,x)=>(i,a.eval x)) (arr:=arr) WI hi hz (by grind) (by rw[V7,lU];exact hf)
    have W9:B1 e 0 (W.w.alloc (.cells arr t')) Vp (fun k=>arr[0+k]?) [y] fun _=>[]:=by
     intro m hm;have h9:m=0:=by simpa using hm
     subst h9
     have hsz':∀b,(b∈([]:List Nat)∨Vp b)→b<W.w.heap.size∨b=W.w.heap.size:=by
      intro b hb;rcases hb with hb|hb|⟨hb,_⟩|hb
      ·cases hb
      ·grind
      ·exact .inl (h.sep.own _ b hb).2.1
      ·grind
     have h4:e.rd 0 (W.w.alloc (.cells arr t')) Vp (fun j=>(a.eval x).cells[j]?) y []:=by
      refine Ls.BG e (g:=Ay g (a.eval x)) ?_ fun j hj=>V9.2 j (by omega)
      have h0:e.rd 0 W.w (fun b=>Vp b∧b<W.w.heap.size) (Ay g (a.eval x)) y []:=Bg e fun j lv hj=>by rw[Xv]at hj;obtain⟨u,hu,hr⟩:=XV j lv hj;exact⟨u,hu,ID lv.l hr⟩
      exact Ls.AI e h0 (fun b hb=>alloc_old _ _ (hb.elim (fun hb=>by cases hb) fun hb=>hb.2)) fun b hb=>hb.1
     refine Ls.BG e h4 fun j hj=>?_;have:=V4 0 0 x (by rw[XN];rfl) j hj;simp only[kO]at this ⊢;exact this
    have Vr:=OS (w:=W.w.alloc (.cells arr t')) (ad:=⟨W.w.heap.size,0,none⟩) (c:=len) (fr:=(0,0)) (T:=t') (fz:=Vp) (heap_alloc_new _ _) rfl (.inr (.inr (by simp))) (by simp[Y0]) (by simp[hlen]) W9;refine⟨_,_,Vx,DV W (W.w.alloc (.cells arr t')) c.r c.j o1 [W.w.heap.size],rfl,?_⟩;have gP:AD e0 2 (W.w.alloc (.cells arr t')) W.fz ca xs (W.om (.lf c.r c.j)):=Vw.frame (fun b hb=>alloc_old _ _ (hb.elim (fun hb=>(h.sep.own _ b hb).2.1) fun hb=>(h.sep.fz b hb).1)) fun _ hb=>hb
    have bo:AD e0 1 (W.w.alloc (.cells arr t')) (DV W (W.w.alloc (.cells arr t')) c.r c.j o1 [W.w.heap.size]).fz ca xs o1:=
     (Xa Vp (fun b hb=>.inl hb) fun b hb hn=>.inr (.inl ⟨hb,hn⟩)).OM (fun b hb=>alloc_old _ _ hb) (fun b hb=>(h.sep.own _ b (YC b hb).1).2.1) (fun b hb=>hb)
    have Vo:=h.nest hv Vl WE bo (fun b hb=>(YC b hb).1) X4 (fun b hb=>.inr (by rw[km.1 hb,Ar];omega)) (fun b hb _=>alloc_old _ _ hb) (by rw[Ar];omega) ⟨rfl,rfl,rfl⟩;rw[←hl];have YA:[y].length=len:=by rw[hlen];rfl
    rw[YA]at Vr;show AW E ((s.AF (.half c.r c.j v)).app _) _ _;rw[Iq Vl];exact Vo.slot d Vr
   ·exact hl.elim
  ·exact hl.elim
 ·exact hl.elim
theorem Lp(hc:Db P cx)(h:AW E s a.tmps W)(hv:Af s v){c:Call}(ho:o.op=.call c)(hb:c.callee=.builtin .append)(hd:∀d,o.dst=some d→d<a.tmps.size)(hl:(AB cx v o s).leads ws):Bc P E o a W.w (s.app ws):=by
 simp only[AB,ho,hb]at hl;split at hl
 ·rename_i x y t1 t2 ty d hx ht Xf WT;split at hl
  ·rename_i t e XK;split at hl
   ·rename_i Vt;simp only[j8,kI]at Vt;obtain⟨rfl,Vr⟩:=Vt;obtain⟨t0,WI,V5⟩:=Fx hc Vr;have WJ:c.args = #[x,y]:=by grind
    have Zh:c.argTypes = #[t1,t1]:=by grind
    obtain⟨cal,args,ats⟩:=c;dsimp only at hb WJ Zh;subst hb;subst WJ;subst Zh
    have fin:∀ {xs ys:List e.D} {us1 us2:List (Nat×Nat)} {o1:List Nat},AD e 2 W.w W.fz (a.eval x) xs o1→o1.Nodup→(∀b∈o1,∃r j,(r,j)∈us1∧b∈W.om (.lf r j))→KZ P s W e (a.eval y) ys us2→
      (∀x∈us1,x∉us2)→xs.length+ys.length≤Di→ws=gone (us1++us2)++ownRow d v t e (xs++ys)→Bc P E o a W.w (s.app ws):=by
     intro xs ys us1 us2 o1 h1 h2 h3 h4 h5 h6 h7;obtain⟨u,w',Vx,W',Wl,Vo⟩:=LV h hv (ty:=o.type) WI V5 (hd d WT) h1 h2 h3 h4 h5 h6 t;rw[h7];refine BZ h WT ?_ Wl Vo;simp[execOp,ho,resolve,invoke,builtin,Vx]
    have h1:=Ah h x;have h2:=Ah h y;have Xh:=Iz hv x;generalize s.Al x=p at hl h1 Xh;unfold Dq at hl;cases Zx:nested p with
    |some c=>
     rw[Zx]at hl;obtain⟨rfl,ZT⟩:=FY Zx;obtain⟨u,w',Vx,W',Wl,Vo⟩:=Nh h hv (ty:=o.type) WI V5 ZT h1 h2 hl;refine BZ h WT ?_ Wl Vo;simp[execOp,ho,resolve,invoke,builtin,Vx]
    |none=>
    rw[Zx]at hl;dsimp only at hl;cases Xa:EY s p with
    |some c=>
     rw[Xa]at hl;dsimp only at hl
     have iD:p=.ref c∧c.p=[]:=by
      unfold EY at Xa;split at Xa
      ·grind
      ·cases Xa
     obtain⟨rfl,ZT⟩:=iD;obtain⟨u,w',Vx,W',Wl,Vo⟩:=NZ h hv (ty:=o.type) WI V5 (hd d WT) ZT h1 h2 hl;refine BZ h WT ?_ Wl Vo;simp[execOp,ho,resolve,invoke,builtin,Vx]
    |none=>
    rw[Xa]at hl;dsimp only at hl;unfold C7 at hl;split at hl
    ·obtain⟨ys,us,hl,XC⟩:=JP h h2 hl;rcases Ag hl with⟨hb,hl⟩|⟨_,hl⟩
     ·have hl:_=ws:=hl;rw[show a.eval x=.slice none 0 0 from h1]at fin;exact fin (xs:=[]) (us1:=[]) Bm kE (fun b hb=>by cases hb) XC (fun x hx=>by cases hx) (by grind) hl.symm
     ·exact hl.elim
    ·rename_i c;split at hl
     ·rename_i AA gen t' e' xs dd Vl;split at hl
      ·rename_i Vt;simp only[j8,kI,kJ]at Vt;obtain⟨⟨⟨Vu,hp⟩,Yk⟩,cf⟩:=Vt;subst Vu;subst cf;have hp:c.p=[]:=by cases hq:c.p<;>simp_all[isNil]
       split at hl
       ·rename_i ys0 dr;obtain⟨q1,q2⟩:=L.AH dr;cases q1;have q2:xs=ys0:=q2;subst q2;obtain⟨h',e',WE,hn⟩:=h1 gen _ _ _ _ Vl (.inl hp);rw[hp]at hn;obtain⟨rfl,rfl⟩:=hn;obtain⟨u',Vy,Vw⟩:=(h.roots c.r).row Vl;rw[WE]at Vy;injection Vy with Vy;rw[←Vy]at Vw
        obtain⟨ys,us,hl,XC⟩:=JP h h2 hl;split at hl
        ·exact hl.elim
        ·rename_i Y8;rcases Ag hl with⟨hb,hl⟩|⟨_,hl⟩
         ·have hl:_=ws:=hl;exact fin (us1:=[(c.r,c.j)]) Vw (h.sep.nodup _) (fun b hb=>⟨c.r,c.j,by simp,hb⟩) XC (fun x hx=>by grind) (kp hb) hl.symm
         ·exact hl.elim
       ·exact hl.elim
      ·exact hl.elim
     ·exact hl.elim
    ·rename_i c lo hi;split at hl
     ·rename_i AA gen t' e' xs dd Vl;split at hl
      ·rename_i Vt;simp only[j8,kI,kJ]at Vt;obtain⟨⟨⟨⟨Vu,hp⟩,Yk⟩,cf⟩,Xn⟩:=Vt;subst Vu;subst cf;have hp:c.p=[]:=by cases hq:c.p<;>simp_all[isNil]
       split at hl
       ·rename_i ys0 dr;obtain⟨q1,q2⟩:=L.AH dr;cases q1;have q2:xs=ys0:=q2;subst q2;obtain⟨h',e',A,n,k0,WE,hn,l1,l2,Yx⟩:=h1 gen _ _ _ _ Vl (.inl hp);rw[hp]at hn;obtain⟨rfl,rfl⟩:=hn;obtain⟨u',Vy,Vw⟩:=(h.roots c.r).row Vl;rw[WE]at Vy;injection Vy with Vy;rw[←Vy]at Vw
        obtain⟨o',r1,r2,r3⟩:=CE.sub Vw l1 l2;obtain⟨ys,us,hl,XC⟩:=JP h h2 hl;split at hl
        ·exact hl.elim
        ·rename_i Y8;rcases Ag hl with⟨hb,hl⟩|⟨_,hl⟩
         ·have hl:_=ws:=hl;refine fin (us1:=[(c.r,c.j)]) (by rw[Yx];exact r1) (r3 (h.sep.nodup _)) (fun b hb=>⟨c.r,c.j,by simp,r2 b hb⟩) XC (fun x hx=>by grind) (kp hb) hl.symm
         ·exact hl.elim
       ·exact hl.elim
      ·exact hl.elim
     ·exact hl.elim
    ·exact hl.elim
   ·exact hl.elim
  ·exact hl.elim
 ·exact hl.elim
theorem Ic(hc:Db P cx)(h:AW E s a.tmps W)(hv:Af s v){t:TypeId}{len:Nat}{parts:Array (Nat×Operand)}(ho:o.op=.buildSlice t len parts)(hd:∀d,o.dst=some d→d<a.tmps.size)(hl:(AB cx v o s).leads ws):Bc P E o a W.w (s.app ws):=by
 simp only[AB,ho]at hl;split at hl
 ·rename_i ty d ht WT;split at hl
  ·exact hl.elim
  ·rename_i Xi;split at hl
   ·rename_i t' e XK;split at hl
    ·rename_i Vt;simp only[j8,kI,kV]at Vt;obtain⟨hlen,Z6⟩:=Vt;obtain⟨WI,V5⟩:=(CC hc ht XK (by grind):GY P t (.sl t' e));obtain⟨i,hi,V7,Zj,z,hz,YV⟩:=V5.info;cases Yg:EA s e parts.toList with
     |some q=>
      obtain⟨x,c⟩:=q;rw[Yg]at hl;dsimp only at hl
      have XN:parts.toList=[(0,x)]∧∃g as,s.Au x=.v g as∧Cf as=some c:=by
       unfold EA at Yg;split at Yg
       ·cases Yg
       ·grind
      obtain⟨XN,g,as,Y9,Y7⟩:=XN;obtain⟨u,w',Vx,W',Wl,Vo⟩:=Nd (P:=P) h hv WI V5 (FE Y7) Y9 (by have:=A8 h x;rw[Y9]at this;exact this) Z6 (by rw[hlen,←Array.length_toList,XN];rfl) hl (parts:=parts) XN;refine BZ h WT ?_ Wl Vo;unfold execOp;simp only[ho,Sem.run_bind,Vx,Result.andThen_ok];rfl
     |none=>
     rw[Yg]at hl;dsimp only at hl;obtain⟨ys,us,os,hl,aR⟩:=Hi (P:=P) h hv _ _ hl;split at hl
     ·have hl:_=ws:=hl;have gV:ys.length=len:=by rw[aR.len,hlen];simp
      have bf:∀(m:Nat)(x:Operand)(i:Nat),parts.toList[m]?=some (i,x)→i=0+m∧(a.eval x).cells.size=e.n:=by
       intro m x i hm;have XL:m<ys.length:=by rw[aR.len];exact(j9.1 hm).1
       obtain⟨x',h1,h2,_⟩:=aR.el m XL;rw[hm]at h1;injection h1 with h1;injection h1 with h1 XS;subst XS
       exact⟨h1,h2⟩
      obtain⟨arr,hf,Y0,_,V4⟩:=FP (e:=e) a.eval parts.toList 0 (madeCells z.cells (len*e.n)) bf (by rw[size_madeCells,hlen];simp);rw[size_madeCells]at Y0;have Vx:=Ee (P:=P) (w:=W.w) (t:=t) (len:=len) (parts:=parts.map fun(i,x)=>(i,a.eval x)) (arr:=arr) WI hi hz (by grind) (by rw[V7,lU];exact hf)
      have W9:B1 e 2 (W.w.alloc (.cells arr t')) W.fz (fun k=>arr[0+k]?) ys os:=by
       intro m hm;obtain⟨x,h1,h2,h3⟩:=aR.el m hm
       have h4:e.rd 2 (W.w.alloc (.cells arr t')) W.fz (fun j=>(a.eval x).cells[j]?) ys[m] (os m):=Ls.AI e h3 (fun b hb=>alloc_old _ _ (by
        rcases hb with hb|hb
        ·obtain⟨r,j,_,h5⟩:=aR.Oo m b hb;exact(h.sep.own _ b h5).2.1
        ·exact(h.sep.fz b hb).1)) fun _ hb=>hb
       refine Ls.BG e h4 fun j hj=>?_;have:=V4 m _ x h1 j hj;simp only[kO]at this ⊢;exact this
      have Vr:=FD (w:=W.w.alloc (.cells arr t')) (ad:=⟨W.w.heap.size,0,none⟩) (c:=len) (fr:=(0,0)) (T:=t') (heap_alloc_new _ _) rfl (by omega) (by simp[Y0]) (by omega) W9
      obtain⟨W',Wl,Vo⟩:=h.CT hv us (hd d WT) (t0:=t') (Eg h _) (fun b hb _=>alloc_old _ _ (by have:=h.sep.size;omega)) (by rw[Ar];omega) ⟨rfl,rfl,rfl⟩ Vr
       (kQ.2 ⟨fun Vm=>by
        obtain⟨m,_,hb⟩:=kA.1 Vm;obtain⟨r,j,_,h5⟩:=aR.Oo m _ hb;exact absurd (h.sep.own _ _ h5).2.1 (Nat.lt_irrefl _),EB aR.PW aR.PN _⟩)
       (fun b hb=>by
        rcases kS.1 hb with rfl|hb
        ·exact .inr ⟨kT _,by rw[Ar];grind⟩
        ·obtain⟨m,_,hb⟩:=kA.1 hb;exact .inl (aR.Oo m b hb))
      rw[←hl];refine BZ h WT ?_ Wl Vo;rw[gV];unfold execOp;simp only[ho,Sem.run_bind,Vx,Result.andThen_ok];rfl
     ·exact hl.elim
    ·exact hl.elim
   ·exact hl.elim
 ·exact hl.elim
end
end Go.Ev
namespace Go.Ev
section
variable {P:Program}{E:Cy}{s:St}{W:Wd}{o:Oper}{a:Act}{ws:List Wr}{cx:Cx}{v:Nat}{tm:Array Value}
theorem DC{t:TypeId}{x y:Operand}(ho:o.op=.store t x y)(Xl:o.dst=none){ad:Addr}(hx:a.eval x=.pointer (some ad)){i:TypeInfo}(hi:P.info? t=some i)(V7:(a.eval y).cells.size=i.size){W':Wd}
  (Vx:(storeCells ad (a.eval y).cells.toList).run P W.w=.ok () W'.w) {s':St} (hr:AW E s' a.tmps W'):Bc P E o a W.w s':=by
 intro next Q hn
 have Xq:(storeVar t ad (a.eval y)).run P W.w=.ok () W'.w:=by simp[storeVar,sizeOf,typeInfo,hi,V7,Vx]
 unfold Oper.wp execOp;simp only[ho,hx,Instr.storeAt,Instr.sureAddr,Sem.run_bind,Sem.run_pure,Result.andThen_ok,Xq];show next (a.put o.dst Go.undef) W'.w
 rw[Xl];exact hn _ W' rfl hr
theorem KC{α β:Type}{f:α→Option β}:∀ {l:List α} {r:List β},l.mapM f=some r→r.length=l.length
 | [],r,hr=>by grind
 |b::l,r,hr=>by
  simp only[List.mapM_cons,Option.bind_eq_bind,Option.pure_def]at hr;cases hb:f b with
  |none=>grind
  |some c=>
   cases WV:l.mapM f with
   |none=>grind
   |some cs=>
    simp[hb,WV]at hr;subst hr;simp[KC WV]
theorem Lf(hc:Db P cx)(h:AW E s a.tmps W)(hv:Af s v){t:TypeId}{x y:Operand}(ho:o.op=.store t x y){c:Loc}{g:Bool}{as:List LA}{ty:Ty}{fs wt:List Wr}(ht:cx.ty t=some ty)(h1:AP s W (.Bl c) (a.eval x))(h2:BU s W (.v g as) (a.eval y))(ZT:∃q,c.p=[q])
  (hl:(s.C4 v c ty.ls.kinds as fun ws=>match o.dst with
   |none=>.go (fs++ws)
   |some _=>.none).leads wt):∃ws,wt=fs++ws∧Bc P E o a W.w (s.app ws):=by
 obtain⟨i,hi,V7,_⟩:=(hc t ty ht).info;obtain⟨p0,cH⟩:=ZT;unfold St.C4 at hl;split at hl
 ·rename_i AA gen t0 e0 xs0 Vl;split at hl
  ·rename_i Vt;simp only[j8,kI]at Vt;obtain⟨rfl,Wa⟩:=Vt;obtain⟨vs,hl,WX,ZE,XV⟩:=Es h (g:=Ay g (a.eval y)) (fun j b hj=>B7 h2 j b hj) hl
   have Wx:as.flatMap LA.roots=[]:=by
    have:∀l:List LA,l.all ON=true→l.flatMap LA.roots=[]:=by
     intro l
     induction l with
     |nil=>intro _;rfl
     |cons b l ih=>
      intro hb;simp only[List.all_cons,j8]at hb;rw[ke,ih hb.2];cases b<;>first|rfl|cases hb.1
    exact this as Wa
   have V9:=Bt h2 fun j b hj=>by
    have Vs:j<vs.length:=by rw[WX];exact(j9.1 hj).1
    obtain⟨u,hu,hr⟩:=XV j vs[j] (j7 Vs);exact⟨u,hu,L.Dl _ hr⟩
   have hlen:vs.length=ty.ls.n:=by rw[←BC,←ZE];simp
   have ZM:∀(m:Nat)(lv:Lv),vs[m]?=some lv→∃u,(a.eval y).cells.toList[m]?=some u∧lv.l.rd 0 W.w W.fz u lv.x []:=by
    intro m lv hm;obtain⟨u,hu,hr⟩:=XV m lv hm;have Vs:m<as.length:=by rw[←WX];exact(j9.1 hm).1
    have:=V9.2 m Vs;rw[hu]at this;refine⟨u,by grind,L.AI lv.l hr (fun _ _=>rfl) fun b hb=>?_⟩;rcases hb with hb|⟨r,hr,_⟩
    ·exact hb
    ·grind
   have WU:∀u∈(a.eval y).cells.toList,u.oneCell'=true:=by
    intro u hu;obtain⟨m,hm⟩:=ko hu;have Vs:m<vs.length:=by rw[WX,←V9.1];simpa using(j9.1 hm).1
    obtain⟨u',Vy,hr⟩:=ZM m vs[m] (j7 Vs);rw[hm]at Vy;injection Vy with Vy;subst Vy
    exact L.Dl _ hr
   split at hl
   ·rename_i f hf;split at hl
    ·rename_i Xl;have hl:_=wt:=hl;obtain⟨q,i0,off,h',e',ad,n,k,hs,WE,Wo,XO,ZJ,hu⟩:=h1 gen _ _ _ _ Vl (.inl (by grind));rw[cH]at hs;simp only[Am,Option.some.injEq,Prod.mk.injEq]at hs;obtain⟨rfl,rfl,rfl⟩:=hs;obtain⟨rfl,rfl⟩:=Wo;obtain⟨u',Vy,Vw⟩:=(h.roots c.r).row Vl;rw[WE]at Vy;injection Vy with Vy;subst Vy
     have Yv:∀b∈W.om (.lf c.r c.j),¬W.fz b:=fun b hb=>(h.sep.own _ b hb).1;rw[cH]at hf;obtain⟨gR,arr,T,fr,hh,V0,Xj,Vm,Ym⟩:=Ll (by grind) ZM ZJ hf Vw (h.sep.nodup _) Yv;obtain⟨w',Vx,V1⟩:=DZ (P:=P) (o:=ad.off+(p0.1*e'.n+p0.2)) (a.eval y).cells.toList hh V0 Xj WU;have Vo:=h.JY hv Vl WE (Ym w' V1) (fun b hb=>V1.CJ b fun e=>hb (e▸Vm)) V1.size V1.rest;exact⟨_,hl.symm,DC ho Xl hu hi (by omega) (W':={ W with w:=w' }) Vx Vo⟩
    ·exact hl.elim
   ·exact hl.elim
  ·exact hl.elim
 ·exact hl.elim
theorem Gu(hc:Db P cx)(h:AW E s a.tmps W)(hv:Af s v){t:TypeId}{x y:Operand}(ho:o.op=.store t x y){q:LA}{g:Bool}{as:List LA}{ty:Ty}{fs wt:List Wr}(ht:cx.ty t=some ty)(h1:AP s W q (a.eval x))(h2:BU s W (.v g as) (a.eval y))(Xh:v∉(AV.v g as).AG)
  (hl:(GW cx v s o.dst q ty.ls.kinds as fs).leads wt):∃ws,wt=fs++ws∧Bc P E o a W.w (s.app ws):=by
 obtain⟨i,hi,V7,_⟩:=(hc t ty ht).info;unfold GW at hl;unfold St.GX at hl;split at hl
 ·rename_i r j AA;split at hl
  ·rename_i Vt;simp only[j8,kI,kV,BC]at Vt;obtain⟨⟨hb,Vu⟩,WH⟩:=Vt;obtain⟨bs,us,os,hl,XY,ZG,Wi,X8,Wh,Xw,Xk⟩:=Ei (v:=v) h (g:=Ay g (a.eval y)) (fun j b hj=>⟨fun Vm=>Xh (kA.2 ⟨b,kC hj,Vm⟩),B7 h2 j b hj⟩) hl;rw[BC]at ZG;split at hl
   ·rename_i Xl;have hl:_=wt:=hl
    have V9:=Bt h2 fun j b hj=>by
     have Vs:j<bs.length:=by rw[XY];exact(j9.1 hj).1
     obtain⟨u,hu,hr⟩:=Xk j bs[j] (j7 Vs);exact⟨u,hu,hr.1⟩
    obtain⟨_,WN⟩:=h.roots r;rw[kF hb]at WN;obtain⟨_,arr,T,fr,hh,V0,Y0,_⟩:=WN
    have WU:∀u∈(a.eval y).cells.toList,u.oneCell'=true:=by
     intro u hu;obtain⟨m,hm⟩:=ko hu;have Vs:m<bs.length:=by rw[XY,←V9.1];simpa using(j9.1 hm).1
     obtain⟨u',Vy,hr⟩:=Xk m bs[m] (j7 Vs);have:=V9.2 m (by omega);rw[Vy]at this;have h3:(a.eval y).cells[m]?=some u:=by simpa using hm
     rw[this]at h3;injection h3 with h3;subst h3;exact hr.1
    obtain⟨w',Vx,V1⟩:=DZ (P:=P) (o:=j) (a.eval y).cells.toList hh V0 (by grind) WU
    obtain⟨W',Wl,Vo⟩:=h.KS hv (j:=j) hb (us:=us) (bs:=bs) (os:=os) (cells:=(a.eval y).cells.toList) (by grind) (by omega)
     (fun m b hm=>by
      grind) Wh (fun m hm=>Xw m (by omega)) hh V1
    refine⟨_,hl.symm,?_⟩;exact DC ho Xl (h1 hb Vu) hi (by omega) (by grind) Vo
   ·exact hl.elim
  ·exact hl.elim
 ·rename_i c;split at hl
  ·rename_i Wa;obtain⟨vs,hl,WX,ZE,XV⟩:=Es h (g:=Ay g (a.eval y)) (fun j b hj=>B7 h2 j b hj) hl
   have V9:=Bt h2 fun j b hj=>by
    have Vs:j<vs.length:=by rw[WX];exact(j9.1 hj).1
    obtain⟨u,hu,hr⟩:=XV j vs[j] (j7 Vs);exact⟨u,hu,L.Dl _ hr⟩
   have hlen:vs.length=ty.ls.n:=by rw[←BC,←ZE];simp
   have ZC:Plain W.w W.fz vs (a.eval y).cells.toList:=by
    refine⟨by grind,fun m lv hm=>?_⟩
    have ZX:Bs lv.l=false:=by
     have YM:lv.l∈ty.ls.kinds:=by rw[←ZE];exact kt.2 ⟨lv,kC hm,rfl⟩
     simpa using kL.1 Wa _ YM
    obtain⟨u,hu,hr⟩:=XV m lv hm;refine⟨ZX,u,?_,fun d w' Vp=>(L.Aa lv.l ZX hr).1⟩;have Vs:m<as.length:=by rw[←WX];exact(j9.1 hm).1
    have:=V9.2 m Vs;rw[hu]at this;simpa using this
   have WU:∀u∈(a.eval y).cells.toList,u.oneCell'=true:=by
    intro u hu;obtain⟨m,hm⟩:=ko hu;have Vs:m<vs.length:=by rw[←ZC.1];exact(j9.1 hm).1
    obtain⟨_,u',Vy,hr⟩:=ZC.2 m vs[m] (j7 Vs);rw[hm]at Vy;injection Vy with Vy;subst Vy
    exact L.Dl _ (hr 0 W.w W.fz)
   split at hl
   ·rename_i XX Xe;split at hl
    ·rename_i Xl;have hl:_=wt:=hl;unfold St.KO at Xe;split at Xe
     ·rename_i AA gen t0 e0 xs0 d0 Vl;split at Xe
      ·rename_i Vt;simp only[j8,kU,kI,kV]at Vt;obtain⟨⟨⟨rfl,hg⟩,ca⟩,Xu⟩:=Vt;split at Xe
       ·rename_i f hf;injection Xe with Xe
        subst Xe;obtain⟨q,i0,off,h',e',ad,n,k,hs,WE,Wo,XO,ZJ,hu⟩:=h1 gen _ _ _ _ Vl hg;obtain⟨u',Vy,Vw⟩:=(h.roots c.r).row Vl;rw[WE]at Vy;injection Vy with Vy;subst Vy
        have Yv:∀b∈W.om (.lf c.r c.j),¬W.fz b:=fun b hb=>(h.sep.own _ b hb).1;obtain⟨gR,arr,T,fr,hh,V0,Xj,Vm,Ym⟩:=K6 ZC ZJ c.p q hf Vw (h.sep.nodup _) Yv ca Xu hs Wo;obtain⟨w',Vx,V1⟩:=DZ (P:=P) (o:=ad.off+(i0*e'.n+off)) (a.eval y).cells.toList hh V0 Xj WU;have Vo:=h.JY hv Vl WE (Ym w' V1) (fun b hb=>V1.CJ b fun e=>hb (e▸Vm)) V1.size V1.rest;exact⟨_,hl.symm,DC ho Xl hu hi (by omega) (W':={ W with w:=w' }) Vx Vo⟩
       ·cases Xe
      ·cases Xe
     ·cases Xe
    ·exact hl.elim
   ·exact hl.elim
  ·split at hl
   ·rename_i p0 cH;split at hl
    ·exact Lf hc h hv ho ht h1 h2 ⟨p0,cH⟩ hl
    obtain⟨bs,us,os,hl,XY,ZG,Wi,X8,Wh,Xw,Xk⟩:=Ei (v:=v) h (g:=Ay g (a.eval y)) (fun j b hj=>⟨fun Vm=>Xh (kA.2 ⟨b,kC hj,Vm⟩),B7 h2 j b hj⟩) hl;rw[BC]at ZG;split at hl
    ·rename_i Wa;split at hl
     ·rename_i lvs YL;have YL:bs.mapM FN=some lvs:=YL;have hlen:lvs.length=bs.length:=KC YL;split at hl
      ·rename_i AA gen t0 e0 xs0 Vl;split at hl
       ·rename_i Vu;have Vu:AA=c.AA:=by simpa using Vu
        subst Vu;split at hl
        ·rename_i f hf;split at hl
         ·rename_i Xl;have hl:_=wt:=hl
          have V9:=Bt h2 fun j b hj=>by
           have Vs:j<bs.length:=by rw[XY];exact(j9.1 hj).1
           obtain⟨u,hu,hr⟩:=Xk j bs[j] (j7 Vs);exact⟨u,hu,hr.1⟩
          have WU:∀u∈(a.eval y).cells.toList,u.oneCell'=true:=by
           intro u hu;obtain⟨m,hm⟩:=ko hu;have Vs:m<bs.length:=by rw[XY,←V9.1];simpa using(j9.1 hm).1
           obtain⟨u',Vy,hr⟩:=Xk m bs[m] (j7 Vs);have:=V9.2 m (by omega);rw[Vy]at this;have h3:(a.eval y).cells[m]?=some u:=by simpa using hm
           rw[this]at h3;injection h3 with h3;subst h3;exact hr.1
          obtain⟨q,i0,off,h',e',ad,n,k,hs,WE,Wo,XO,ZJ,hu⟩:=h1 gen _ _ _ _ Vl (.inl (by grind));rw[cH]at hs;simp only[Am,Option.some.injEq,Prod.mk.injEq]at hs;obtain⟨rfl,rfl,rfl⟩:=hs;obtain⟨rfl,rfl⟩:=Wo;obtain⟨u',Vy,Vw⟩:=(h.roots c.r).row Vl;rw[WE]at Vy;injection Vy with Vy;subst Vy
          have bB:(c.r,c.j)∉us:=fun Vm=>by grind
          have Y3:∀m,∀b∈os m,∃r j,(r,j)∈us∧b∈W.om (.lf r j):=by
           intro m b hb;by_cases hm:m<bs.length
           ·obtain⟨u,_,ht⟩:=Xk m bs[m] (j7 hm);exact ht.2.2.1 b hb
           ·grind
          have hk:GZ os (W.om (.lf c.r c.j)):=by
           refine⟨fun m=>?_,Wh,fun m b hb Vz=>?_⟩
           ·by_cases hm:m<bs.length
            ·obtain⟨u,_,ht⟩:=Xk m bs[m] (j7 hm);exact ht.2.1
            grind
           ·obtain⟨r,j,Vm,XT⟩:=Y3 m b hb;exact h.sep.Av (.lf r j) (.lf c.r c.j) (fun e=>by grind) b XT Vz
          have dB:∀m,∀b∈os m,¬W.fz b:=fun m b hb=>by obtain⟨r,j,_,XT⟩:=Y3 m b hb;exact(h.sep.own _ b XT).1
          have Yv:∀b∈W.om (.lf c.r c.j),¬W.fz b:=fun b hb=>(h.sep.own _ b hb).1
          have hp:∀(m:Nat)(lv:Lv),lvs[m]?=some lv→∃u,(a.eval y).cells.toList[m]?=some u∧lv.l.rd 2 W.w W.fz u lv.x (os m):=by
           intro m lv hm;have Vs:m<bs.length:=by rw[←hlen];exact(j9.1 hm).1
           obtain⟨y',X5,YU⟩:=F1 YL m bs[m] (j7 Vs);rw[hm]at YU;injection YU with YU;subst YU
           obtain⟨u,cK,ht⟩:=Xk m bs[m] (j7 Vs);have:=V9.2 m (by omega);rw[cK]at this;exact⟨u,by grind,Ij ht X5⟩
          rw[cH]at hf;obtain⟨gR,arr,T,fr,hh,V0,Xj,Vm,o',bZ,Wf,Ym⟩:=Me (by grind) hp (fun m hm=>Xw m (by omega)) ZJ hf Vw (h.sep.nodup _) Yv hk dB;obtain⟨w',Vx,V1⟩:=DZ (P:=P) (o:=ad.off+(p0.1*e'.n+p0.2)) (a.eval y).cells.toList hh V0 Xj WU;have Vo:=h.L4 hv Vl WE bB Vm (fun b hb=>V1.CJ b hb) V1.size V1.rest bZ (fun b hb=>(Wf b hb).imp id fun⟨m,hb⟩=>Y3 m b hb) (Ym w' V1);refine⟨_,hl.symm,?_⟩;exact DC ho Xl hu hi (by omega) (W':=Ik W w' c.r c.j o' us) Vx Vo
         ·exact hl.elim
        ·exact hl.elim
       ·exact hl.elim
      ·exact hl.elim
     ·exact hl.elim
    ·exact hl.elim
   ·exact hl.elim
 ·exact hl.elim
end
end Go.Ev
namespace Go.Ev
theorem Nt{s:St}{r:Nat}(h:s.ro.length≤r):(s.root r).ls=[]:=by have:s.root r=dead:=A6 _ h;rw[this];rfl
theorem DT(s:St)(r j:Nat):∀(rs:List Nat)(a:LA),(a=s.leaf r j∨a=BH (s.leaf r j))→
  (rs.map fun r=>(⟨r,0,(s.root r).ls.map BH⟩:Up)).foldl (fun a u=>if r=u.r∧u.lo≤j∧j<u.lo+u.news.length then nth .bad u.news (j-u.lo)else a) a=if r∈rs then BH (s.leaf r j)else a
 | [],a,ha=>by simp
 |x::rs,a,ha=>by
  simp only[lQ,List.foldl_cons,lF,kO,Nat.sub_zero];by_cases hx:r=x
  ·subst hx;rw[kF kR]
   have da:(if r=r∧0≤j∧j<(s.root r).ls.length then nth .bad ((s.root r).ls.map BH) j else a)=BH (s.leaf r j)∨(s.leaf r j=.bad∧(if r=r∧0≤j∧j<(s.root r).ls.length then nth .bad ((s.root r).ls.map BH) j else a)=a):=by
    by_cases hj:j<(s.root r).ls.length
    ·left;rw[kF ⟨rfl,Nat.zero_le _,hj⟩];unfold St.leaf;rw[Ai,Ai,kN,j7 hj];rfl
    ·right;exact⟨A6 _ (lA hj),kG fun hh=>hj hh.2.2⟩
   rcases da with h1|⟨h1,h2⟩
   ·rw[h1,DT s r j rs _ (.inr rfl)];split<;>rfl
   ·rw[h2];have ai:a=.bad:=by rcases ha with ha|ha<;>rw[ha,h1]<;>rfl
    rw[DT s r j rs a ha,ai,h1];split<;>rfl
  ·rw[kG (fun hh=>hx hh.1),DT s r j rs a ha];simp[hx]
section
variable {P:Program}{E:Cy}{s:St}{W:Wd}{v:Nat}{tm:Array Value}{cx:Cx}
theorem Gi:∀ {rs:List Nat} {ws:List Wr},Az cx s rs=some ws→ws=Ek ((rs.filter fun r => !s.B2 r).map fun r=>⟨r,0,(s.root r).ls.map BH⟩)
 | [],ws,h=>by injection h with h;exact h.symm
 |r::rs,ws,h=>by
  simp only[Az]at h;split at h
  ·cases h
  ·split at h
   ·rename_i XX YS;injection h with h;subst h
    rw[Gi YS];unfold DB;cases hs:s.B2 r with
    |true=>grind
    |false=>rw[List.filter_cons_of_pos (by simp[hs])];rfl
   ·cases h
theorem Kv{r:Nat}(h:s.B2 r=true)(j:Nat):BH (s.leaf r j)=s.leaf r j:=by
 unfold St.leaf;rw[Ai];cases hq:(s.root r).ls[j]? with
 |none=>rfl
 |some a=>
  have:=kL.1 h a (kC hq);cases a with
  |arr v g t e xs d=>cases d with
   |zero=>rfl
   |succ d=>cases this
  |_=>rfl
structure Ji(s s':St)(W W':Wd)(rs:List Nat):Prop where
 same:Jl s s'
 w:W'.w=W.w
 cv:W'.cv=W.cv
 bk:W'.bk=W.bk
 leaf:∀r j,r∉rs→s'.leaf r j=s.leaf r j
 O5:∀r j,s'.leaf r j=s.leaf r j∨s'.leaf r j=BH (s.leaf r j)
 om:∀r j,r∉rs→W'.om (.lf r j)=W.om (.lf r j)
 Pl:∀r,W'.om (.AT r)=W.om (.AT r)
 sub:∀k,∀b∈W'.om k,b∈W.om k
 up:∀b,W.fz b→W'.fz b
 fz:∀b,W'.fz b→Seen W rs b
theorem Eu(h:AW E s tm W)(hv:Af s v){rs:List Nat}{ws:List Wr}(hf:Az cx s rs=some ws):∃W',AW E (s.app ws) tm W'∧Ji s (s.app ws) W W' rs∧∀b,Seen W rs b→W'.fz b:=by
 rw[Gi hf]
 obtain⟨Vq,Vl⟩:=IX ((rs.filter fun r => !s.B2 r).map fun r=>(⟨r,0,(s.root r).ls.map BH⟩:Up)) s fun u hu=>by
  obtain⟨r,_,rfl⟩:=kt.1 hu;refine⟨?_,by simp⟩;rcases kq r s.ro.length with Vs|Wg
  ·grind
  ·left;simp[Nt Wg]
 generalize s.app (Ek ((rs.filter fun r => !s.B2 r).map fun r=>(⟨r,0,(s.root r).ls.map BH⟩:Up)))=s' at Vq Vl
 have Vl:∀r j,s'.leaf r j=if r∈rs then BH (s.leaf r j)else s.leaf r j:=fun r j=>by
  rw[Vl,DT s r j _ _ (.inl rfl)];by_cases hr:r∈rs
  ·rw[kF hr];cases Xq:s.B2 r with
   |true=>rw[kG fun hm=>by have:=(List.mem_filter.1 hm).2;simp[Xq]at this,Kv Xq]
   |false=>rw[kF (List.mem_filter.2 ⟨hr,by simp[Xq]⟩)]
  grind
 let W':Wd:={
  w:=W.w
  fz:=Seen W rs
  cv:=W.cv
  bk:=W.bk
  om:=fun k=>match k with
   | .lf r j=>if r∈rs then []else W.om (.lf r j)
   |k=>W.om k }
 have bc:∀r j,W'.om (.lf r j)=if r∈rs then []else W.om (.lf r j):=fun _ _=>rfl
 have Wb:∀k,∀b∈W'.om k,b∈W.om k∧∀r∈rs,∀j,k≠.lf r j:=by
  intro k b hb;cases k with
  |lf r j=>
   grind
  |AT r=>grind
  |fl k=>grind
 have XR:Sep E W':={
  nodup:=by
   intro k;cases k with
   |lf r j=>rw[bc];split;exact kE;exact h.sep.nodup _
   |AT r=>exact h.sep.nodup _
   |fl k=>exact h.sep.nodup _
  Av:=fun k k' Vv b hb Vz=>h.sep.Av k k' Vv b (Wb k b hb).1 (Wb k' b Vz).1
  own:=fun k b hb=>by
   obtain⟨h1,h2⟩:=Wb k b hb;obtain⟨q1,q2,q3⟩:=h.sep.own k b h1;refine⟨?_,q2,q3⟩
   rintro (hz|⟨r,hr,j,hz⟩)
   ·exact q1 hz
   ·exact h.sep.Av k (.lf r j) (h2 r hr j) b h1 hz
  fz:=fun b hb=>by
   rcases hb with hz|⟨r,hr,j,hz⟩
   ·exact h.sep.fz b hz
   ·obtain⟨_,q2,q3⟩:=h.sep.own _ b hz;grind
  frame:=h.sep.frame
  size:=h.sep.size
  rest:=h.sep.rest }
 refine⟨W',?_,⟨Vq,rfl,rfl,rfl,fun r j hr=>by grind,fun r j=>by grind,fun r j hr=>by grind,fun _=>rfl,fun k b hb=>(Wb k b hb).1,fun b hb=>.inl hb,fun b hb=>hb⟩,fun b hb=>hb⟩;refine h.Mf hv (W':=W') Vq (fun r _=>r∈rs) (fun _=>False) (fun r j hr=>by grind) (fun _ _ _=>rfl) (fun _ _ hf=>hf.elim) (fun _=>rfl) (fun r j hr=>by grind) (fun _=>rfl) (fun _ _=>rfl) (fun b hb=>.inl hb) ?_ XR ?_ (fun _ hf=>hf.elim)
 ·intro r j AA gen t e xs d hr hl Vv;rw[Vl,kF hr]at hl;refine⟨rfl,?_⟩;cases hq:s.leaf r j with
  |arr ver0 gen0 t0 e0 xs0 d0=>
   rw[hq]at hl;simp only[BH,LA.arr.injEq]at hl;grind
  |_=>rw[hq]at hl;simp[BH]at hl
 ·intro WD r j hr;obtain⟨h1,_⟩:=h.roots r;have h1:Ab s W (s.leaf r j) (W.cv r j) (W.om (.lf r j)):=h1 j;have WX:=LA.Dx hv r j;rw[Vl,kF hr,bc,kF hr];unfold Ab at h1 ⊢;cases hq:s.leaf r j with
  |arr ver0 gen0 t0 e0 xs0 d0=>
   rw[hq]at h1;obtain⟨u,hu,Vw⟩:=h1;exact⟨u,hu,Vw.freeze fun b hb=>hb.elim .inl fun hb=>.inr ⟨r,hr,j,hb⟩⟩
  |_=>
   rw[hq]at h1 WX;exact⟨rfl,fun u hu=>AP.DL WD (WX.resolve_left (by simp[LA.CK])) (h1.2 u hu)⟩
inductive PT where
 |none
 |box (r:Nat)
 |row (l:List (Option (Loc×List Nat)))
def PT.EG:PT→List Tg
 | .none=>[]
 | .box r=>[(r,Option.none)]
 | .row l=>l.filterMap fun o=>o.map fun p=>(p.1.r,some p.1.j)
def NH(a b:Tg):Prop:=Tg.Dh b a=false
def Fh(s:St)(W:Wd)(d:Nat)(a:LA)(o:Option (Loc×List Nat))(lv:Lv)(y:Value):Prop:=
 (Bs lv.l=false∧o=none∧lv.l.rd d W.w W.fz y lv.x [])∨(d=4∧a=.CP∧o=none∧y=.slice none 0 0∧∃(t':TypeId) (e':Ls),lv=⟨.sl t' e',([]:List e'.D)⟩) ∨
 ∃(c:Loc) (o':List Nat) (gen:Nat) (t:TypeId) (e:Ls) (xs:List e.D) (h:Value) (t':TypeId) (e':Ls) (ys:List e'.D),a=.ref c∧o=some (c,o')∧s.leaf c.r c.j=.arr c.AA gen t e xs d∧d≠4∧(c.p≠[]→d=2)∧W.cv c.r c.j=some h∧Je W.w c.p e h e' y∧
  lv=⟨.sl t' e',ys⟩∧AD e' d W.w W.fz y ys o'∧(∀b∈o',b∈W.om (.lf c.r c.j))∧o'.Nodup
def HI(s:St)(W:Wd)(pm:PM)(av:AV)(tg:PT)(u:Value)(vs:List Lv):Prop:=match pm with
 | .val g ls=>tg=.none∧FK W.w (Seen W av.roots) g (ls.map fun l=>(l,0)) u vs fun _=>[]
 | .box ls=>∃r AA,av=.v false [.ptr r 0 AA]∧tg=.box r∧(s.root r).box=true∧(s.root r).ls.length=ls.length∧u=.pointer (some ⟨W.bk r,0,none⟩)∧vs.map (·.l)=ls.map (·.1)∧
   ∀(j:Nat)(p:L×Nat)(lv:Lv)(y:Value),ls[j]?=some p→vs[j]?=some lv→W.cv r j=some y→lv.l.rd p.2 W.w W.fz y lv.x (W.om (.lf r j))
 | .row g ls=>∃as l,av=.v g as∧tg=.row l∧as.length=ls.length∧l.length=ls.length∧vs.map (·.l)=ls.map (·.1)∧(match g with
   |true=>∃cs:Array Value,u=.agg cs∧cs.size=ls.length
   |false=>ls.length=1)∧∀(j:Nat)(p:L×Nat)(a:LA)(lv:Lv) (o:Option (Loc×List Nat)),ls[j]?=some p→as[j]?=some a→vs[j]?=some lv→l[j]?=some o→∃y,Ay g u j=some y∧Fh s W p.2 a o lv y
 | .fn f=>tg=.none∧u=.func (.func f) #[] #[]∧vs=[]
theorem Lz(h:AW E s tm W){β:Type}{t:β}{l:L}{d:Nat}{a:LA}{y:Value}(hy:AP s W a y){k:Lv→List Tg→Step β}(hl:(Jb s l d a k).leads t):
  ∃(lv:Lv) (o:Option (Loc×List Nat)),(k lv (PT.row [o]).EG).leads t∧lv.l=l∧Fh s W d a o lv y:=by
 have plain:Bs l=false→((s.datum l a fun x=>k ⟨l,x⟩ []).leads t)→∃(lv:Lv) (o:Option (Loc×List Nat)),(k lv (PT.row [o]).EG).leads t∧lv.l=l∧Fh s W d a o lv y:=by intro hs hl;obtain⟨x,hl,hr⟩:=Bj h hy hl;exact⟨⟨l,x⟩,none,hl,rfl,.inl ⟨hs,rfl,(L.Aa l hs hr).1⟩⟩
 cases l with
 |int i=>exact plain rfl hl
 |bool=>exact plain rfl hl
 |str=>exact plain rfl hl
 |sl t0 e0=>
  cases a with
  |ref c=>
   replace hl:(if d != 4&&(match s.leaf c.r c.j with
    | .arr _ _ _ _ _ dd=>dd==d&&(isNil c.p||d==2)
    |_=>false)then s.datum (.sl t0 e0) (.ref c) fun x=>k ⟨.sl t0 e0,x⟩ [(c.r,some c.j)]else Step.none).leads t:=hl
   cases hq:s.leaf c.r c.j with
   |arr AA gen t1 e1 xs dd=>
    simp only[hq]at hl;split at hl
    ·rename_i Vt;simp only[j8,kU,kI,bne_iff_ne]at Vt;obtain⟨al,cf,hp⟩:=Vt;subst cf;have ZB:c.p≠[]→dd=2:=fun Vv=>hp.resolve_left fun hn=>Vv (by cases hq:c.p<;>simp_all[isNil]);simp only[St.datum,St.content,hq]at hl;split at hl
     ·rename_i Vu;simp only[j8,kU,kI]at Vu;obtain⟨Vu,Y4⟩:=Vu;subst Vu;have Y4:c.p=[]∨gen=c.gen:=Y4.imp (fun hn=>by cases hq:c.p<;>simp_all[isNil]) id;obtain⟨h',e',WE,hn⟩:=hy gen _ _ _ _ hq Y4;obtain⟨u',Vy,Vw⟩:=(h.roots c.r).row hq;rw[WE]at Vy;injection Vy with Vy;rw[←Vy]at Vw
      obtain⟨t',ys,o',hl,bj,Wb,Wi⟩:=Fq c.p hl Vw hn ZB (h.sep.nodup _);split at hl
      ·rename_i x hx;obtain⟨q1,q2⟩:=L.AH hx;cases q1;have q2:ys=x:=q2;subst q2;exact⟨⟨.sl t0 e0,ys⟩,some (c,o'),hl,rfl,.inr (.inr ⟨c,o',gen,t1,e1,xs,h',t0,e0,ys,rfl,rfl,hq,al,ZB,WE,hn,rfl,bj,Wb,Wi⟩)⟩
      ·exact hl.elim
     ·exact hl.elim
    ·exact hl.elim
   |_=>simp only[hq,Bool.and_false,lh,if_false]at hl;exact hl.elim
  |CP=>
   replace hl:(if d==4 then k ⟨.sl t0 e0,([]:List e0.D)⟩ []else Step.none).leads t:=hl
   split at hl
   ·rename_i hd;exact⟨⟨.sl t0 e0,([]:List e0.D)⟩,none,hl,rfl,.inr (.inl ⟨kI.1 hd,rfl,rfl,hy,t0,e0,rfl⟩)⟩
   ·exact hl.elim
  |_=>exact hl.elim
theorem IK(h:AW E s tm W){β:Type}{t:β}:∀(ls:List (L×Nat)) (as:List LA) (G:Nat→Option Value) {k:List Lv→List Tg→Step β},(∀(j:Nat)(b:LA),as[j]?=some b→∃y,G j=some y∧AP s W b y)→(Ez s ls as k).leads t→
  ∃(vs:List Lv) (l:List (Option (Loc×List Nat))),(k vs (PT.row l).EG).leads t∧as.length=ls.length∧l.length=ls.length∧vs.map (·.l)=ls.map (·.1)∧(PT.row l).EG.Pairwise NH∧
   ∀(j:Nat)(p:L×Nat)(a:LA)(lv:Lv) (o:Option (Loc×List Nat)),ls[j]?=some p→as[j]?=some a→vs[j]?=some lv→l[j]?=some o→∃y,G j=some y∧Fh s W p.2 a o lv y
 | [],[],G,k,hg,hl=>⟨[],[],hl,rfl,rfl,rfl,List.Pairwise.nil,fun j p a lv o hp=>by simp at hp⟩
 | [],_::_,G,k,hg,hl=>hl.elim
 |_::_,[],G,k,hg,hl=>hl.elim
 |(l,d)::ls,a::as,G,k,hg,hl=>by
  obtain⟨y,hy,ZU⟩:=hg 0 a rfl;obtain⟨lv,o,hl,W7,hrl⟩:=Lz h ZU hl;obtain⟨vs,lo,hl,h1,h2,h3,h4,h5⟩:=IK h ls as (fun j=>G (j+1)) (fun j b hj=>hg (j+1) b (by grind)) hl;split at hl
  ·exact hl.elim
  ·rename_i Yv
   have he:(PT.row (o::lo)).EG=(PT.row [o]).EG++(PT.row lo).EG:=by
    cases o<;>simp[PT.EG]
   refine⟨lv::vs,o::lo,by rw[he];exact hl,by simp[h1],by simp[h2],by simp[W7,h3],?_,?_⟩
   ·rw[he,List.pairwise_append];refine⟨?_,h4,fun x hx z hz=>?_⟩
    ·cases o<;>simp[PT.EG]
    ·show Tg.Dh z x=false;cases hq:Tg.Dh z x with
     |false=>rfl
     |true=>exact absurd (lK.2 ⟨x,hx,lK.2 ⟨z,hz,hq⟩⟩) Yv
   grind
mutual
theorem L.CU:∀(l:L) {w:World} {fz:Nat→Prop} {v:Value} {x:l.D} {o:List Nat},l.rd 3 w fz v x o↔l.rd 2 w fz v x o
 | .int _,_,_,_,_,_=>Iff.rfl
 | .bool,_,_,_,_,_=>Iff.rfl
 | .str,_,_,_,_,_=>Iff.rfl
 | .sl _ e,w,fz,v,x,o=>by
  have hf:e.rd (dec 3) w fz=e.rd (dec 2) w fz:=by funext g y o;exact propext (Ls.CU e)
  exact iff_of_eq (congrArg (fun R=>CE e.n R true w fz v x o) hf)
theorem Ls.CU:∀(ls:Ls) {w:World} {fz:Nat→Prop} {g:Nat→Option Value} {x:ls.D} {o:List Nat},ls.rd 3 w fz g x o↔ls.rd 2 w fz g x o
 | .nil,_,_,_,_,_=>Iff.rfl
 | .one l,w,fz,g,x,o=>exists_congr fun v=>and_congr_right fun _=>L.CU l
 | .cons l ls,w,fz,g,x,o=>exists_congr fun v=>exists_congr fun o1=>exists_congr fun o2=>and_congr_right fun _=>and_congr (L.CU l) (and_congr (Ls.CU ls) Iff.rfl)
end
theorem Jr(h:AW E s tm W){β:Type}{t:β}(r:Nat):∀(ls:List (L×Nat)) (as:List LA) (j:Nat) {k:List Lv→Step β},(∀i b,as[i]?=some b→s.leaf r (j+i)=b)→EU ls as=true→(s.data (ls.map (·.1)) (A5 r j as) k).leads t→
  ∃vs:List Lv,(k vs).leads t∧as.length=ls.length∧vs.map (·.l)=ls.map (·.1)∧∀(i:Nat)(p:L×Nat)(lv:Lv)(y:Value),ls[i]?=some p→vs[i]?=some lv→W.cv r (j+i)=some y→lv.l.rd p.2 W.w W.fz y lv.x (W.om (.lf r (j+i)))
 | [],[],j,k,hg,hd,hl=>⟨[],hl,rfl,rfl,fun i p lv y hp=>by simp at hp⟩
 | [],_::_,j,k,hg,hd,hl=>hl.elim
 |_::_,[],j,k,hg,hd,hl=>hl.elim
 |(l,m)::ls,b::as,j,k,hg,hd,hl=>by
  simp only[EU,j8]at hd;obtain⟨bM,hd⟩:=hd;have hb:s.leaf r j=b:=hg 0 b rfl;obtain⟨h1,_⟩:=h.roots r;have h1:Ab s W (s.leaf r j) (W.cv r j) (W.om (.lf r j)):=h1 j;rw[hb]at h1
  have fin:∀(x:l.D),(s.data (ls.map (·.1)) (A5 r (j+1) as) fun vs=>k (⟨l,x⟩::vs)).leads t→(∀y,W.cv r j=some y→l.rd m W.w W.fz y x (W.om (.lf r j)))→∃vs:List Lv,(k vs).leads t∧(b::as).length=((l,m)::ls).length∧vs.map (·.l)=((l,m)::ls).map (·.1)∧
    ∀(i:Nat)(p:L×Nat)(lv:Lv)(y:Value),((l,m)::ls)[i]?=some p→vs[i]?=some lv→W.cv r (j+i)=some y→lv.l.rd p.2 W.w W.fz y lv.x (W.om (.lf r (j+i))):=by
   intro x hl hx;obtain⟨vs,hl,hlen,hm,XV⟩:=Jr h r ls as (j+1) (fun i b hi=>by have:=hg (i+1) b (by simpa using hi);grind) hd hl;refine⟨_,hl,by simp[hlen],by simp[hm],fun i p lv y hp W7 hy=>?_⟩;cases i with
   |zero=>grind
   |succ i=>
    grind
  cases b with
  |arr AA gen t0 e xs d=>
   have gw:d=m∨(m=3∧d=2):=by simpa using bM
   have hl:(s.datum l (.ref ⟨r,j,AA,gen,[]⟩) fun x=>s.data (ls.map (·.1)) (A5 r (j+1) as) fun vs=>k (⟨l,x⟩::vs)).leads t:=hl;simp only[St.datum,St.content,hb]at hl;rw[kF (by simp[isNil])]at hl;simp only[O2]at hl;split at hl
   ·rename_i x hx;obtain⟨q1,q2⟩:=L.AH hx;subst q1;have q2:xs=x:=q2;subst q2;refine fin xs hl fun y hy=>?_;obtain⟨u,hu,Vw⟩:=h1;rw[hy]at hu;injection hu with hu;subst hu
    rcases gw with rfl|⟨rfl,rfl⟩
    ·exact Vw
    ·exact(L.CU _).2 Vw
   ·exact hl.elim
  |sc l0 x0=>
   have hl:(s.datum l (.sc l0 x0) fun x=>s.data (ls.map (·.1)) (A5 r (j+1) as) fun vs=>k (⟨l,x⟩::vs)).leads t:=hl;simp only[St.datum]at hl;split at hl
   ·rename_i x hx;obtain⟨q1,q2⟩:=L.AH hx;subst q1;have q2:x0=x:=q2;subst q2;refine fin x0 hl fun y hy=>?_;obtain⟨ho,Vw⟩:=h1;have Vw:l0.rd 0 W.w W.fz y x0 []:=Vw y hy;rw[ho];simp only[kU,kJ,kI]at bM;rcases bM with ZX|h0
    ·exact(L.Aa l0 ZX Vw).1
    grind
   ·exact hl.elim
  |_=>cases bM
theorem BB:∀(ms:List Nat)(t:Nat),has ms t=true↔t∈ms
 | [],t=>by simp[has]
 |m::ms,t=>by show(m==t||has ms t)=true↔_;rw[kU,BB ms t,kS,kI];grind
theorem JE(h:AW E s tm W){β:Type}{t:β}:∀(ps:List PM)(WC:List AV)(us:List Value) {k:List Lv→List Tg→Step β},us.length=WC.length→(∀(i:Nat)(av:AV)(u:Value),WC[i]?=some av→us[i]?=some u→BU s W av u)→(Aq s ps WC k).leads t→
  ∃(Vn:List (List Lv)) (T:List PT),(k Vn.flatten (T.flatMap PT.EG)).leads t∧WC.length=ps.length∧Vn.length=ps.length∧T.length=ps.length∧(T.flatMap PT.EG).Pairwise NH∧
   ∀(i:Nat)(pm:PM)(av:AV)(u:Value)(vs:List Lv)(tg:PT),ps[i]?=some pm→WC[i]?=some av→us[i]?=some u→Vn[i]?=some vs→T[i]?=some tg→HI s W pm av tg u vs
 | [],[],us,k,hlen,aj,hl=>⟨[],[],hl,rfl,rfl,rfl,List.Pairwise.nil,fun i pm av u vs tg hp=>by simp at hp⟩
 | [],_::_,us,k,hlen,aj,hl=>by simp[Aq]at hl;exact hl.elim
 |pm::ps,[],us,k,hlen,aj,hl=>by cases pm<;>simp[Aq]at hl<;>exact hl.elim
 |pm::ps,av::WC,[],k,hlen,aj,hl=>by simp at hlen
 |pm::ps,av::WC,u::us,k,hlen,aj,hl=>by
  have hu:BU s W av u:=aj 0 av u rfl rfl;have eP:∀(i:Nat)(av:AV)(u:Value),WC[i]?=some av→us[i]?=some u→BU s W av u:=fun i bE u' h1 h2=>aj (i+1) bE u' (by grind) (by grind);have WO:us.length=WC.length:=by simpa using hlen
  have fin:∀(tg:PT)(vs:List Lv) {k':List Lv→List Tg→Step β},(Aq s ps WC k').leads t→HI s W pm av tg u vs→
    (∀(Vn:List Lv)(T:List PT),(k' Vn (T.flatMap PT.EG)).leads t→(k (vs++Vn) (tg.EG++T.flatMap PT.EG)).leads t∧∀x∈tg.EG,∀z∈T.flatMap PT.EG,NH x z)→tg.EG.Pairwise NH→
    ∃(Vn:List (List Lv)) (T:List PT),(k Vn.flatten (T.flatMap PT.EG)).leads t∧(av::WC).length=(pm::ps).length∧Vn.length=(pm::ps).length∧T.length=(pm::ps).length∧(T.flatMap PT.EG).Pairwise NH∧
     ∀(i:Nat)(ZF:PM)(bE:AV)(u':Value)(vs:List Lv)(tg:PT),(pm::ps)[i]?=some ZF→(av::WC)[i]?=some bE→(u::us)[i]?=some u'→Vn[i]?=some vs→T[i]?=some tg→HI s W ZF bE tg u' vs:=by
   intro tg vs k' hl WQ hk gO;obtain⟨Vn,T,hl,h1,h2,h3,h4,h5⟩:=JE h ps WC us WO eP hl;obtain⟨hl,We⟩:=hk _ _ hl;refine⟨vs::Vn,tg::T,by grind,by simp[h1],by simp[h2],by simp[h3],?_,?_⟩
   ·grind
   ·grind
  cases pm with
  |val g ls=>
   cases av with
   |Dp vs=>simp only[Aq]at hl;exact hl.elim
   |bx as=>simp only[Aq]at hl;exact hl.elim
   |v g' as=>
    simp only[Aq]at hl;split at hl
    ·rename_i hg;have hg:g=g':=by simpa using hg
     subst hg;have hu:E6 s W g as u:=hu;obtain⟨vs,hl,WX,ZE,XV⟩:=Es h (g:=Ay g u) (fun j b hj=>B7 hu j b hj) hl;have hll:as.length=ls.length:=by rw[←WX,←ZE];simp
     refine fin .none vs hl ⟨rfl,by rw[ZE];simp[Function.comp_def],?_,?_⟩ (fun Vn T hk=>⟨hk,fun x hx=>by cases hx⟩) List.Pairwise.nil
     ·cases g with
      |true=>obtain⟨cs,Xt,V7,_⟩:=hu;grind
      |false=>
       cases as with
       |nil=>exact hu.elim
       |cons b bs=>cases bs with
        |nil=>grind
        |cons=>exact hu.elim
     ·intro j p lv hp W7;obtain⟨y,hy,hr⟩:=XV j lv W7;rw[kN]at hp;cases hq:ls[j]? with
      |none=>grind
      |some l=>
       rw[hq]at hp;injection hp with hp;subst hp
       exact⟨y,hy,hr⟩
    ·exact hl.elim
  |box ls=>
   unfold Aq at hl;split at hl<;>try exact hl.elim
   ·rename_i e1 _;cases e1
   ·rename_i e1 _;cases e1
   ·rename_i ZP aI r AA YW e1 e2;injection e1 with e1 cS;injection e1 with e1;subst e1;subst cS
    injection e2 with e2 b8;subst e2;subst b8
    split at hl
    ·rename_i Vt;simp only[j8,kI]at Vt;obtain⟨⟨hb,Vu⟩,Zl⟩:=Vt;obtain⟨vs,hl,YB,ZE,XV⟩:=Jr h r ls (s.root r).ls 0 (fun i b hi=>by unfold St.leaf;rw[kO,Ai,hi];rfl) Zl hl;refine fin (.box r) vs hl ⟨r,AA,rfl,rfl,hb,YB,hu hb Vu,ZE,fun j p lv y hp W7 hy=>?_⟩ ?_ (by simp[PT.EG])
     ·have:=XV j p lv y hp W7 (by rw[kO];exact hy);rwa[kO]at this
     ·intro Vn T hk;split at hk
      ·exact hk.elim
      ·rename_i Y8;refine⟨by simpa[PT.EG]using hk,fun x hx z hz=>?_⟩;simp only[PT.EG,km]at hx;subst hx;show Tg.Dh z (r,none)=false;cases hq:Tg.Dh z (r,none)with
       |false=>rfl
       |true=>exact absurd (lK.2 ⟨z,hz,hq⟩) Y8
    ·exact hl.elim
   all_goals grind
  |row g ls=>
   cases av with
   |Dp vs=>simp only[Aq]at hl;exact hl.elim
   |bx as=>simp only[Aq]at hl;exact hl.elim
   |v g' as=>
    simp only[Aq]at hl;split at hl
    ·rename_i hg;have hg:g=g':=by simpa using hg
     subst hg;have hu:E6 s W g as u:=hu;obtain⟨vs,l,hl,h1,h2,h3,h4,h5⟩:=IK h ls as (Ay g u) (fun j b hj=>B7 hu j b hj) hl;refine fin (.row l) vs hl ⟨as,l,rfl,rfl,h1,h2,h3,?_,h5⟩ ?_ h4
     ·cases g with
      |true=>obtain⟨cs,Xt,V7,_⟩:=hu;grind
      |false=>
       cases as with
       |nil=>exact hu.elim
       |cons b bs=>cases bs with
        |nil=>grind
        |cons=>exact hu.elim
     ·intro Vn T hk;split at hk
      ·exact hk.elim
      ·rename_i Yv;refine⟨hk,fun x hx z hz=>?_⟩;show Tg.Dh z x=false;cases hq:Tg.Dh z x with
       |false=>rfl
       |true=>exact absurd (lK.2 ⟨x,hx,lK.2 ⟨z,hz,hq⟩⟩) Yv
    ·exact hl.elim
  |fn f=>
   unfold Aq at hl;split at hl<;>try exact hl.elim
   ·grind
   ·grind
   ·grind
   ·grind
   ·rename_i f' aI g YW e1 e2;injection e1 with e1 cS;injection e1 with q1;subst q1;subst cS
    injection e2 with e2 b8;subst e2;subst b8
    split at hl
    ·rename_i ed;have ed:f=g:=by simpa using ed
     subst ed;exact fin .none [] hl ⟨rfl,hu,rfl⟩ (fun Vn T hk=>⟨by simpa[PT.EG]using hk,fun x hx=>by cases hx⟩) List.Pairwise.nil
    ·exact hl.elim
end
end Go.Ev
namespace Go.Ev
section
variable {P:Program}{E:Cy}{s:St}{W:Wd}{o:Oper}{a:Act}{ws:List Wr}{cx:Cx}{v:Nat}{tm:Array Value}
theorem Ji.H3{s':St}{W':Wd}{rs:List Nat}(h:Ji s s' W W' rs)(hv:Af s v):Af s' v:=by
 refine⟨fun t=>?_,fun r j=>?_,hv.2.2⟩
 ·have:s'.slot t=s.slot t:=by show nth _ s'.sl t=_;rw[h.same.sl];rfl
  rw[this];exact hv.1 t
 ·rcases h.O5 r j with e|e
  ·rw[e];exact hv.2.1 r j
  ·rw[e];have:=hv.2.1 r j;cases hq:s.leaf r j with
   |arr=>exact .inl rfl
   |_=>rw[hq]at this;exact this
theorem Mt{s s':St}(h:s'.sl=s.sl)(x:Operand):s'.Au x=s.Au x:=by
 cases x with
 |tmp t=>show nth _ s'.sl t=nth _ s.sl t;rw[h]
 |const c=>cases c<;>rfl
 |global g=>rfl
 |func f=>rfl
theorem Ms(hc:Db P cx)(cD:MD P cx.env)(h:AW E s a.tmps W)(hv:Af s v){t:TypeId}{x y:Operand}(ho:o.op=.store t x y)(hl:(AB cx v o s).leads ws):Bc P E o a W.w (s.app ws):=by
 simp only[AB,ho]at hl;have h1:=Ah h x;have h2:=A8 h y;have Xh:=F4 hv y;split at hl
 ·rename_i ty g as ht hy;rw[hy]at h2 Xh;split at hl
  ·obtain⟨ws0,rfl,hg⟩:=Gu hc h hv ho ht h1 h2 Xh hl;exact hg
  ·rename_i r rs hn;split at hl
   ·rename_i fs Xg;obtain⟨W1,ZY,fr,_⟩:=Eu h hv Xg;have e1:(s.app fs).Al x=s.Al x:=by unfold St.Al;rw[Mt fr.same.sl]
    have e2:(s.app fs).Au y=s.Au y:=Mt fr.same.sl y;have k1:=Ah ZY x;have k2:=A8 ZY y;rw[e1]at k1;rw[e2,hy]at k2;obtain⟨ws0,rfl,hg⟩:=Gu hc ZY (fr.H3 hv) ho ht k1 k2 Xh hl;rw[fr.w]at hg;rw[BF];exact hg
   ·exact hl.elim
 ·rename_i p ht;unfold IQ at hl;generalize hy:s.Au y=p at hl;split at hl
  ·rename_i g ps qs;split at hl
   ·rename_i hf;split at hl
    ·rename_i r j AA hx;split at hl
     ·rename_i Xl;split at hl
      ·rename_i Vt;simp only[j8,kI,kV]at Vt;obtain⟨⟨hb,Vu⟩,WH⟩:=Vt;have hl:_=ws:=hl;obtain⟨i,z,c,hi,V7,_⟩:=cD t hf;rw[hy]at h2 Xh;have h2:AP s W (.EI g ps qs) (a.eval y):=h2;rw[hx]at h1;have WU:(a.eval y).oneCell'=true:=by obtain⟨bs,hu,_⟩:=h2;rw[hu];rfl
       have V9:=Er WU;obtain⟨_,WN⟩:=h.roots r;rw[kF hb]at WN;obtain⟨_,arr,T,fr,hh,V0,Y0,_⟩:=WN;obtain⟨w',Vx,V1⟩:=DZ (P:=P) (o:=j) (a.eval y).cells.toList hh V0 (by rw[V9];simp;omega) (by rw[V9];intro u hu;simp at hu;subst hu;exact WU)
       obtain⟨W',Wl,Vo⟩:=h.KS hv (j:=j) hb (us:=[]) (bs:=[.EI g ps qs]) (os:=fun _=>[]) (cells:=(a.eval y).cells.toList) (by rw[V9];rfl) (by simpa using WH)
        (fun m b hm=>by
         cases m with
         |zero=>
          simp at hm;subst hm;refine⟨a.eval y,by rw[V9];rfl,WU,kE,(fun b hb=>by cases hb),rfl,h2,fun Vm=>Xh ?_⟩;simpa[AV.AG]using Vm
         |succ m=>simp at hm) (fun _ _ _ b hb=>by cases hb) (fun m hm=>rfl) hh V1
       have YS:ws=gone []++BD r j [.EI g ps qs]:=hl.symm;rw[YS];exact DC ho Xl (h1 hb Vu) hi (by rw[V9,V7];rfl) (by rw[Wl];exact Vx) Vo
      ·exact hl.elim
     ·exact hl.elim
    ·exact hl.elim
   ·exact hl.elim
  ·exact hl.elim
 ·exact hl.elim
end
end Go.Ev
