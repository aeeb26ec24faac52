/- A plain evaluator for Go's loaded code,and that it is sound;part 2. Conditions: none. -/
import Derived.Test.YtddkakpbnplbjaaDoorLib1
import Derived.Laws.BytesArg
import Derived.Lib.ConvBytes
import Derived.Laws.AppendOwn
import Derived.Sort.Grow
import Derived.Deep.Draws
set_option linter.all false
namespace Go.Ev
theorem DE{P:Program}{w w':World}(t ty e:TypeId)(i:TypeInfo)(ht:P.underlying t=some (.slice e))(hi:P.info? e=some i)(b:Addr)(sLen sCap:Nat)(A:Option Addr)(n c:Nat)(news:List Value)
  (hf:(Builtin.firstCells i.size n (.slice A n c)).run P w=.ok news.toArray w) (T5:sLen+n≤sCap) (Vb:(storeCells (b.add (sLen*i.size)) news).run P w=.ok () w'):
  (Builtin.append_ #[t,t] ty #[.slice (some b) sLen sCap,.slice A n c]).run P w=.ok (.slice (some b) (sLen+n) sCap) w':=by
 simp[Builtin.append_,run_underlying ht,sizeOf,typeInfo,hi,Builtin.lenOf,T5,hf,Vb]
theorem Cp{P:Program}{w:World}(t ty e:TypeId)(i:TypeInfo)(ht:P.underlying t=some (.slice e))(hi:P.info? e=some i)(sCap:Nat)(A:Option Addr)(c:Nat)(news:List Value)
  (hf:(Builtin.firstCells i.size 0 (.slice A 0 c)).run P w=.ok news.toArray w):
  (Builtin.append_ #[t,t] ty #[.slice none 0 sCap,.slice A 0 c]).run P w=.ok (.slice none 0 sCap) w:=by
 simp[Builtin.append_,run_underlying ht,sizeOf,typeInfo,hi,Builtin.lenOf,hf]
theorem Oq{t' t:TypeId}{e' e:Ls}{xs:List e'.D}{ys:List e.D}(h:L.cast (a:=.sl t' e') (.sl t e) xs=some ys):t'=t∧∃he:e'=e,∀(Q:(f:Ls)→List f.D→Prop),Q e' xs→Q e ys:=by obtain⟨h1,h2⟩:=L.AH h;grind
theorem DM{α β:Type}:∀l:List α,(l.flatMap fun _=>([]:List β))=[]
 | []=>rfl
 |_::l=>by simp[DM l]
section
variable {P:Program}{E:Cr}{s:St}{W:Wd}{o:Oper}{a:Act}{ws:List Wr}{cx:Cx}{v:Nat}
theorem MN(e:Ls)(m k:Nat)(hk:k<m):(madeCells (e.kinds.map B7).toArray m)[k]?=some ((e.kinds.map B7).toArray[k%e.n]!):=by simp[madeCells,hk,A9]
theorem MM(e:Ls)(hp:0<e.n)(n:Nat){d:Nat}{w:World}{fz:Nat→Prop}:Bx e d w fz (fun k=>(madeCells (e.kinds.map B7).toArray (n*e.n))[0+k]?) (List.replicate n (FV e)) fun _=>[]:=by intro i hi;rw[List.getElem_replicate];refine Ls.F5 e fun j hj=>?_;simp only[gb];rw[MN e _ _ (KX (by grind) hj),Nat.mul_add_mod',Nat.mod_eq_of_lt hj];simp[A9,hj]
theorem JI(hc:DV P cx)(h:AU E s a.tmps W)(hv:Ac s v){t:TypeId}{x y:Operand}(ho:o.op=.makeSlice t x y)(hd:∀d,o.dst=some d→d<a.tmps.size)(hl:(AB cx v o s).leads ws):BZ P E o a W.w (s.app ws):=by
 simp only[AB,ho]at hl;split at hl
 ·rename_i ty d ht UG;split at hl
  ·exact hl.elim
  ·rename_i VT;split at hl
   ·rename_i t' e U4;obtain⟨kl,n,hx,hl⟩:=EI (Ae h x) hl;obtain⟨kc,m,hy,hl⟩:=EI (Ae h y) hl;rcases Ad hl with⟨hb,hl⟩|⟨_,hl⟩
    ·simp only[gL,gm]at hb;obtain⟨⟨h0,h1⟩,rfl⟩:=hb;obtain⟨T6,Tr⟩:=(B9 hc ht U4 (by grind):GR P t (.sl t' e));obtain⟨i,hi,Tt,Xa,z,hz,WH⟩:=Tr.info;have VC:m≤68719476736:=h1
     have Ti:=run_make (P:=P) W.w t t' i z T6 hi hz kl kc m m h0 (Int.le_refl _)
      (Int.le_trans (Int.mul_le_mul (show(i.bytes:Int)≤1024 by omega) VC h0 (by decide)) (by decide)) (by omega)
     rw[WH,Tt]at Ti
     obtain⟨W',UY,TY⟩:=h.CP hv [] (hd d UG) (t0:=t') (e:=e) (xs:=List.replicate m.toNat (FV e)) (dd:=2) (u:=.slice (some ⟨W.w.heap.size,0,none⟩) m.toNat m.toNat) (w':=W.w.alloc (.cells (madeCells (e.kinds.map B7).toArray (m.toNat*e.n)) t')) (o:=[W.w.heap.size]) (EZ h _) (fun b hb _=>alloc_old _ _ (by have:=h.sep.size;omega)) (by rw[Ap];omega) ⟨rfl,rfl,rfl⟩
      (by
       have:=E5 (e:=e) (w:=W.w.alloc (.cells (madeCells (e.kinds.map B7).toArray (m.toNat*e.n)) t')) (fz:=W.fz) (ad:=⟨W.w.heap.size,0,none⟩) (c:=m.toNat) (xs:=List.replicate m.toNat (FV e)) (os:=fun _=>[])
        (heap_alloc_new _ _) rfl (by omega) (by simp[size_madeCells]) (by simp) (MM e Tr.pos m.toNat)
       simpa[DM]using this) (by simp) (fun b hb=>by simp at hb;subst hb;exact .inr ⟨gk _,by rw[Ap];omega⟩)
     have hl:_=ws:=hl;rw[←hl];refine BV h UG ?_ UY TY;simp[execOp,ho,hx,hy,Ti]
    ·exact hl.elim
   ·exact hl.elim
 ·exact hl.elim
def KM(P:Program)(s:St)(W:Wd)(e:Ls)(u:Value)(ys:List e.D)(us:List (Nat×Nat)):Prop:=
 ∃A c g os,u=.slice A ys.length c∧(A=none→ys=[])∧(∀ad,A=some ad→ys≠[]→ad.spot=none∧∀k,W.w.cell? (at_ ad k)=g k)∧Bx e 2 W.w W.fz g ys os∧((List.range ys.length).flatMap os).Nodup∧
  (∀i,i<ys.length→∀b∈os i,∃r j,(r,j)∈us∧b∈W.om (.lf r j))∧us.Nodup
theorem JC(h:AU E s a.tmps W){la:LA}{u:Value}(hu:AP s W la u){t:TypeId}{e:Ls}{β:Type}{k:List e.D→List (Nat×Nat)→Step β}{z:β}(hl:(EV cx s la t e k).leads z):
  ∃ys us,(k ys us).leads z∧KM P s W e u ys us:=by
 unfold EV at hl;split at hl
 ·rename_i hf;obtain⟨ys,hl,hr⟩:=Bg h hu hl;refine⟨ys,[],hl,?_⟩;obtain⟨A,c,hv,hc,hn,T8⟩:=AD.KK (L.Ke.1 hr);cases A with
  |none=>
   have:ys=[]:=gQ (by grind);subst this;exact⟨none,c,fun _=>none,fun _=>[],hv,fun _=>rfl,(fun ad Uf _=>by cases Uf),(fun i hi=>by simp at hi),by simp,(fun i hi=>by simp at hi),gR⟩
  |some ad=>
   by_cases ZT:c=0
   ·have:ys=[]:=gQ (by omega);subst this;exact⟨some ad,c,fun _=>none,fun _=>[],hv,fun _=>rfl,(fun ad Uf Tf=>absurd rfl Tf),(fun i hi=>by simp at hi),by simp,(fun i hi=>by simp at hi),gR⟩
   obtain⟨arr,T,fr,os,hs,hh,_,_,Tr,_,_⟩:=T8 ad rfl (.inl (by omega));refine⟨some ad,c,_,_,hv,(fun hA=>by cases hA),?_,Bx.flat hf Tr 2 W.w W.fz,by grind,(fun i hi b hb=>by cases hb),gR⟩;intro Yp Uf _;injection Uf with Uf;subst Uf
   exact⟨hs,fun k=>by simp[World.cell?,at_,hh]⟩
 ·split at hl
  ·rename_i c;split at hl
   ·rename_i AA gen t' e' xs d TV;split at hl
    ·rename_i Td;simp only[gL,gV,gW]at Td;obtain⟨⟨⟨Te,hp⟩,WX⟩,hd⟩:=Td;subst Te;subst hd;have hp:c.p=[]:=by cases hq:c.p<;>simp_all[isNil]
     split at hl
     ·rename_i ys ak;obtain⟨h1,h2⟩:=L.AH ak;cases h1;have h2:xs=ys:=h2;subst h2;obtain⟨h',e',T3,hn⟩:=hu gen _ _ _ _ TV (.inl hp);rw[hp]at hn;obtain⟨rfl,rfl⟩:=hn;obtain⟨u',Tj,Th⟩:=(h.roots c.r).row TV;rw[T3]at Tj;injection Tj with Tj;subst Tj
      refine⟨xs,_,hl,?_⟩;obtain⟨A,cc,hv,hc,hn,T8⟩:=Th.KK;cases A with
      |none=>
       have:xs=[]:=gQ (by grind);subst this;exact⟨none,cc,fun _=>none,fun _=>[],hv,fun _=>rfl,(fun ad Uf _=>by cases Uf),(fun i hi=>by simp at hi),by simp,(fun i hi=>by simp at hi),by simp⟩
      |some ad=>
       obtain⟨arr,T,fr,os,hs,hh,_,_,Tr,ho,_⟩:=T8 ad rfl (.inr (by decide));have ho:=ho (by decide);have UU:=h.sep.nodup (.lf c.r c.j);rw[ho]at UU;refine⟨some ad,cc,_,os,hv,(fun hA=>by cases hA),?_,Tr,(gh.1 UU).2,?_,by simp⟩
       ·intro Yp Uf _;injection Uf with Uf;subst Uf
        exact⟨hs,fun k=>by simp[World.cell?,at_,hh]⟩
       grind
     ·exact hl.elim
    ·exact hl.elim
   ·exact hl.elim
  ·exact hl.elim
theorem LL{w:World}{fz:Nat→Prop}{v:Value}{xs:List Int}{d:Nat}{oo:List Nat}{t1 t2 t0:TypeId}(e1:P.underlying t1=some (.slice t0))(e2:P.underlying t2=some .string)(e0:P.underlying t0=some (.int .u8))
  (hr:AD (.one (.int .u8)) d w fz v xs oo):(convert t1 t2 v).run P w=.ok (.string ⟨(bytesOf xs).toArray⟩) w:=by
 obtain⟨A,c,hv,UF,VM,T8⟩:=hr.KK;have hv:v=.slice A (List.length (α:=Int) xs) c:=hv;have UF:List.length (α:=Int) xs≤c:=UF;rw[hv];cases A with
 |none=>
  obtain⟨ZT,_⟩:=VM rfl;have WE:xs=[]:=gQ (by omega);subst WE;rw[run_convert_bytes_nil w t1 t0 e1 e0 _ _ t2 e2];rfl
 |some ad=>
  by_cases WC:0<c
  ·obtain⟨arr,T,fr,os,hs,hh,Tt,_,Tr,_⟩:=T8 ad rfl (.inl WC);obtain⟨b,off,sp⟩:=ad;dsimp only at hs hh Tt Tr;subst hs
   rw[run_convert_bytes_arg w t1 t0 e1 e0 b off (List.length (α:=Int) xs) c xs rfl (fun i hi=>by
    obtain⟨y,hy,Xt⟩:=Tr i hi;have hy:arr[off+(i*1+0)]?=some y:=hy;have ZQ:y=.int .u8 (xs[i]'hi):=Xt.1;simp only[World.cell?,hh];grind) t2 e2]
   rfl
  ·have WE:xs=[]:=gQ (by omega);subst WE;rw[run_convert_bytes_string w t1 t2 t0 (some ad) _ c e1 e0 e2]
   have:=run_bytesToString (P:=P) w ad 0 c [] (by
    have:=run_loadCells_list (P:=P) (w:=w) ad [] (fun j v hj=>by simp at hj);grind)
   exact this
theorem Nt(hc:DV P cx){t0:TypeId}(X8:Gt cx t0 (.int .u8)=true):P.underlying t0=some (.int .u8):=by
 unfold Gt at X8;split at X8
 ·rename_i ty0 cU;simp only[gL,gW]at X8;exact B9 hc cU (Ls.Dl X8.2) X8.1
 ·cases X8
theorem LJ(b:List UInt8)(r:Array Value){d:Nat}{w:World}{fz:Nat→Prop}:Bx (.one (.int .u8)) d w fz (fun k=>((b.toArray.map fun c=>Value.int .u8 c.toNat)++r)[0+k]?) (Co b) fun _=>[]:=by
 intro i hi
 have U3:i<b.length:=by have:i<(Co b).length:=hi;simpa[Co]using this
 refine⟨.int .u8 (b[i].toNat:Int),?_,?_,rfl⟩
 ·show((b.toArray.map fun c=>Value.int .u8 c.toNat)++r)[0+(i*1+0)]?=_;rw[gu (by simp;omega)];simp[U3]
 ·show Value.int .u8 _=.int .u8 ((Co b)[i]'hi);simp[Co]
theorem LK(w:World)(t0:TypeId)(b:List UInt8)(fz:Nat→Prop):AD (.one (.int .u8)) 2 (Go.Lib.bytesWorld w t0 ⟨b.toArray⟩) fz (.slice (some ⟨w.heap.size,0,none⟩) b.length (grownCap w b.length 0 t0)) (Co b) [w.heap.size]:=by
 have US:b.length≤grownCap w b.length 0 t0:=grownCap_ge ..;have hlen:(Co b).length=b.length:=by simp[Co]
 have hs:(Go.Lib.bytesCells w t0 ⟨b.toArray⟩).size=grownCap w b.length 0 t0:=by show((b.toArray.map _)++Array.replicate (grownCap w b.toArray.size 0 t0-b.toArray.size) _).size=_;rw[iN,iT,Array.size_replicate,iM];omega
 have h:=E5 (e:=.one (.int .u8)) (w:=Go.Lib.bytesWorld w t0 ⟨b.toArray⟩) (fz:=fz) (ad:=⟨w.heap.size,0,none⟩) (c:=grownCap w b.length 0 t0) (xs:=Co b) (os:=fun _=>[])
  (Go.Lib.bytesWorld_at_new w t0 ⟨b.toArray⟩) rfl (fun j hj=>by dsimp only;omega) (by
   show 0+_*1≤_;rw[hs];omega) (by
   show(Co b).length≤_;omega) (LJ b _)
 rw[DM,show(List.length (α:=Ls.D (.one (.int .u8))) (Co b))=b.length from hlen]at h;exact h
theorem KZ(hc:DV P cx)(h:AU E s a.tmps W)(hv:Ac s v){t1 t2:TypeId}{x:Operand}(ho:o.op=.convert t1 t2 x)(hd:∀d,o.dst=some d→d<a.tmps.size)(hl:(AB cx v o s).leads ws):BZ P E o a W.w (s.app ws):=by
 simp only[AB,ho]at hl;have h1:=Ae h x;generalize s.Aj x=p at hl h1;split at hl
 ·rename_i ta ty k0 n aZ ht;split at hl
  ·exact hl.elim
  ·rename_i VT;split at hl
   ·rename_i k U4;rw[AM hl];have hu:P.underlying t2=some (.int k):=B9 hc ht U4 (by grind)
    have hd:∃d,P.underlying t1=some d:=by
     cases hg:ta.agg with
     |true=>obtain⟨fs,VR,_⟩:=(hc _ _ aZ).agg hg;grind
     |false=>obtain⟨l,_,U2⟩:=(hc _ _ aZ).lone hg;obtain⟨d,hd,_⟩:=U2.JE;grind
    obtain⟨d,hd⟩:=hd;refine AR h (u:=.int k (k.wrap n)) ?_ (Be _ _);have e1:a.eval x=.int k0 n:=h1.1;simp only[execOp,ho,convert,Sem.run_bind,run_underlying hd,run_underlying hu,Result.andThen_ok,e1];simp[Conv.intToInt]
   ·exact hl.elim
 ·rename_i ta ty p aZ ht Wj;split at hl
  ·exact hl.elim
  ·rename_i VT;simp only[gl,not_or,Bool.not_eq_true]at VT;obtain⟨X2,ZW⟩:=VT;split at hl
   ·rename_i t0 Y9 ZA;split at hl
    ·rename_i X8;have e1:P.underlying t1=some (.slice t0):=(B9 hc aZ Y9 X2).1;have e2:P.underlying t2=some .string:=B9 hc ht ZA ZW;have e0:=Nt hc X8;obtain⟨xs,hl,hr⟩:=Bg h h1 hl;rw[AM hl];have Ti:=LL e1 e2 e0 (xs:=xs) hr;refine AR h (u:=.string ⟨(bytesOf xs).toArray⟩) ?_ (Kf _);simp[execOp,ho,Ti]
    ·exact hl.elim
   ·rename_i t0 Y9 ZA;unfold K6 at hl;split at hl
    ·rename_i b d UG;split at hl
     ·rename_i X8;have e1:P.underlying t1=some .string:=B9 hc aZ Y9 X2;have e2:P.underlying t2=some (.slice t0):=(B9 hc ht ZA ZW).1;have e0:=Nt hc X8;have hx:a.eval x=.string ⟨b.toArray⟩:=h1.1;have Ti:=Go.Lib.run_convert_string_bytes (P:=P) W.w t1 t2 t0 ⟨b.toArray⟩ e1 e2 e0;have hold:∀k,k<W.w.heap.size→(Go.Lib.bytesWorld W.w t0 ⟨b.toArray⟩).heap[k]?=W.w.heap[k]?:=fun k hk=>Go.Lib.bytesWorld_at_old W.w t0 _ k hk
      obtain⟨W',UY,TY⟩:=h.CP hv [] (hd d UG) (t0:=t0) (w':=Go.Lib.bytesWorld W.w t0 ⟨b.toArray⟩)
       (fun k hk=>hold k (hk.elim (fun hk=>(h.sep.fz k hk).1) fun⟨q,_,hk⟩=>(h.sep.own q k hk).2.1)) (fun k hk _=>hold k (by have:=h.sep.size;omega)) (by rw[Go.Lib.bytesWorld_size];omega) ⟨rfl,rfl,rfl⟩
       (LK W.w t0 b W.fz) (by simp) (fun k hk=>by simp at hk;subst hk;exact .inr ⟨gk _,by rw[Go.Lib.bytesWorld_size];omega⟩)
      have hl:_=ws:=hl;rw[←hl];refine BV h UG ?_ UY TY;simp only[execOp,ho,hx,Sem.run_bind];rw[Ti];rfl
     ·exact hl.elim
    ·exact hl.elim
   ·exact hl.elim
 ·exact hl.elim
end
end Go.Ev
namespace Go.Ev
section
variable {P:Program}{E:Cr}{s:St}{W:Wd}{o:Oper}{a:Act}{ws:List Wr}{cx:Cx}{v:Nat}{tm:Array Value}
theorem IS(n m:Nat)(os UP:Nat→List Nat):((List.range (n+m)).flatMap fun i=>if i<n then os i else UP (i-n))=(List.range n).flatMap os++(List.range m).flatMap UP:=by
 rw[List.range_add,List.flatMap_append];congr 1
 ·rw[List.flatMap_def,List.flatMap_def];congr 1;refine List.map_congr_left fun i hi=>?_;grind
 ·rw[List.flatMap_map,List.flatMap_def,List.flatMap_def];congr 1;refine List.map_congr_left fun i hi=>?_;grind
theorem LH(h:AU E s tm W)(hv:Ac s v){t t0 ty:TypeId}{e:Ls}(T6:P.underlying t=some (.slice t0))(Tr:Lz P t0 e){d:Nat}(hd:d<tm.size){ux uy:Value}{xs ys:List e.D}{us1 us2:List (Nat×Nat)}{o1:List Nat}
  (hx:AD e 2 W.w W.fz ux xs o1) (dD:o1.Nodup) (Vk:∀b∈o1,∃r j,(r,j)∈us1∧b∈W.om (.lf r j)) (hy:KM P s W e uy ys us2) (XI:∀x∈us1,x∉us2) (hlen:xs.length+ys.length≤Dc) (t1:TypeId):
  ∃u w',(Builtin.append_ #[t,t] ty #[ux,uy]).run P W.w=.ok u w'∧∃W',W'.w=w'∧AU E (s.app (gone (us1++us2)++ownRow d v t1 e (xs++ys))) (tm.setIfInBounds d u) W':=by
 obtain⟨i,hi,Tt,Xa,z,hz,WH⟩:=Tr.info;have WC:=Tr.pos;have UC:xs.length+ys.length≤68719476736:=hlen;obtain⟨A1,c1,X9,bP,Zl,WL⟩:=hx.KK;obtain⟨A2,c2,g2,os2,af,Zm,Wb,VJ,aF,Xh,hnus2⟩:=hy
 have V1:∀b∈o1,∀i,i<ys.length→b∉os2 i:=by
  intro b hb i hi Tk;obtain⟨r,j,hm,h1⟩:=Vk b hb;obtain⟨r',j',U5,VC⟩:=Xh i hi b Tk;by_cases he:(r,j)=(r',j')
  ·grind
  ·exact h.sep.Ar (.lf r j) (.lf r' j') (fun e=>he (by grind)) b h1 VC
 have Z1:∀b∈(List.range ys.length).flatMap os2,∃i,i<ys.length∧b∈os2 i:=by intro b hb;obtain⟨i,hi,hb⟩:=gN.1 hb;exact⟨i,gZ.1 hi,hb⟩
 have WO:∀b,(b∈o1∨b∈(List.range ys.length).flatMap os2)→∃r j,(r,j)∈us1++us2∧b∈W.om (.lf r j):=by
  intro b hb;rcases hb with hb|hb
  ·grind
  ·grind
 have Tc:∀b,(∃r j,(r,j)∈us1++us2∧b∈W.om (.lf r j))→b<W.w.heap.size:=fun b ⟨r,j,_,hb⟩=>(h.sep.own _ b hb).2.1
 have WU:∃news:List Value,news.length=ys.length*e.n∧(∀k,k<ys.length*e.n→news[k]?=g2 k)∧(∀v∈news,v.oneCell'=true)∧
   (Builtin.firstCells i.size ys.length (.slice A2 ys.length c2)).run P W.w=.ok news.toArray W.w∧∀ad,A2=some ad→∀j u,news[j]?=some u→W.w.cell? (ad.add j)=some u:=by
  have Ts:=VJ.cell
  have U1:∀ad,A2=some ad→∀j u,(BS g2 (ys.length*e.n))[j]?=some u→W.w.cell? (ad.add j)=some u:=by
   intro ad Uf j u hj;have Tc:j<ys.length*e.n:=by have:=(gM.1 hj).1;rwa[AL]at this
   rw[Bc Ts j Tc]at hj;obtain⟨hs,hg⟩:=Wb ad Uf (fun h0=>by grind);rw[EF hs,hg,hj]
  refine⟨BS g2 (ys.length*e.n),AL _ _,Bc Ts,FG Ts,?_,U1⟩;cases hA:A2 with
  |none=>
   have:=Zm hA;subst this;rw[run_firstCells_none];simp[BS]
  |some ad=>exact run_firstCells_some W.w i.size ys.length ad ys.length c2 _ (by rw[AL,Tt]) (U1 ad hA)
 obtain⟨news,U6,Xp,Xn,Ww,Ux⟩:=WU;subst X9;subst af
 have fresh:∀(os1:Nat→List Nat)(arr:Array Value)(cap:Nat),xs.length+ys.length≤cap→cap*e.n≤arr.size→Bx e 2 W.w W.fz (fun k=>arr[k]?) xs os1→(∀k,k<ys.length*e.n→arr[xs.length*e.n+k]?=g2 k)→
   (∀b∈(List.range xs.length).flatMap os1,b∈o1)→((List.range xs.length).flatMap os1).Nodup→
   ∃W',W'.w=W.w.drew.alloc (.cells arr t0)∧AU E (s.app (gone (us1++us2)++ownRow d v t1 e (xs++ys))) (tm.setIfInBounds d (.slice (some ⟨W.w.heap.size,0,none⟩) (xs.length+ys.length) cap)) W':=by
  intro os1 arr cap Ua UM Vd ZP UO Vp;have hold:∀b,b<W.w.heap.size→(W.w.drew.alloc (.cells arr t0)).heap[b]?=W.w.heap[b]?:=fun b hb=>alloc_old W.w.drew _ hb
  have Ut:Bx e 2 (W.w.drew.alloc (.cells arr t0)) W.fz (fun k=>arr[0+k]?) (xs++ys) fun i=>if i<xs.length then os1 i else os2 (i-xs.length):=by
   refine Bx.append ?_ ?_
   ·refine Bx.congr (g:=fun k=>arr[k]?) ?_ fun k _=>by grind
    refine Vd.frame (fun b hb=>hold b ?_) fun _ hb=>hb;rcases hb with⟨i,hi,hb⟩|hb
    ·exact Tc b (WO b (.inl (UO b (gN.2 ⟨i,gZ.2 hi,hb⟩))))
    ·exact(h.sep.fz b hb).1
   ·refine Bx.congr (g:=g2) ?_ fun k hk=>by grind
    refine VJ.frame (fun b hb=>hold b ?_) fun _ hb=>hb;rcases hb with⟨i,hi,hb⟩|hb
    ·obtain⟨r,j,hm,h1⟩:=Xh i hi b hb;exact(h.sep.own _ b h1).2.1
    ·exact(h.sep.fz b hb).1
  have Tb:=E5 (w:=W.w.drew.alloc (.cells arr t0)) (ad:=⟨W.w.heap.size,0,none⟩) (c:=cap) (fr:=(0,0)) (T:=t0) (heap_alloc_new W.w.drew _) rfl (by omega) (by grind) (by grind) Ut;rw[iD,IS]at Tb;refine h.CP hv (us1++us2) hd (t0:=t1) (fun b hb=>hold b ?_) (fun b hb _=>hold b (by have:=h.sep.size;omega)) (by grind) ⟨rfl,rfl,rfl⟩ Tb ?_ ?_
  ·rcases hb with hb|⟨k,_,hb⟩
   ·exact(h.sep.fz b hb).1
   ·exact(h.sep.own k b hb).2.1
  ·refine gh.2 ⟨fun TW=>?_,gf.2 ⟨Vp,aF,fun x hx y hy e=>?_⟩⟩
   ·have:=Tc _ (WO _ ((iX.1 TW).imp (UO _) id));exact absurd this (Nat.lt_irrefl _)
   grind
  ·intro b hb;rcases gj.1 hb with rfl|hb
   ·exact .inr ⟨gk _,by show _<(W.w.drew.alloc _).heap.size;rw[Ap];simp⟩
   grind
 cases A1 with
 |none=>
  obtain⟨rfl,rfl⟩:=Zl rfl;have WE:xs=[]:=gQ (by omega);subst WE;cases ys with
  |nil=>
   refine⟨_,_,Cp t ty t0 i T6 hi 0 A2 c2 news Ww,?_⟩;exact h.CP hv (us1++us2) hd (t0:=t1) (fun _ _=>rfl) (fun _ _ _=>rfl) (gk _) ⟨rfl,rfl,rfl⟩ Bj gR (fun b hb=>by cases hb)
  |cons y ys=>
   cases A2 with
   |none=>grind
   |some ad2=>
    refine⟨_,_,run_append_nil W.w t ty t0 i z T6 hi hz ad2 (y::ys).length c2 news (by rw[U6,Tt]) (Ux ad2 rfl) (by simp) (by simp at UC ⊢;omega) (hZ (iY (show _≤68719476736 by simp at UC ⊢;omega) Xa) (by decide)),?_⟩;have US:=grownCap_ge W.w (y::ys).length 0 t0
    have:=fresh (fun _=>[]) (news.toArray++Builtin.zeroCells z.cells (grownCap W.w (y::ys).length 0 t0-(y::ys).length)) (grownCap W.w (y::ys).length 0 t0) (by simpa using US)
     (by
      have:(y::ys).length*e.n+(grownCap W.w (y::ys).length 0 t0-(y::ys).length)*e.n=grownCap W.w (y::ys).length 0 t0*e.n:=by rw[←gw];congr 1;omega
      simp only[iN,iM,U6,Builtin.zeroCells,iT,iW,WH,iG,A9];omega) (fun i hi=>by simp at hi)
     (by
      intro k hk;rw[←Xp k hk];simp only[List.length_nil,Nat.zero_mul,gb];rw[gu (by simpa[U6]using hk)];simp) (by simp) (by simp)
    grind
 |some ad1=>
  obtain⟨arr,T,fr,os1,hs,hh,T5,UX,Vd,WW,_⟩:=WL ad1 rfl (.inr (by decide));have Vx:o1=ad1.block::(List.range xs.length).flatMap os1:=WW (by decide);have Tl:=UX (by decide);clear WW UX WL;obtain⟨b1,Tw,sp1⟩:=ad1;dsimp only at hs hh T5 Vd Vx;subst hs;have Vp:(b1::(List.range xs.length).flatMap os1).Nodup:=Vx▸dD;by_cases Ua:xs.length+ys.length≤c1
  ·
   have hmul:(xs.length+ys.length)*e.n≤c1*e.n:=gy _ Ua;rw[gw]at hmul;obtain⟨w',Vb,Tm⟩:=DT (P:=P) (o:=Tw+xs.length*e.n) news hh Tl (by rw[U6];omega) Xn;have U1:(⟨b1,Tw,none⟩:Addr).add (xs.length*i.size)=⟨b1,Tw+xs.length*e.n,none⟩:=by rw[Tt];exact addr_add _ _ _
   refine⟨_,_,DE t ty t0 i T6 hi ⟨b1,Tw,none⟩ xs.length c1 A2 ys.length c2 news Ww Ua (by rw[U1];exact Vb),?_⟩;have U9:b1∈o1:=by rw[Vx];simp
   have Tp:=CR news (Tw+xs.length*e.n) arr (by rw[U6];omega)
   have Ut:Bx e 2 w' W.fz (fun k=>(B5 news (Tw+xs.length*e.n) arr)[Tw+k]?) (xs++ys) fun i=>if i<xs.length then os1 i else os2 (i-xs.length):=by
    refine Bx.append ?_ ?_
    ·refine Bx.congr (g:=fun k=>arr[Tw+k]?) ?_ fun k hk=>?_
     ·refine Vd.frame (fun b hb=>Tm.CG b ?_) fun _ hb=>hb
      rintro rfl
      rcases hb with⟨i,hi,hb⟩|hb
      ·exact(gh.1 Vp).1 (gN.2 ⟨i,gZ.2 hi,hb⟩)
      ·obtain⟨r,j,_,h1⟩:=Vk b U9;exact(h.sep.own _ b h1).1 hb
     ·rw[Tp,gT (by omega)]
    ·refine Bx.congr (g:=g2) ?_ fun k hk=>?_
     ·refine VJ.frame (fun b hb=>Tm.CG b ?_) fun _ hb=>hb
      rintro rfl
      rcases hb with⟨i,hi,hb⟩|hb
      ·exact V1 b U9 i hi hb
      ·obtain⟨r,j,_,h1⟩:=Vk b U9;exact(h.sep.own _ b h1).1 hb
     ·rw[←Xp k hk,Tp,gS (by rw[U6];omega)];congr 1;omega
   have Tb:=E5 (w:=w') (ad:=⟨b1,Tw,none⟩) (c:=c1) Tm.here rfl (by rw[Am];exact Tl) (by rw[Am];exact T5) (by simpa using Ua) Ut;rw[iD,IS]at Tb;refine h.CP hv (us1++us2) hd (t0:=t1) (fun b hb=>Tm.CG b ?_) (fun b hb Wh=>Tm.CG b ?_) (by rw[Tm.size];exact gk _) Tm.rest Tb ?_ ?_
   ·rintro rfl
    obtain⟨r,j,hm,h1⟩:=Vk b U9;rcases hb with hb|⟨k,hk,hb⟩
    ·exact(h.sep.own _ b h1).1 hb
    ·by_cases Y8:k=.lf r j
     ·subst Y8;exact hk.2 (gX _ hm)
     ·exact h.sep.Ar k _ Y8 b hb h1
   ·rintro rfl
    obtain⟨r,j,hm,h1⟩:=Vk b U9;rcases(h.sep.own _ b h1).2.2 with h2|h2
    ·omega
    ·exact Wh h2
   ·refine gh.2 ⟨fun TW=>?_,gf.2 ⟨(gh.1 Vp).2,aF,fun x hx y hy e=>?_⟩⟩
    ·rcases iX.1 TW with TW|TW
     ·exact(gh.1 Vp).1 TW
     ·obtain⟨i,hi,hb⟩:=Z1 _ TW;exact V1 _ U9 i hi hb
    ·subst e;obtain⟨i,hi,hb⟩:=Z1 x hy;exact V1 x (by rw[Vx];exact gO _ hx) i hi hb
   grind
  ·
   cases A2 with
   |none=>grind
   |some ad2=>
    have Vi:=Vd.cell;have X2:=Bc Vi
    have holds:∀j u,(BS (fun k=>arr[Tw+k]?) (xs.length*e.n))[j]?=some u→W.w.cell? ((⟨b1,Tw,none⟩:Addr).add j)=some u:=by
     intro j u hj;have Tc:j<xs.length*e.n:=by have:=(gM.1 hj).1;rwa[AL]at this
     rw[X2 j Tc]at hj;rw[addr_add];simp only[World.cell?,hh];simpa using hj
    refine⟨_,_,run_append_grow W.w t ty t0 i z T6 hi hz ⟨b1,Tw,none⟩ xs.length c1 (BS (fun k=>arr[Tw+k]?) (xs.length*e.n)) (by rw[AL,Tt]) holds ad2 ys.length c2 news (by rw[U6,Tt]) (Ux ad2 rfl) (by omega) (by omega)
     (growslice_fits (by omega) (hZ (iY UC Xa) (by decide))),?_⟩
    have US:=grownCap_ge W.w (xs.length+ys.length) c1 t0;refine fresh os1 _ _ US ?_ ?_ ?_ (fun b hb=>by grind) (gh.1 Vp).2
    ·have:xs.length*e.n+ys.length*e.n+(grownCap W.w (xs.length+ys.length) c1 t0-(xs.length+ys.length))*e.n=grownCap W.w (xs.length+ys.length) c1 t0*e.n:=by rw[←gw,←gw];congr 1;omega
     simp only[iN,iM,U6,AL,Builtin.zeroCells,iT,iW,WH,iG,A9];omega
    ·refine Bx.congr Vd fun k hk=>?_;grind
    ·intro k hk;rw[←Xp k hk];rw[gu (by simp[AL,U6];omega),Array.getElem?_append_right (by simp[AL])];simp[AL]
end
end Go.Ev
namespace Go.Ev
theorem Hc:∀(vs:List Value)(off n:Nat)(arr:Array Value),(vs.zipIdx n).foldl (fun cs (p:Value×Nat)=>cs.setIfInBounds (off+p.2) p.1) arr=B5 vs (off+n) arr
 | [],_,_,_=>rfl
 |v::vs,off,n,arr=>by rw[List.zipIdx_cons,List.foldl_cons,Hc vs off (n+1)];rfl
theorem IX{place:Nat→Option (Nat×Nat)}{cells:Array Value}{i:Nat}{v:Value}{rest:List (Nat×Value)}{off size:Nat}(hp:place i=some (off,size))(hs:v.cells.size=size)(hl:off+size≤cells.size):
  Instr.fill place cells ((i,v)::rest)=Instr.fill place (B5 v.cells.toList off cells) rest:=by
 have h1:(v.cells.zipIdx.foldl (fun cs (x:Value×Nat)=>match x with|(c,j)=>cs.setIfInBounds (off+j) c) cells)=B5 v.cells.toList off cells:=by rw[←Array.foldl_toList,Array.toList_zipIdx];exact Hc _ off 0 cells
 simp only[Instr.fill,hp];rw[gT (by simp[hs];omega)];rw[←h1]
theorem Ft{α β:Type}{f:α→Option β}:∀ {l:List α} {r:List β},l.mapM f=some r→∀(i:Nat)(x:α),l[i]?=some x→∃y,f x=some y∧r[i]?=some y
 | [],r,h,i,x,hx=>by simp at hx
 |a::l,r,h,i,x,hx=>by
  simp only[List.mapM_cons,Option.bind_eq_bind,Option.pure_def]at h;cases ha:f a with
  |none=>simp[ha]at h
  |some b=>
   cases hr:l.mapM f with
   |none=>simp[ha,hr]at h
   |some r'=>
    simp[ha,hr]at h;subst h;cases i with
    |zero=>simp at hx;subst hx;exact⟨b,ha,rfl⟩
    |succ i=>obtain⟨y,h1,h2⟩:=Ft hr i x (by simpa using hx);exact⟨y,h1,by simpa using h2⟩
theorem IH:∀(as:List LA)(ls:List LA)(j:Nat),(Ec ls j as).length=ls.length
 | [],_,_=>rfl
 |b::as,ls,j=>by rw[Ec,IH as,CU]
theorem IG:∀(as:List LA)(ls:List LA)(o:Nat),o+as.length≤ls.length→∀k,(Ec ls o as)[k]?=if o≤k∧k<o+as.length then as[k-o]? else ls[k]?
 | [],ls,o,h,k=>by rw[Ec,gT (by simp)]
 |v::r,ls,o,h,k=>by
  simp only[iU]at h;rw[Ec,IG r _ (o+1) (by rw[CU];omega) k,Bf,List.getElem?_set];by_cases h1:k=o
  ·subst h1;rw[gT (by omega),gS rfl,gS (by omega),gS (by simp)];simp
  ·by_cases h2:o+1≤k∧k<o+1+r.length
   ·rw[gS h2,gS (by simp;omega)];obtain⟨j,rfl⟩:∃j,k=o+1+j:=⟨k-(o+1),by omega⟩;rw[show o+1+j-(o+1)=j by omega,show o+1+j-o=j+1 by omega];rfl
   ·rw[gT h2,gT (fun e=>h1 e.symm),gT (by simp;omega)]
section
variable {P:Program}{E:Cr}{s:St}{W:Wd}{o:Oper}{a:Act}{ws:List Wr}{cx:Cx}{v:Nat}
theorem Nd(h:AU E s a.tmps W){b:LA}{u:Value}(hu:AP s W b u)(hs:s.sure b=true):u.oneCell'=true:=by
 cases b with
 |sc l x=>exact L.Df l hu
 |CL=>rw[show u=_ from hu];rfl
 |JD=>rw[show u=_ from hu];rfl
 |D0 e x off=>obtain⟨ad,_,_,_,_,hv,_⟩:=hu;rw[hv];rfl
 |fn f=>rw[show u=_ from hu];rfl
 |ptr r j AA=>
  simp only[St.sure,gL,gV]at hs;rw[hu hs.1 hs.2];rfl
 |ref c=>
  simp only[St.sure]at hs;split at hs
  ·rename_i AA gen t e xs d TV;simp only[gL,gl,gV]at hs;obtain⟨Te,hp⟩:=hs;subst Te;have hp:c.p=[]∨gen=c.gen:=hp.imp (fun h=>by cases hq:c.p<;>simp_all[isNil]) id;obtain⟨h',e',T3,hn⟩:=hu gen _ _ _ _ TV hp;obtain⟨u',Tj,Th⟩:=(h.roots c.r).row TV;rw[T3]at Tj;injection Tj with Tj;subst Tj
   obtain⟨d',ys,o',hr,_⟩:=MS c.p Th hn;exact L.Df (.sl 0 e') hr
  ·cases hs
 |win c lo hi=>
  simp only[St.sure]at hs;split at hs
  ·rename_i AA gen t e xs d TV;simp only[gL,gl,gV]at hs;obtain⟨Te,hp⟩:=hs;subst Te;have hp:c.p=[]∨gen=c.gen:=hp.imp (fun h=>by cases hq:c.p<;>simp_all[isNil]) id;obtain⟨h',e',A,n,k,T3,hn,_,_,hv⟩:=hu gen _ _ _ _ TV hp;rw[hv];rfl
  ·cases hs
 |Bi c=>obtain⟨ad,hv⟩:=HB hu hs;rw[hv];rfl
 |_=>cases hs
theorem Kj(h:AU E s a.tmps W){g:Bool}{as:List LA}{u:Value}(hu:Ey s W g as u)(hs:(g||as.all s.sure)=true):u.cells.size=as.length∧∀(j:Nat)(b:LA),as[j]?=some b→∃y,u.cells[j]?=some y∧AP s W b y:=by
 refine Iv hu fun hg=>?_;subst hg;cases as with
 |nil=>exact hu.elim
 |cons b bs=>cases bs with
  |cons=>exact hu.elim
  |nil=>exact Ej (Nd h hu (by simpa using hs))
def IP(s:St)(W:Wd)(ls:List LA)(cells:Array Value):Prop:=cells.size=ls.length∧∀(j:Nat)(b:LA),ls[j]?=some b→∃u,cells[j]?=some u∧AP s W b u
theorem IP.CV{ls as:List LA}{cells:Array Value}{u:Value}{off:Nat}(hb:IP s W ls cells)(hl:off+as.length≤ls.length)(hu:u.cells.size=as.length∧∀(j:Nat)(b:LA),as[j]?=some b→∃y,u.cells[j]?=some y∧AP s W b y):
  IP s W (Ec ls off as) (B5 u.cells.toList off cells):=by
 refine⟨by rw[Am,IH,hb.1],fun j b hj=>?_⟩;rw[IG _ _ _ hl]at hj;rw[CR _ _ _ (by rw[hb.1];simp[hu.1];omega)];by_cases hc:off≤j∧j<off+as.length
 ·rw[gS hc]at hj;rw[gS (by simp[hu.1];omega)];obtain⟨y,hy,UD⟩:=hu.2 _ b hj;exact⟨y,by simpa using hy,UD⟩
 ·rw[gT hc]at hj;rw[gT (by simp[hu.1];omega)];exact hb.2 j b hj
theorem Jk(hc:DV P cx)(h:AU E s a.tmps W){fs:List (Nat×TypeId)}{place:Nat→Option (Nat×Nat)}(Vf:∀(i off:Nat)(t:TypeId),fs[i]?=some (off,t)→∃inf,P.info? t=some inf∧place i=some (off,inf.size)):
  ∀(parts:List (Nat×Operand)) {ls XH:List LA} {cells:Array Value},IP s W ls cells→HZ cx s fs parts ls=some XH→∃Vy,Instr.fill place cells (parts.map fun p=>(p.1,a.eval p.2))=some Vy∧IP s W XH Vy
 | [],ls,XH,cells,hb,hl=>by
  injection hl with hl;subst hl
  exact⟨cells,rfl,hb⟩
 |(i,x)::ps,ls,XH,cells,hb,hl=>by
  simp only[HZ]at hl;have h1:=A5 h x;generalize s.Aq x=p at hl h1;split at hl
  ·rename_i g as off t VR;split at hl
   ·rename_i tf Zb;split at hl
    ·rename_i Td;rw[Fu]at VR;obtain⟨inf,YM,hp⟩:=Vf i off t VR;obtain⟨inf',XC,Tt,_⟩:=(hc t tf Zb).info;rw[YM]at XC;injection XC with XC;subst XC
     rw[gL,gL,gV,gm]at Td;obtain⟨⟨hlen,V9⟩,aY⟩:=Td;have hu:=Kj h h1 aY;have Tk:=hb.CV (off:=off) (by omega) hu;obtain⟨Vy,hf,bM⟩:=Jk hc h Vf ps Tk hl;refine⟨Vy,?_,bM⟩;rw[iR,IX hp (by rw[hu.1,hlen,Tt]) (by rw[hb.1,Tt];exact V9)];exact hf
    ·cases hl
   ·cases hl
  ·cases hl
theorem Lx(l:L):AP s W (zeroOf l) (B7 l):=by
 cases l with
 |int k=>exact⟨rfl,rfl⟩
 |bool=>exact⟨rfl,rfl⟩
 |str=>exact⟨rfl,rfl⟩
 |sl t e=>exact rfl
theorem MZ(hc:DV P cx)(h:AU E s a.tmps W){t:TypeId}{parts:Array (Nat×Operand)}(ho:o.op=.build t parts)(hl:(AB cx v o s).leads ws):BZ P E o a W.w (s.app ws):=by
 simp only[AB,ho]at hl;split at hl
 ·rename_i ty ht;split at hl
  ·rename_i ls U4;rw[AM hl];split at U4
   ·rename_i VT;obtain⟨fs,VR,Xe,pl,Vf⟩:=(hc t ty ht).agg VT;obtain⟨i,hi,Tt,z,hz,WH,_⟩:=(hc t ty ht).info
    have ZG:∀(i off:Nat)(t':TypeId),ty.fs[i]?=some (off,t')→∃inf,P.info? t'=some inf∧pl.toArray[i]?=some (off,inf.size):=by
     intro i off t' hq;rw[←Xe,ga]at hq;cases hf:fs.toList[i]? with
     |none=>rw[hf]at hq;cases hq
     |some f=>
      rw[hf]at hq;simp only[iF,Option.some.injEq,Prod.mk.injEq]at hq;obtain⟨rfl,rfl⟩:=hq;obtain⟨y,h1,h2⟩:=Ft Vf i f hf;cases YM:P.info? f.type with
      |none=>rw[YM]at h1;cases h1
      |some inf=>rw[YM]at h1;injection h1 with h1;subst h1;exact⟨inf,rfl,by simpa using h2⟩
    have eY:IP s W (ty.ls.kinds.map zeroOf) z.cells:=by
     refine⟨by rw[WH];simp,fun j b hj=>?_⟩;rw[ga]at hj;cases hk:ty.ls.kinds[j]? with
     |none=>rw[hk]at hj;cases hj
     |some l=>rw[hk]at hj;injection hj with hj;subst hj;exact⟨B7 l,by rw[WH];simp[hk],Lx l⟩
    obtain⟨cells,hf,hb⟩:=Jk hc h ZG parts.toList eY U4;refine AR h (u:=.agg cells) ?_ ⟨cells,rfl,hb.1,hb.2⟩
    have Ys:P.built t (parts.map fun(i,x)=>(i,a.eval x)).toList=some cells:=by unfold Program.built;rw[hi,VR];simp only[hz,Vf];rw[iV];exact hf
    unfold execOp;simp only[ho,Sem.run_bind,run_build W.w t _ cells Ys,Result.andThen_ok];rfl
   ·cases U4
  ·exact hl.elim
 ·exact hl.elim
end
end Go.Ev
namespace Go.Ev
theorem De:∀(ls:Ls) {d:Nat} {w:World} {fz:Nat→Prop} {g:Nat→Option Value} {x:ls.D} {os:Nat→List Nat},
  (∀(j:Nat)(lv:Lv),(unpack ls x)[j]?=some lv→∃u,g j=some u∧lv.l.rd d w fz u lv.x (os j))→ls.rd d w fz g x ((List.range ls.n).flatMap os)
 | .nil,_,_,_,_,_,_,_=>by simp only[Ls.rd,Ls.n];rfl
 | .one l,_,w,fz,g,x,os,h=>by simp only[Ls.rd,Ls.n];obtain⟨u,hu,hr⟩:=h 0 ⟨l,x⟩ rfl;grind
 | .cons l ls,_,w,fz,g,x,os,h=>by simp only[Ls.rd,Ls.n];obtain⟨u,hu,hr⟩:=h 0 ⟨l,x.1⟩ rfl;have ih:=De ls (g:=fun j=>g (j+1)) (os:=fun j=>os (j+1)) fun j lv hj=>h (j+1) lv (by simpa[unpack]using hj);refine⟨u,os 0,_,hu,hr,ih,?_⟩;rw[Nat.add_comm,List.range_add,List.flatMap_append,List.flatMap_map];grind
def FE(b:LA):Option Lv:=match b with
 | .arr _ _ t e xs 2=>some ⟨.sl t e,xs⟩
 | .sc l x=>if Bp l then none else some ⟨l,x⟩
 |_=>none
section
variable {P:Program}{E:Cr}{s:St}{W:Wd}{o:Oper}{a:Act}{ws:List Wr}{cx:Cx}{v:Nat}
theorem IU{b:LA}{u:Value}{oo:List Nat}{us:List (Nat×Nat)}(ht:Iy s W v b u oo us){lv:Lv}(hb:FE b=some lv):lv.l.rd 2 W.w W.fz u lv.x oo:=by
 unfold FE at hb;split at hb
 ·injection hb with hb;subst hb
  exact ht.2.2.2.2.2
 ·split at hb
  ·cases hb
  ·rename_i l x hs;injection hb with hb;subst hb
   obtain⟨h1,h2,_⟩:=ht.2.2.2;subst h1;exact(L.AZ l (by grind) h2).1
 ·cases hb
def Av(g:Bool)(u:Value):Nat→Option Value:=fun j=>match g with
 |true=>u.cells[j]?
 |false=>if j=0 then some u else none
theorem B4{g:Bool}{as:List LA}{u:Value}(hu:Ey s W g as u)(j:Nat)(b:LA)(hj:as[j]?=some b):∃y,Av g u j=some y∧AP s W b y:=by
 cases g with
 |true=>obtain⟨cs,Ve,_,Tp⟩:=hu;obtain⟨y,hy,UD⟩:=Tp j b hj;exact⟨y,by simp only[Av,Ve];exact hy,UD⟩
 |false=>
  cases as with
  |nil=>exact hu.elim
  |cons b' bs=>cases bs with
   |cons=>exact hu.elim
   |nil=>cases j with
    |zero=>simp at hj;subst hj;exact⟨u,by simp[Av],hu⟩
    |succ j=>simp at hj
theorem Bq{g:Bool}{as:List LA}{u:Value}(hu:Ey s W g as u)(h1:∀(j:Nat)(b:LA),as[j]?=some b→∃y,Av g u j=some y∧y.oneCell'=true):u.cells.size=as.length∧∀j,j<as.length→u.cells[j]?=Av g u j:=by
 cases g with
 |true=>obtain⟨cs,Ve,Tt,_⟩:=hu;subst Ve;exact⟨Tt,fun j _=>rfl⟩
 |false=>
  cases as with
  |nil=>exact hu.elim
  |cons b' bs=>cases bs with
   |cons=>exact hu.elim
   |nil=>
    obtain⟨y,hy,UH⟩:=h1 0 b' rfl;simp[Av]at hy;subst hy;rw[Ej UH];refine⟨rfl,fun j hj=>?_⟩;have:j=0:=by simpa using hj
    subst this;simp[Av]
structure Mz(P:Program)(s:St)(W:Wd)(a:Act)(e:Ls)(ps:List (Nat×Operand))(n:Nat)(ys:List e.D)(us:List (Nat×Nat))(os:Nat→List Nat):Prop where
 len:ys.length=ps.length
 nodup:us.Nodup
 O5:∀i j,i≠j→∀b∈os i,b∉os j
 PB:∀i,(os i).Nodup
 PG:∀i,ys.length≤i→os i=[]
 OY:∀i,∀b∈os i,∃r j,(r,j)∈us∧b∈W.om (.lf r j)
 el:∀m (hm:m<ys.length),∃x,ps[m]?=some (n+m,x)∧(a.eval x).cells.size=e.n∧e.rd 2 W.w W.fz (fun j=>(a.eval x).cells[j]?) ys[m] (os m)
theorem D3{os:Nat→List Nat}(hn:∀i,(os i).Nodup)(hd:∀i j,i≠j→∀b∈os i,b∉os j):∀n,((List.range n).flatMap os).Nodup
 |0=>by simp
 |n+1=>by rw[List.range_succ,List.flatMap_append];refine gf.2 ⟨D3 hn hd n,by simpa using hn n,fun x hx y hy e=>?_⟩;grind
theorem HV(h:AU E s a.tmps W)(hv:Ac s v){e:Ls}{β:Type}{z:β}:∀(ps:List (Nat×Operand)) (n:Nat) {k:List e.D→List (Nat×Nat)→Step β},(Ch cx s v e ps n k).leads z→
  ∃ys us os,(k ys us).leads z∧Mz P s W a e ps n ys us os
 | [],n,k,hl=>⟨[],[],fun _=>[],hl,rfl,gR,(fun _ _ _ b hb=>by cases hb),fun _=>gR,fun _ _=>rfl,(fun _ b hb=>by cases hb),fun m hm=>by simp at hm⟩
 |(i,x)::ps,n,k,hl=>by
  simp only[Ch]at hl;split at hl
  ·rename_i hi;have hi:i=n:=by simpa using hi
   subst hi;have h1:=A5 h x;have VS:=Fv hv x;generalize s.Aq x=p at hl h1 VS;split at hl
   ·rename_i g as;split at hl
    ·rename_i VY;obtain⟨vs,hl,UK,W6,VF⟩:=Ek h (g:=Av g (a.eval x)) (fun j b hj=>B4 h1 j b hj) hl;split at hl
     ·rename_i y hy;obtain⟨ys,us,os,hl,Tn⟩:=HV h hv ps (i+1) hl;have Vg:=Ag e vs y hy;have bW:as.length=e.n:=by rw[←UK,←Vg,B6]
      have Tv:=Bq h1 fun j b hj=>by
       have Tc:j<vs.length:=by rw[UK];exact(gM.1 hj).1
       obtain⟨u,hu,hr⟩:=VF j vs[j] (gK Tc);exact⟨u,hu,L.Df _ hr⟩
      have Th:e.rd 0 W.w (Seen W (as.flatMap LA.roots)) (Av g (a.eval x)) y []:=Bd e fun j lv hj=>by grind
      have cL:=(Ls.AZ e VY Th (d':=2) (w':=W.w) (TZ:=W.fz)).1;refine⟨y::ys,us,fun m=>match m with|0=>[]|m+1=>os m,hl,by simp[Tn.len],Tn.nodup,?_,?_,?_,?_,?_⟩
      ·intro i j X3 b hb;cases i with
       |zero=>cases hb
       |succ i=>cases j with
        |zero=>simp
        |succ j=>exact Tn.O5 i j (fun e=>X3 (by rw[e])) b hb
      ·intro i;cases i with
       |zero=>grind
       |succ i=>exact Tn.PB i
      ·intro i hi;cases i with
       |zero=>simp at hi
       |succ i=>exact Tn.PG i (by grind)
      ·intro i b hb;cases i with
       |zero=>cases hb
       |succ i=>exact Tn.OY i b hb
      ·intro m hm;cases m with
       |zero=>exact⟨x,rfl,by omega,Ls.BD e cL fun j hj=>Tv.2 j (by omega)⟩
       |succ m=>
        obtain⟨x',h1,h2,h3⟩:=Tn.el m (by simpa using hm);grind
     ·exact hl.elim
    ·obtain⟨bs,vs,os0,hl,VI,W8,cX,_,Zx,hbig0,VV⟩:=Eb (v:=v) h (g:=Av g (a.eval x)) (fun j b hj=>⟨fun TW=>VS (gN.2 ⟨b,gP hj,TW⟩),B4 h1 j b hj⟩) hl;split at hl
     ·rename_i lvs V6;have V6:bs.mapM FE=some lvs:=V6;split at hl
      ·rename_i y hy;obtain⟨ys,us,os,hl,Tn⟩:=HV h hv ps (i+1) hl;split at hl
       ·rename_i UN
        have Wn:∀x∈vs,x∉us:=by intro x hx ZO;have:=gY.1 UN x hx;simp at this;exact this ZO
        have Vg:=Ag e lvs y hy
        have hlen:lvs.length=bs.length:=by
         have:∀ {l:List LA} {r:List Lv},l.mapM FE=some r→r.length=l.length:=by
          intro l
          induction l with
          |nil=>grind
          |cons b l ih=>
           intro r hr;simp only[List.mapM_cons,Option.bind_eq_bind,Option.pure_def]at hr;cases hb:FE b with
           |none=>grind
           |some c=>
            cases UI:l.mapM FE with
            |none=>grind
            |some r'=>grind
         exact this V6
        have bW:as.length=e.n:=by rw[←VI,←hlen,←Vg,B6]
        have Tv:=Bq h1 fun j b hj=>by
         have Tc:j<bs.length:=by rw[VI];exact(gM.1 hj).1
         obtain⟨u,hu,hr⟩:=VV j bs[j] (gK Tc);exact⟨u,hu,hr.1⟩
        have Th:e.rd 2 W.w W.fz (Av g (a.eval x)) y ((List.range e.n).flatMap os0):=De e fun j lv hj=>by
         rw[Vg]at hj;have Tc:j<bs.length:=by rw[←hlen];exact(gM.1 hj).1
         obtain⟨y',Vq,WG⟩:=Ft V6 j bs[j] (gK Tc);rw[hj]at WG;injection WG with WG;subst WG
         obtain⟨u,hu,ht⟩:=VV j bs[j] (gK Tc);exact⟨u,hu,IU ht Vq⟩
        have aG:∀j,(os0 j).Nodup:=by
         intro j;by_cases hj:j<bs.length
         ·obtain⟨u,_,ht⟩:=VV j bs[j] (gK hj);exact ht.2.1
         ·grind
        have Y3:∀b∈(List.range e.n).flatMap os0,∃r j,(r,j)∈vs∧b∈W.om (.lf r j):=by
         intro b hb;obtain⟨j,hj,hb⟩:=gN.1 hb;have hj:j<bs.length:=by rw[VI,bW];exact gZ.1 hj
         obtain⟨u,_,ht⟩:=VV j bs[j] (gK hj);exact ht.2.2.1 b hb
        have V1:∀i,∀b∈(List.range e.n).flatMap os0,b∉os i:=by
         intro i b hb Tk;obtain⟨r,j,hm,h1⟩:=Y3 b hb;obtain⟨r',j',U5,VC⟩:=Tn.OY i b Tk;by_cases he:(r,j)=(r',j')
         ·grind
         ·exact h.sep.Ar (.lf r j) (.lf r' j') (fun e=>he (by grind)) b h1 VC
        refine⟨y::ys,vs++us,fun m=>match m with|0=>(List.range e.n).flatMap os0|m+1=>os m,hl,by simp[Tn.len],?_,?_,?_,?_,?_,?_⟩
        ·exact gf.2 ⟨cX,Tn.nodup,fun x hx y hy e=>Wn x hx (e▸hy)⟩
        ·intro i j X3 b hb;cases i with
         |zero=>grind
         |succ i=>cases j with
          |zero=>grind
          |succ j=>exact Tn.O5 i j (fun e=>X3 (by rw[e])) b hb
        ·intro i;cases i with
         |zero=>exact D3 aG Zx e.n
         |succ i=>exact Tn.PB i
        ·intro i hi;cases i with
         |zero=>simp at hi
         |succ i=>exact Tn.PG i (by grind)
        ·intro i b hb;cases i with
         |zero=>grind
         |succ i=>obtain⟨r,j,hm,h1⟩:=Tn.OY i b hb;grind
        ·intro m hm;cases m with
         |zero=>exact⟨x,rfl,by omega,Ls.BD e Th fun j hj=>Tv.2 j (by omega)⟩
         |succ m=>
          obtain⟨x',h1,h2,h3⟩:=Tn.el m (by simpa using hm);grind
       ·exact hl.elim
      ·exact hl.elim
     ·exact hl.elim
   ·exact hl.elim
  ·exact hl.elim
theorem FF{e:Ls}(f:Operand→Value):∀(ps:List (Nat×Operand)) (n:Nat) (arr:Array Value),(∀m x i,ps[m]?=some (i,x)→i=n+m∧(f x).cells.size=e.n)→(n+ps.length)*e.n≤arr.size→
  ∃Un,Instr.fill (fun i=>some (i*e.n,e.n)) arr (ps.map fun p=>(p.1,f p.2))=some Un∧Un.size=arr.size∧(∀k,k<n*e.n→Un[k]?=arr[k]?)∧∀m i x,ps[m]?=some (i,x)→∀j,j<e.n→Un[(n+m)*e.n+j]?=(f x).cells[j]?
 | [],n,arr,h,hs=>⟨arr,rfl,rfl,fun _ _=>rfl,fun m i x hm=>by simp at hm⟩
 |(i,x)::ps,n,arr,h,hs=>by
  obtain⟨hi,Tt⟩:=h 0 x i rfl;simp only[iA]at hi;subst hi;have X7:(i+(ps.length+1))*e.n≤arr.size:=by simpa using hs
  have T5:i*e.n+e.n≤arr.size:=by have h2:(i+1)*e.n≤(i+(ps.length+1))*e.n:=gy _ (by omega);rw[gw,ie]at h2;omega
  have Tp:=CR (f x).cells.toList (i*e.n) arr (by grind)
  obtain⟨Un,hf,UM,hlow,Tr⟩:=FF f ps (i+1) (B5 (f x).cells.toList (i*e.n) arr) (fun m y j hm=>by
   obtain⟨h1,h2⟩:=h (m+1) y j (by grind);exact⟨by omega,h2⟩) (by rw[Am,show i+1+ps.length=i+(ps.length+1) by omega];exact X7)
  refine⟨Un,?_,by rw[UM,Am],?_,?_⟩
  ·rw[iR,IX (off:=i*e.n) (size:=e.n) rfl Tt T5];exact hf
  ·grind
  ·intro m j y hm q hq;cases m with
   |zero=>
    grind
   |succ m=>
    grind
theorem EX{P:Program}{w:World}{t t0:TypeId}{i:TypeInfo}{z:Value}{len:Nat}{parts:Array (Nat×Value)}{arr:Array Value}(ht:P.underlying t=some (.slice t0))(hi:P.info? t0=some i)(hz:i.zero=some z)
  (hlen:len*i.size≤16777216) (hf:Instr.fill (fun j=>some (j*i.size,i.size)) (madeCells z.cells (len*i.size)) parts.toList=some arr):
  (Instr.buildSlice t len parts).run P w=.ok (.slice (some ⟨w.heap.size,0,none⟩) len len) (w.alloc (.cells arr t0)):=by
 have n1:¬(16777216<len*i.size):=by omega
 by_cases hn:len*i.size=0
 ·rw[hn]at hf;have h0:madeCells z.cells 0 = #[]:=by simp[madeCells]
  rw[h0]at hf;simp[Instr.buildSlice,run_underlying ht,sizeOf,typeInfo,hi,n1,hn,hf,newRow,Array.range_zero']
 ·unfold madeCells at hf;simp[Instr.buildSlice,run_underlying ht,sizeOf,typeInfo,zeroValue,hi,hz,n1,hn,hf,newRow]
end
end Go.Ev
namespace Go.Ev
theorem JN{s:St}{r:Nat}(h:(s.root r).box=true):r<s.ro.length:=by
 rcases hQ r s.ro.length with Tc|US
 ·exact Tc
 ·have:s.root r=dead:=A3 _ US;rw[this]at h;cases h
theorem G2{s:St}{r j AA gen:Nat}{t:TypeId}{e:Ls}{xs:List e.D}{d:Nat}(h:s.leaf r j=.arr AA gen t e xs d):r<s.ro.length∧j<(s.root r).ls.length:=by
 constructor
 ·rcases hQ r s.ro.length with Tc|US
  ·exact Tc
  ·have:s.root r=dead:=A3 _ US;unfold St.leaf at h;rw[this]at h;cases j<;>cases h
 ·rcases hQ j (s.root r).ls.length with Tc|US
  ·exact Tc
  ·unfold St.leaf at h;rw[A3 _ US]at h;cases h
theorem D1(r:Nat):∀(bs:List LA)(j:Nat)(s:St),(bs=[]∨r<s.ro.length)→j+bs.length≤(s.root r).ls.length→JY s (s.app (BA r j bs))∧
  ∀r' j',(s.app (BA r j bs)).leaf r' j'=if r'=r∧j≤j'∧j'<j+bs.length then nth .bad bs (j'-j)else s.leaf r' j'
 | [],j,s,hr,hj=>⟨⟨rfl,rfl,fun _=>⟨rfl,rfl,rfl⟩⟩,fun r' j'=>by rw[gT (by simp)];rfl⟩
 |b::bs,j,s,hr,hj=>by
  simp only[iU]at hj;have hr:r<s.ro.length:=hr.resolve_left (by simp);have h1:=BF s r j b;obtain⟨h2,h3⟩:=D1 r bs (j+1) (s.AF (.leaf r j b)) (by rw[h1.len];exact .inr hr) (by rw[(h1.box r).2.2];omega);refine⟨⟨h2.sl.trans h1.sl,h2.len.trans h1.len,fun x=>⟨(h2.box x).1.trans (h1.box x).1,(h2.box x).2.1.trans (h1.box x).2.1,(h2.box x).2.2.trans (h1.box x).2.2⟩⟩,fun r' j'=>?_⟩;show((s.AF (.leaf r j b)).app (BA r (j+1) bs)).leaf r' j'=_;rw[h3,ET];by_cases Wk:r'=r
  ·subst Wk;by_cases a7:j'=j
   ·subst a7;rw[gT (by omega),gS ⟨rfl,rfl,hr,by omega⟩,gS ⟨rfl,by omega,by simp⟩];simp[nth]
   ·by_cases TW:j+1≤j'∧j'<j+1+bs.length
    ·rw[gS ⟨rfl,TW⟩,gS ⟨rfl,by omega,by simp;omega⟩];obtain⟨k,rfl⟩:∃k,j'=j+1+k:=⟨j'-(j+1),by omega⟩;rw[show j+1+k-(j+1)=k by omega,show j+1+k-j=k+1 by omega];rfl
    ·rw[gT (fun hh=>TW hh.2),gT (fun hh=>a7 hh.2.1.symm),gT (fun hh=>TW (by simp at hh;omega))]
  grind
section
variable {P:Program}{E:Cr}{s:St}{W:Wd}{o:Oper}{a:Act}{ws:List Wr}{cx:Cx}{v:Nat}{tm:Array Value}
theorem LA.Dq(hv:Ac s v)(r j:Nat):(s.leaf r j).CH=true∨v∉(s.leaf r j).AG:=hv.2.1 r j
theorem AU.KF(h:AU E s tm W)(hv:Ac s v){r j:Nat}(UB:(s.root r).box=true){us:List (Nat×Nat)}{bs:List LA}{os:Nat→List Nat}{cells:List Value}(hlen:cells.length=bs.length)(T5:j+bs.length≤(s.root r).ls.length)
  (VV:∀(i:Nat)(b:LA),bs[i]?=some b→∃u,cells[i]?=some u∧Iy s W v b u (os i) us) (UT:∀i j,i≠j→∀b∈os i,b∉os j) (Vh:∀i,bs.length≤i→os i=[])
  {arr:Array Value} {T:TypeId} {fr:Nat×Nat} (YG:W.w.heap[W.bk r]?=some (.cells arr T fr)) {w':World} (Tm:M4 W.w w' (W.bk r) (B5 cells j arr) T fr):
  ∃W',W'.w=w'∧AU E (s.app (gone us++BA r j bs)) tm W':=by
 have hr:r<s.ro.length:=JN UB;obtain⟨_,Vt⟩:=h.roots r;rw[gS UB]at Vt;obtain⟨WA,arr0,T0,fr0,hh,Tl,Tt,T3⟩:=Vt;rw[YG]at hh;injection hh with hh;injection hh with e1 e2 e3;subst e1;subst e2;subst e3
 have Tp:=CR cells j arr (by omega)
 have Ug:∀b,(W.fz b∨∃k,k≠.AS r∧b∈W.om k)→b≠W.bk r:=by
  rintro b hb rfl
  have h0:W.bk r∈W.om (.AS r):=by rw[WA];simp
  rcases hb with hb|⟨k,hk,hb⟩
  ·exact(h.sep.own _ _ h0).1 hb
  ·exact h.sep.Ar k _ hk _ hb h0
 have hw:∀b,(W.fz b∨∃k,k≠.AS r∧b∈W.om k)→w'.heap[b]?=W.w.heap[b]?:=fun b hb=>Tm.CG b (Ug b hb);obtain⟨Uk,Xl⟩:=Dm s us;rw[BC];generalize WL:s.app (gone us)=s1 at Uk Xl;obtain⟨UA,T9⟩:=D1 r bs j s1 (by rw[Uk.len];exact .inr hr) (by rw[(Uk.box r).2.2];exact T5);generalize Wb:s1.app (BA r j bs)=s' at UA T9;have VE:s'.sl=s.sl:=UA.sl.trans Uk.sl
 have XZ:∀r,(s'.root r).box=(s.root r).box∧(s'.root r).AA=(s.root r).AA∧(s'.root r).ls.length=(s.root r).ls.length:=fun r=>
  ⟨(UA.box r).1.trans (Uk.box r).1,(UA.box r).2.1.trans (Uk.box r).2.1,(UA.box r).2.2.trans (Uk.box r).2.2⟩
 have TV:∀r' j',s'.leaf r' j'=if r'=r∧j≤j'∧j'<j+bs.length then nth .bad bs (j'-j)else if(r',j')∈us then .bad else s.leaf r' j':=fun r' j'=>by grind
 have cO:s'.ro.length=s.ro.length:=UA.len.trans Uk.len;clear Xl T9 Uk WL Wb
 let W':Wd:={
  w:=w'
  fz:=W.fz
  cv:=fun r' j'=>if r'=r then(B5 cells j arr)[j']? else W.cv r' j'
  bk:=W.bk
  om:=fun k=>match k with
   | .lf r' j'=>if r'=r∧j≤j'∧j'<j+bs.length then os (j'-j)else if(r',j')∈us then []else W.om (.lf r' j')
   |k=>W.om k }
 have Uc:∀i,∀b∈os i,∃r' j',(r',j')∈us∧b∈W.om (.lf r' j'):=by
  intro i b hb;by_cases hi:i<bs.length
  ·obtain⟨u,_,ht⟩:=VV i bs[i] (gK hi);exact ht.2.2.1 b hb
  ·grind
 have WV:∀i,i<bs.length→∃u,cells[i]?=some u∧Iy s W v (nth .bad bs i) u (os i) us:=by intro i hi;have:=VV i bs[i] (gK hi);rw[Af,gK hi];exact this
 have Wp:∀r' j',¬(r'=r∧j≤j'∧j'<j+bs.length)→W'.cv r' j'=W.cv r' j':=by
  intro r' j' hn;by_cases Wk:r'=r
  ·grind
  ·grind
 have T1:EE v s s' W W':={
  fz:=fun b hb=>hb
  LQ:=fun b hb=>hw b (.inl hb)
  leaf:=by
   intro r' j' AA gen t e xs d hl Tf;rw[TV]at hl;by_cases TW:r'=r∧j≤j'∧j'<j+bs.length
   ·rw[gS TW]at hl;obtain⟨u,_,ht⟩:=WV (j'-j) (by omega);rw[hl]at ht;exact absurd ht.2.2.2.1 Tf
   ·rw[gT TW]at hl;by_cases hm:(r',j')∈us
    ·grind
    ·rw[gT hm]at hl;refine⟨Wp r' j' TW,gen,t,xs,d,hl,fun _=>⟨rfl,fun p h' e' u' hc hn=>?_⟩⟩;obtain⟨u0,UW,Th⟩:=(h.roots r').row hl;rw[hc]at UW;injection UW with UW;subst UW
     exact BI p Th hn fun b hb=>hw b (hb.elim (fun hb=>.inr ⟨.lf r' j',by simp,hb⟩) .inl)
  box:=fun r' hb Tf=>⟨(XZ r').1▸hb,(XZ r').2.1.symm,rfl⟩ }
 have VB:Sep E W':=by
  refine h.sep.H0 (fun k=>∃r' j',k=.lf r' j'∧((r',j')∈us∨(r'=r∧j≤j'∧j'<j+bs.length))) rfl (by show _≤w'.heap.size;rw[Tm.size];omega) ?_ Tm.rest ?_ ?_ ?_ ?_
  ·intro b hb Wh;refine Tm.CG b ?_
   rintro rfl
   have h0:W.bk r∈W.om (.AS r):=by rw[WA];simp
   rcases(h.sep.own _ _ h0).2.2 with h2|h2
   all_goals grind
  ·grind
  ·rintro k ⟨r',j',rfl,hk⟩
   show(if r'=r∧j≤j'∧j'<j+bs.length then os (j'-j)else if(r',j')∈us then []else W.om (.lf r' j')).Nodup;by_cases TW:r'=r∧j≤j'∧j'<j+bs.length
   ·rw[gS TW];obtain⟨u,_,ht⟩:=WV (j'-j) (by omega);exact ht.2.1
   grind
  ·rintro k k' ⟨r',j',rfl,hk⟩ ⟨r2,j2,rfl,Z6⟩ Tf b hb Tk
   have hb:b∈(if r'=r∧j≤j'∧j'<j+bs.length then os (j'-j)else if(r',j')∈us then []else W.om (.lf r' j')):=hb;have Tk:b∈(if r2=r∧j≤j2∧j2<j+bs.length then os (j2-j)else if(r2,j2)∈us then []else W.om (.lf r2 j2)):=Tk;by_cases TW:r'=r∧j≤j'∧j'<j+bs.length
   ·rw[gS TW]at hb;by_cases YL:r2=r∧j≤j2∧j2<j+bs.length
    ·rw[gS YL]at Tk;exact UT (j'-j) (j2-j) (fun e=>Tf (by rw[TW.1,YL.1,show j'=j2 by omega])) b hb Tk
    ·rw[gT YL,gS (Z6.resolve_right YL)]at Tk;cases Tk
   grind
  ·grind
 refine⟨W',rfl,h.H0 hv T1 VB (by rw[VE,h.DG]) ?_ (fun t=>.inl ⟨by show nth _ s'.sl t=_;rw[VE];rfl,rfl⟩) ?_⟩
 ·rw[cO,h.BW]
 ·intro r';obtain⟨h1,h2⟩:=h.roots r';refine⟨fun j'=>?_,?_⟩
  ·show Aa s' W' (s'.leaf r' j') (W'.cv r' j') (W'.om (.lf r' j'));have cC:W'.om (.lf r' j')=if r'=r∧j≤j'∧j'<j+bs.length then os (j'-j)else if(r',j')∈us then []else W.om (.lf r' j'):=rfl
   rw[TV,cC];by_cases TW:r'=r∧j≤j'∧j'<j+bs.length
   ·rw[gS TW,gS TW];obtain⟨u,hu,ht⟩:=WV (j'-j) (by omega)
    have bS:W'.cv r' j'=some u:=by show(if r'=r then _ else _)=_;grind
    rw[bS];obtain⟨_,_,_,ht⟩:=ht;generalize nth LA.bad bs (j'-j)=b at ht;unfold Aa;cases b with
    |arr AA gen t e xs dd=>
     obtain⟨_,_,hr⟩:=ht;refine⟨u,rfl,hr.frame (fun b hb=>hw b ?_) fun b hb=>hb⟩;grind
    |_=>exact⟨ht.1,fun u' Tj=>by injection Tj with Tj;subst Tj;exact AP.DF T1 ht.2.2 ht.2.1⟩
   ·rw[gT TW,gT TW,Wp r' j' TW];by_cases hm:(r',j')∈us
    ·rw[gS hm,gS hm];exact⟨rfl,fun _ _=>trivial⟩
    ·rw[gT hm,gT hm];exact Aa.DF T1 (LA.Dq hv r' j') (fun b hb=>hw b (.inr ⟨.lf r' j',by simp,hb⟩)) (h1 j')
  ·rw[(XZ r').1];split
   ·rename_i hb;rw[gS hb]at h2;obtain⟨VN,Un,T',YB,Wf,a1,a2,a3⟩:=h2;by_cases Wk:r'=r
    ·subst Wk;rw[YG]at Wf;injection Wf with Wf;injection Wf with e1 e2 e3;subst e1;subst e2;subst e3
     exact⟨VN,_,_,_,Tm.here,by rw[Am];exact a1,by rw[Am,(XZ r').2.2];exact a2,fun j'=>gS rfl⟩
    ·refine⟨VN,Un,T',YB,(hw (W.bk r') (.inr ⟨.AS r',by simpa using Wk,by rw[VN];simp⟩)).trans Wf,a1,by rw[(XZ r').2.2];exact a2,fun j'=>?_⟩;rw[←a3 j'];exact gT Wk
   grind
theorem AU.JL(h:AU E s tm W)(hv:Ac s v){r j AA gen:Nat}{t:TypeId}{e:Ls}{xs UJ:List e.D}{d:Nat}(hl:s.leaf r j=.arr AA gen t e xs d){u:Value}(T3:W.cv r j=some u){w':World}
  (Th:AD e d w' W.fz u UJ (W.om (.lf r j))) (hw:∀b,b∉W.om (.lf r j)→w'.heap[b]?=W.w.heap[b]?) (Tt:w'.heap.size=W.w.heap.size) (Tn:w'.os=W.w.os∧w'.tape=W.w.tape∧w'.output=W.w.output):
  AU E (s.app [.leaf r j (.arr AA v t e UJ d)]) tm { W with w:=w' }:=by
 obtain⟨hr,hj⟩:=G2 hl;show AU E (s.AF (.leaf r j (.arr AA v t e UJ d))) tm _;have Ta:=BF s r j (.arr AA v t e UJ d);have TV:=ET s r j (.arr AA v t e UJ d);generalize s.AF (.leaf r j (.arr AA v t e UJ d))=s' at Ta TV;have Uu:∀b,W.fz b→w'.heap[b]?=W.w.heap[b]?:=fun b hb=>hw b fun TW=>(h.sep.own _ b TW).1 hb;have Wz:∀k,k≠.lf r j→∀b∈W.om k,w'.heap[b]?=W.w.heap[b]?:=fun k hk b hb=>hw b fun TW=>h.sep.Ar k _ hk b hb TW
 have T1:EE v s s' W { W with w:=w' }:={
  fz:=fun b hb=>hb
  LQ:=Uu
  leaf:=by
   intro r' j' X0 Uo t' e' ys d' Ue Tf;rw[TV]at Ue;by_cases TW:r=r'∧j=j'
   ·grind
   ·rw[gT (fun hh=>TW ⟨hh.1,hh.2.1⟩)]at Ue;refine⟨rfl,Uo,t',ys,d',Ue,fun _=>⟨rfl,fun p h' e2 u' hc hn=>?_⟩⟩;obtain⟨u0,UW,ZJ⟩:=(h.roots r').row Ue;rw[hc]at UW;injection UW with UW;subst UW
    exact BI p ZJ hn fun b hb=>hb.elim (fun hb=>Wz _ (by grind) b hb) (Uu b)
  box:=fun r' hb Tf=>⟨(Ta.box r').1▸hb,(Ta.box r').2.1.symm,rfl⟩ }
 have VB:Sep E { W with w:=w' }:={
  nodup:=h.sep.nodup
  Ar:=h.sep.Ar
  own:=fun k b hb=>by obtain⟨a,c,d⟩:=h.sep.own k b hb;grind
  fz:=fun b hb=>by obtain⟨a,c⟩:=h.sep.fz b hb;grind
  frame:=fun b h1 h2=>(hw b fun TW=>by
   rcases(h.sep.own _ b TW).2.2 with h3|h3
   all_goals grind).trans (h.sep.frame b h1 h2)
  size:=by show _≤w'.heap.size;rw[Tt];exact h.sep.size
  rest:=⟨Tn.1.trans h.sep.rest.1,Tn.2.1.trans h.sep.rest.2.1,Tn.2.2.trans h.sep.rest.2.2⟩ }
 refine h.H0 hv T1 VB (by rw[Ta.sl,h.DG]) (by rw[Ta.len,h.BW]) (fun t=>.inl ⟨by show nth _ s'.sl t=_;rw[Ta.sl];rfl,rfl⟩) ?_;intro r';obtain⟨h1,h2⟩:=h.roots r';refine⟨fun j'=>?_,?_⟩
 ·show Aa s' _ (s'.leaf r' j') (W.cv r' j') (W.om (.lf r' j'));rw[TV];by_cases TW:r=r'∧j=j'
  ·obtain⟨rfl,rfl⟩:=TW;rw[gS ⟨rfl,rfl,hr,hj⟩];exact⟨u,T3,Th⟩
  ·rw[gT (fun hh=>TW ⟨hh.1,hh.2.1⟩)];exact Aa.DF T1 (LA.Dq hv r' j') (Wz _ (by grind)) (h1 j')
 ·rw[(Ta.box r').1];split
  ·rename_i hb;rw[gS hb]at h2;obtain⟨VN,Un,T',YB,Wf,a1,a2,a3⟩:=h2;exact⟨VN,Un,T',YB,(Wz (.AS r') (by simp) _ (by rw[VN];simp)).trans Wf,a1,by rw[(Ta.box r').2.2];exact a2,a3⟩
  grind
end
end Go.Ev
namespace Go.Ev
def Plain(w:World)(fz:Nat→Prop)(vs:List Lv)(cells:List Value):Prop:=
 cells.length=vs.length∧∀(m:Nat)(lv:Lv),vs[m]?=some lv→Bp lv.l=false∧∃u,cells[m]?=some u∧∀d w' TZ,lv.l.rd d w' TZ u lv.x []
theorem DU{w:World}{fz:Nat→Prop}:∀(e:Ls)(off:Nat)(vs:List Lv)(cells:List Value) {f:e.D→e.D} {d:Nat} {g g':Nat→Option Value} {x:e.D} {o:List Nat},Br e off vs=some f→Plain w fz vs cells→
  e.rd d w fz g x o→(∀m,m<e.n→g' m=if off≤m∧m<off+vs.length then cells[m-off]? else g m)→off+vs.length≤e.n∧e.rd d w fz g' (f x) o
 | .nil,off,vs,cells,f,d,g,g',x,o,hf,hp,hr,hg=>by simp[Br]at hf
 | .one l,off,vs,cells,f,d,g,g',x,o,hf,hp,hr,hg=>by
  simp only[Br]at hf;split at hf
  ·rename_i v;split at hf
   ·rename_i y hy;injection hf with hf;subst hf
    obtain⟨l',z⟩:=v;obtain⟨e1,e2⟩:=L.AH hy;dsimp only at e1;subst e1;have e2:z=y:=e2;subst e2;obtain⟨XP,u,hu,Tj⟩:=hp.2 0 ⟨l',z⟩ rfl;simp only[Ls.rd]at hr ⊢;obtain⟨v0,XG,hr⟩:=hr;have ho:=(L.AZ l' XP hr (d':=d) (w':=w) (TZ:=fz)).2;subst ho;refine⟨by simp[Ls.n],u,?_,Tj _ _ _⟩;rw[hg 0 (by simp[Ls.n]),gS (by simp),←hu]
   ·cases hf
  ·cases hf
 | .cons l ls,off,vs,cells,f,d,g,g',x,o,hf,hp,hr,hg=>by
  simp only[Br]at hf;simp only[Ls.rd]at hr ⊢;obtain⟨v0,o1,o2,XG,h1,h2,rfl⟩:=hr;cases off with
  |zero=>
   simp only at hf;split at hf
   ·cases hf
   ·rename_i v;split at hf
    ·rename_i y hy;injection hf with hf;subst hf
     obtain⟨l',z⟩:=v;obtain⟨e1,e2⟩:=L.AH hy;dsimp only at e1;subst e1;have e2:z=y:=e2;subst e2;obtain⟨XP,u,hu,Tj⟩:=hp.2 0 ⟨l',z⟩ rfl;have ho:=(L.AZ l' XP h1 (d':=d) (w':=w) (TZ:=fz)).2;subst ho;refine⟨by simp[Ls.n]<;>omega,u,[],o2,?_,Tj _ _ _,?_,rfl⟩
     ·rw[hg 0 (by simp[Ls.n]<;>omega),gS (by simp),←hu]
     ·exact Ls.BD ls h2 fun j hj=>by rw[hg (j+1) (by simp[Ls.n]<;>omega),gT (by simp)]
    ·cases hf
   ·rename_i v u0 WI;split at hf
    ·rename_i y f' hy We;injection hf with hf;subst hf
     obtain⟨l',z⟩:=v;obtain⟨e1,e2⟩:=L.AH hy;dsimp only at e1;subst e1;have e2:z=y:=e2;subst e2;obtain⟨XP,u,hu,Tj⟩:=hp.2 0 ⟨l',z⟩ rfl;have ho:=(L.AZ l' XP h1 (d':=d) (w':=w) (TZ:=fz)).2;subst ho
     obtain⟨c0,cs,rfl⟩:∃c0 cs,cells=c0::cs:=by
      cases cells with
      |nil=>grind
      |cons c cs=>grind
     obtain⟨ih1,ih2⟩:=DU ls 0 (u0::WI) cs (g':=fun j=>g' (j+1)) We ⟨by have:=hp.1;grind,fun m lv hm=>by
      have:=hp.2 (m+1) lv (by simpa using hm);grind⟩ h2 (fun m hm=>by
       rw[hg (m+1) (by simp[Ls.n]<;>omega)];grind)
     refine⟨by simp[Ls.n]at ih1 ⊢ <;> omega,u,[],o2,?_,Tj _ _ _,ih2,rfl⟩;rw[hg 0 (by simp[Ls.n]<;>omega),gS (by simp),←hu]
    ·cases hf
  |succ off=>
   simp only at hf;split at hf
   ·rename_i f' We;injection hf with hf;subst hf
    obtain⟨ih1,ih2⟩:=DU ls off vs cells (g':=fun j=>g' (j+1)) We hp h2 (fun m hm=>by
     rw[hg (m+1) (by simp[Ls.n]<;>omega)];grind)
    refine⟨by simp[Ls.n]<;>omega,v0,o1,o2,?_,h1,ih2,rfl⟩;rw[hg 0 (by simp[Ls.n]<;>omega),gT (by omega)];exact XG
   ·cases hf
theorem J1{w:World}{fz:Nat→Prop}:∀(e:Ls)(j:Nat) {G:(t:TypeId)→(f:Ls)→Option (List f.D→List f.D)} {hh:e.D→e.D} {g:Nat→Option Value} {x:e.D} {o:List Nat} {t:TypeId} {f:Ls} {h':Value},CI e j G=some hh→
  e.kinds[j]?=some (.sl t f)→e.rd 2 w fz g x o→g j=some h'→∃(fn:List f.D→List f.D) (ys:List f.D) (o':List Nat),G t f=some fn∧AD f 2 w fz h' ys o'∧(∀b∈o',b∈o)∧(o.Nodup→o'.Nodup)∧
   ∀w',AD f 2 w' fz h' (fn ys) o'→(∀b,b∈o∨fz b→b∉o'→w'.heap[b]?=w.heap[b]?)→(∀b,fz b→b∉o')→o.Nodup→e.rd 2 w' fz g (hh x) o
 | .nil,j,G,hh,g,x,o,t,f,h',hm,hk,hr,hg=>by simp[CI]at hm
 | .one l,j,G,hh,g,x,o,t,f,h',hm,hk,hr,hg=>by
  simp only[CI]at hm;simp only[Ls.rd]at hr;obtain⟨v,hv,hr⟩:=hr;cases j with
  |succ j=>cases hm
  |zero=>
   simp[Ls.kinds]at hk;subst hk;rw[hg]at hv;injection hv with hv;subst hv
   refine⟨hh,x,o,hm,hr,fun b hb=>hb,id,fun w' UI _ _ _=>?_⟩;simp only[Ls.rd];exact⟨h',hg,UI⟩
 | .cons l ls,j,G,hh,g,x,o,t,f,h',hm,hk,hr,hg=>by
  simp only[CI]at hm;simp only[Ls.rd]at hr;obtain⟨v,o1,o2,hv,h1,h2,rfl⟩:=hr;cases j with
  |zero=>
   simp[Ls.kinds]at hk;subst hk;rw[hg]at hv;injection hv with hv;subst hv
   simp only at hm;split at hm
   ·rename_i fn V2;injection hm with hm;subst hm
    refine⟨fn,x.1,o1,V2,h1,fun b hb=>gX _ hb,fun hn=>(gf.1 hn).1,fun w' UI hf hz hn=>?_⟩;simp only[Ls.rd];refine⟨h',o1,o2,hg,UI,Ls.AI ls h2 (fun b hb=>hf b (hb.imp (gU _) id) ?_) (fun b hb=>hb),rfl⟩;grind
   ·cases hm
  |succ j=>
   simp only at hm;split at hm
   ·rename_i Vs Wf;injection hm with hm;subst hm
    obtain⟨fn,ys,o',a1,a2,a3,a4,a5⟩:=J1 ls j Wf (by simpa[Ls.kinds]using hk) h2 (show(fun j=>g (j+1)) j=_ from hg);refine⟨fn,ys,o',a1,a2,fun b hb=>gU _ (a3 b hb),fun hn=>a4 (gf.1 hn).2.1,fun w' UI hf hz hn=>?_⟩;simp only[Ls.rd];refine⟨v,o1,o2,hv,L.AI l h1 (fun b hb=>hf b (hb.imp (gX _) id) ?_) (fun b hb=>hb),a5 w' UI (fun b hb XD=>hf b (hb.imp (gU _) id) XD) hz (gf.1 hn).2.1,rfl⟩;grind
   ·cases hm
theorem E3:∀(e:Ls),(∀l∈e.kinds,Bp l=false)→Bo e=true
 | .nil,_=>rfl
 | .one l,h=>by simp[Bo,h l (by simp[Ls.kinds])]
 | .cons l ls,h=>by simp[Bo,h l (by simp[Ls.kinds]),E3 ls fun l hl=>h l (by simp[Ls.kinds,hl])]
theorem FM{α:Type}(xs:List α)(i:Nat)(f:α→α)(m:Nat)(hm:m<(xs.modify i f).length):(xs.modify i f)[m]=if i=m then f (xs[m]'(by grind))else xs[m]'(by grind):=by grind
theorem G6{e:Ls}{d:Nat}{w:World}{fz:Nat→Prop}{a:Addr}{n k:Nat}{xs:List e.D}{o:List Nat}(hr:AD e d w fz (.slice (some a) n k) xs o)(hd:0<d)(hn:o.Nodup)(hz:∀b∈o,¬fz b){i:Nat}(hi:i<n)
  {off:Nat} {cells:List Value} {F:e.D→e.D} (T5:off+cells.length≤e.n)
  (hF:∀g g' x oo,e.rd (dec d) w fz g x oo→(∀m,m<e.n→g' m=if off≤m∧m<off+cells.length then cells[m-off]? else g m)→e.rd (dec d) w fz g' (F x) oo):
  a.spot=none∧∃arr T fr,w.heap[a.block]?=some (.cells arr T fr)∧(∀j,j<arr.size→¬(fr.1≤j∧j<fr.2))∧a.off+(i*e.n+off)+cells.length≤arr.size∧a.block∈o∧
   ∀w',M4 w w' a.block (B5 cells (a.off+(i*e.n+off)) arr) T fr→AD e d w' fz (.slice (some a) n k) (xs.modify i F) o:=by
 obtain⟨A,c,hv,hc,_,T8⟩:=hr.KK;injection hv with hA hl hk
 subst hA;subst hl;subst hk;obtain⟨arr,T,fr,os,hs,hh,Tt,Tl,Tr,ho,_⟩:=T8 a rfl (.inr hd);have ho:=ho hd;have Tl:=Tl hd
 have hmul:i*e.n+e.n≤k*e.n:=by have:(i+1)*e.n≤k*e.n:=gy _ (by omega);rw[gw,ie]at this;omega
 have VU:a.off+(i*e.n+off)+cells.length≤arr.size:=by omega
 refine⟨hs,arr,T,fr,hh,Tl,VU,by rw[ho];simp,fun w' Tm=>?_⟩;have Tp:=CR cells (a.off+(i*e.n+off)) arr VU;have hd':decide (0<d)=true:=by simpa using hd
 refine⟨some a,k,by simp,by simpa using hc,?_⟩;refine .inr ⟨fun q=>(B5 cells (a.off+(i*e.n+off)) arr)[a.off+q]?,os,⟨hs,_,T,fr,Tm.here,by rw[Am];exact Tt,fun _=>by rw[Am];exact Tl,fun _=>rfl⟩,fun m hm=>?_,?_⟩
 ·have U5:m<xs.length:=by simpa using hm
  have YP:a.block∉os m:=by intro TW;rw[ho]at hn;exact(gh.1 hn).1 (gN.2 ⟨m,gZ.2 U5,TW⟩)
  rw[FM]
  have VA:∀ {g x},e.rd (dec d) w fz g x (os m)→e.rd (dec d) w' fz g x (os m):=fun h=>Ls.AI e h (fun b hb=>Tm.CG b (by
   rintro rfl
   rcases hb with hb|hb
   ·exact YP hb
   ·exact hz _ (by rw[ho];simp) hb)) fun _ hb=>hb
  by_cases VL:i=m
  ·subst VL;rw[gS rfl];refine VA (hF _ _ _ _ (Tr i U5) fun q hq=>?_);show(B5 cells (a.off+(i*e.n+off)) arr)[a.off+(i*e.n+q)]?=_;rw[Tp];by_cases hc:off≤q∧q<off+cells.length
   ·rw[gS (by omega),gS hc];congr 1;omega
   ·rw[gT (by omega),gT hc]
  ·rw[gT VL];refine VA (Ls.BD e (Tr m U5) fun q hq=>?_);show(B5 cells (a.off+(i*e.n+off)) arr)[a.off+(m*e.n+q)]?=_;rw[Tp,gT];intro hc;rcases iZ VL with h1|h1
   ·have:(i+1)*e.n≤m*e.n:=gy _ h1;rw[gw,ie]at this;omega
   ·have:(m+1)*e.n≤i*e.n:=gy _ h1;rw[gw,ie]at this;omega
 grind
theorem Kd{w:World}{fz:Nat→Prop}{e:Ls}{vs:List Lv}{y:e.D}{cells:List Value}(hy:pack e vs=some y)(hp:Plain w fz vs cells){g:Nat→Option Value}(hg:∀m,m<e.n→g m=cells[m]?):
  Bo e=true∧vs.length=e.n∧∀d w' TZ,e.rd d w' TZ g y []:=by
 have Vg:=Ag e vs y hy;have hlen:vs.length=e.n:=by rw[←Vg,B6]
 have Xe:Bo e=true:=E3 e fun l hl=>by rw[←D4 e y,Vg]at hl;obtain⟨lv,hm,rfl⟩:=hR.1 hl;obtain⟨m,hm⟩:=hM hm;exact(hp.2 m lv hm).1
 refine⟨Xe,hlen,fun d w' TZ=>?_⟩
 have:e.rd 0 w' TZ g y []:=Bd e fun j lv hj=>by
  rw[Vg]at hj;have Tc:j<e.n:=by rw[←hlen];exact(gM.1 hj).1
  obtain⟨_,u,hu,hr⟩:=hp.2 j lv hj;grind
 exact(Ls.AZ e Xe this).1
theorem D5{α:Type}:∀(xs:List α)(i:Nat)(y:α),CV xs i y=xs.modify i fun _=>y
 | [],i,y=>by cases i<;>simp[CV]
 |x::xs,0,y=>by simp[CV]
 |x::xs,i+1,y=>by simp[CV,D5 xs i y]
theorem IB{x:Nat×Nat}{p:List (Nat×Nat)}(hp:p≠[]){q:List (Nat×Nat)}{i off:Nat}(h:Ak (x::p)=some (q,i,off)):∃q',q=x::q'∧Ak p=some (q',i,off):=by
 cases p with
 |nil=>grind
 |cons y r=>
  simp only[Ak]at h;grind
theorem CM{os:Nat→List Nat}:∀ {l:List Nat},(l.flatMap os).Nodup→∀ {i j:Nat},i∈l→j∈l→i≠j→∀b∈os i,b∉os j
 | [],_,i,j,hi,_,_=>by cases hi
 |x::l,h,i,j,hi,hj,Tf=>by
  rw[gx]at h;obtain⟨h1,h2,h3⟩:=gf.1 h;intro b hb Tk;rcases gj.1 hi with U3|U3
  ·grind
  ·rcases gj.1 hj with ZX|ZX
   ·grind
   ·exact CM h2 U3 ZX Tf b hb Tk
theorem CN{os:Nat→List Nat}:∀ {l:List Nat},(l.flatMap os).Nodup→∀ {i:Nat},i∈l→(os i).Nodup
 | [],_,i,hi=>by cases hi
 |x::l,h,i,hi=>by grind
theorem Kt{vs:List Lv}{cells:List Value}{w:World}{fz:Nat→Prop}(hp:Plain w fz vs cells){i off:Nat}{e':Ls}{a:Addr}{n k:Nat}(hi:i<n):∀(p q:List (Nat×Nat)) {e:Ls} {d:Nat} {h:Value} {xs:List e.D} {o:List Nat} {f:List e.D→List e.D},
  Gq vs p e=some f→AD e d w fz h xs o→o.Nodup→(∀b∈o,¬fz b)→0<d→(p.length≤1∨d=2)→Ak p=some (q,i,off)→JR w q e h e' (.slice (some a) n k)→
  a.spot=none∧∃arr T fr,w.heap[a.block]?=some (.cells arr T fr)∧(∀j,j<arr.size→¬(fr.1≤j∧j<fr.2))∧a.off+(i*e'.n+off)+cells.length≤arr.size∧a.block∈o∧
   ∀w',M4 w w' a.block (B5 cells (a.off+(i*e'.n+off)) arr) T fr→AD e d w' fz h (f xs) o
 | [],q,e,d,h,xs,o,f,hm,hr,hn,hz,hd,Vf,hs,Ub=>by simp[Gq]at hm
 | [(i0,j0)],q,e,d,h,xs,o,f,hm,hr,hn,hz,hd,Vf,hs,Ub=>by
  simp only[Ak,Option.some.injEq,Prod.mk.injEq]at hs;obtain⟨rfl,rfl,rfl⟩:=hs;obtain⟨rfl,rfl⟩:=Ub;simp only[Gq]at hm;split at hm
  ·rename_i y hy;injection hm with hm;subst hm
   split at hy
   ·rename_i hc;simp only[gL,gV]at hc;obtain⟨rfl,hlen⟩:=hc
    have:=G6 (F:=fun _=>y) (off:=0) (cells:=cells) hr hd hn hz hi (by rw[hp.1,hlen];omega) (fun g g' x oo hx hg=>by
     obtain⟨Xe,_,UN⟩:=Kd hy hp (g:=g') fun m hm=>by rw[hg m hm,gS (by rw[hp.1,hlen];omega)];simp
     have:=(Ls.AZ e' Xe hx (d':=0) (w':=w) (TZ:=fz)).2;grind)
    simpa only[D5]using this
   ·cases hy
  ·split at hm
   ·rename_i f' We;injection hm with hm;subst hm
    have hlen:∀g x oo,e'.rd (dec d) w fz g x oo→j0+vs.length≤e'.n:=fun g x oo hx=>(DU e' j0 vs cells (g':=fun m=>if j0≤m∧m<j0+vs.length then cells[m-j0]? else g m) We hp hx fun m _=>rfl).1;obtain⟨A,c,hv,hc,_,T8⟩:=hr.KK;injection hv with hA hl hk
    subst hA;subst hl;subst hk;obtain⟨arr,T,fr,os,_,_,_,_,Tr,_,_⟩:=T8 a rfl (.inr hd);have T5:=hlen _ _ _ (Tr i0 hi);exact G6 (F:=f') (off:=j0) (cells:=cells) hr hd hn hz hi (by rw[hp.1];exact T5) (fun g g' x oo hx hg=>(DU e' j0 vs cells We hp hx fun m hm=>by rw[hg m hm,hp.1]).2)
   ·cases hm
 |(i0,j0)::p0::ps,q,e,d,h,xs,o,f,hm,hr,hn,hz,hd,Vf,hs,Ub=>by
  have Zt:d=2:=Vf.resolve_left (by simp);subst Zt;obtain⟨q',rfl,X7⟩:=IB (by simp) hs;simp only[Gq]at hm;split at hm
  ·rename_i hh du;injection hm with hm;subst hm
   obtain⟨a0,len,c,t,ff,h',rfl,eK,XB,hk,Ts,aE⟩:=Ub;obtain⟨A,cc,hv,hc,_,T8⟩:=hr.KK;injection hv with hA hl Ud
   subst hA;subst hl;subst Ud;obtain⟨arr,T,fr,os,_,az,Tt,Tl,Tr,ho,_⟩:=T8 a0 rfl (.inr hd);have ho:=ho hd;have Tl:=Tl hd
   have Yu:arr[a0.off+(i0*e.n+j0)]?=some h':=by simp only[World.cell?,at_,az]at Ts;simpa using Ts
   have UU:=hn;rw[ho]at UU
   have aJ:(os i0).Nodup:=by exact CN (gh.1 UU).2 (gZ.2 XB)
   have UO:∀m,m<xs.length→∀b∈os m,b∈o:=fun m hm b hb=>by rw[ho];exact gO _ (gN.2 ⟨m,gZ.2 hm,hb⟩)
   have UT:∀m,m<xs.length→m≠i0→∀b∈os i0,b∉os m:=by intro m hm Tf b hb Tk;have h3:=(gh.1 UU).2;have:=CM h3 (gZ.2 XB) (gZ.2 hm) (fun e=>Tf e.symm) b hb;exact this Tk
   obtain⟨fn,ys,o',V2,Tb,Uc,cF,VX⟩:=J1 e j0 du hk (Tr i0 XB) Yu;obtain⟨U8,arr2,T2,fr2,bh,VD,VU,TW,aN⟩:=Kt hp hi (p0::ps) q' V2 Tb (cF aJ) (fun b hb=>hz b (UO i0 XB b (Uc b hb))) hd (.inr rfl) X7 aE;refine⟨U8,arr2,T2,fr2,bh,VD,VU,UO i0 XB _ (Uc _ TW),fun w' Tm=>?_⟩;have Wa:=aN w' Tm;have b8:a0.block≠a.block:=fun e=>(gh.1 UU).1 (gN.2 ⟨i0,gZ.2 XB,by rw[e];exact Uc _ TW⟩);refine⟨some a0,c,by simp,by simpa using hc,.inr ⟨fun qq=>arr[a0.off+qq]?,os,⟨eK,arr,T,fr,(Tm.CG _ b8).trans az,Tt,fun _=>Tl,fun _=>rfl⟩,fun m hm=>?_,?_⟩⟩
   ·have U5:m<xs.length:=by simpa using hm
    rw[FM];by_cases VL:i0=m
    ·subst VL;rw[gS rfl];refine VX w' Wa (fun b hb XD=>Tm.CG b (fun e=>XD (e▸TW))) (fun b hb Tk=>hz b (UO i0 XB b (Uc b Tk)) hb) aJ
    ·rw[gT VL];refine Ls.AI e (Tr m U5) (fun b hb=>Tm.CG b ?_) fun _ hb=>hb
     rintro rfl
     rcases hb with hb|hb
     ·exact UT m U5 (fun e=>VL e.symm) _ (Uc _ TW) hb
     ·exact hz _ (UO i0 XB _ (Uc _ TW)) hb
   grind
  ·cases hm
end Go.Ev
namespace Go.Ev
def FX(w:World)(fz:Nat→Prop)(g:Bool)(ls:List (L×Nat))(u:Value)(vs:List Lv)(own:Nat→List Nat):Prop:=
 vs.map (·.l)=ls.map (·.1)∧(match g with
  |true=>∃cs:Array Value,u=.agg cs∧cs.size=ls.length
  |false=>ls.length=1)∧∀(j:Nat)(p:L×Nat)(lv:Lv),ls[j]?=some p→vs[j]?=some lv→∃y,Av g u j=some y∧lv.l.rd p.2 w fz y lv.x (own j)
def My(w:World)(fz:Nat→Prop)(ls:List (L×Nat))(u:Value)(vs:List Lv)(AS:Nat)(own:Nat→List Nat):Prop:=
 u=.pointer (some ⟨AS,0,none⟩)∧vs.map (·.l)=ls.map (·.1)∧∃(arr:Array Value) (T:TypeId) (fr:Nat×Nat),w.heap[AS]?=some (.cells arr T fr)∧(∀j,j<arr.size→¬(fr.1≤j∧j<fr.2))∧arr.size=ls.length∧
  ∀(j:Nat)(p:L×Nat)(lv:Lv),ls[j]?=some p→vs[j]?=some lv→∃y,arr[j]?=some y∧lv.l.rd p.2 w fz y lv.x (own j)
def M3(w:World)(fz:Nat→Prop)(pm:PM)(u:Value)(vs:List Lv)(AS:Nat)(own:Nat→List Nat):Prop:=match pm with
 | .val g ls=>FX w fz g (ls.map fun l=>(l,0)) u vs fun _=>[]
 | .box ls=>My w fz ls u vs AS own
 | .row g ls=>FX w fz g ls u vs own∧∀(j:Nat)(p:L×Nat),ls[j]?=some p→Bp p.1=true→p.2=4→Av g u j=some (.slice none 0 0)
 | .fn f=>u=.func (.func f) #[] #[]∧vs=[]
def JW(w:World)(fz:Nat→Prop)(pm:PM)(u:Value)(vs:List Lv)(AS:Nat)(own:Nat→List Nat):Prop:=match pm with
 | .val _ _=>vs=[]
 | .box ls=>My w fz ls u vs AS own
 | .row g ls=>FX w fz g ls u vs own
 | .fn _=>vs=[]
def EA(w:World)(fz:Nat→Prop)(om:Nat→List Nat):List (Bool×List (L×Nat))→List Value→List (List Lv)→Nat→Prop
 | [],[],[],_=>True
 |(g,ls)::rs,u::us,vs::TX,off=>FX w fz g ls u vs (fun j=>om (off+j))∧EA w fz om rs us TX (off+ls.length)
 |_,_,_,_=>False
structure CW(ps:List PM)(w:World)(fz:Nat→Prop)(args:List Value)(TX:List (List Lv))(bk:Nat→Nat)(om:Key→List Nat):Prop where
 len:args.length=ps.length
 BW:TX.length=ps.length
 each:∀(i:Nat)(pm:PM)(u:Value)(vs:List Lv),ps[i]?=some pm→args[i]?=some u→TX[i]?=some vs→M3 w fz pm u vs (bk i) fun j=>om (.lf i j)
 AS:∀i,om (.AS i)=match ps[i]? with
  |some (.box _)=>[bk i]
  |_=>[]
 none:∀i,(∀ls,ps[i]?≠some (.box ls))→(∀g ls,ps[i]?≠some (.row g ls))→∀j,om (.lf i j)=[]
 box:∀i ls,ps[i]?=some (.box ls)→∀j,ls.length≤j→om (.lf i j)=[]
 row:∀i g ls,ps[i]?=some (.row g ls)→∀j,ls.length≤j→om (.lf i j)=[]
 fl:∀k,om (.fl k)=[]
 nodup:∀k,(om k).Nodup
 Ar:∀k k',k≠k'→∀b∈om k,b∉om k'
 own:∀k,∀b∈om k,¬fz b∧b<w.heap.size
 fz:∀b,fz b→b<w.heap.size
def JM:List Value→Value
 | [u]=>u
 |us=>.tuple us.toArray
structure Ee(g:Sm)(w:World)(fz:Nat→Prop)(args:List Value)(bk:Nat→Nat)(om:Key→List Nat)(z:g.outs.D)(r:Value)(w':World)(TZ:Nat→Prop)(UE:Key→List Nat)(rv:List Value)(vsR vsP:List (List Lv)):Prop where
 outs:unpack g.outs z=vsR.flatten++vsP.flatten
 res:r=JM rv
 H3:EA w' TZ (fun k=>UE (.fl k)) g.rs rv vsR 0
 len:vsP.length=g.ps.length
 each:∀(i:Nat)(pm:PM)(u:Value)(vs:List Lv),g.ps[i]?=some pm→args[i]?=some u→vsP[i]?=some vs→JW w' TZ pm u vs (bk i) fun j=>UE (.lf i j)
 AS:∀i,UE (.AS i)=om (.AS i)
 nodup:∀k,(UE k).Nodup
 Ar:∀k k',k≠k'→∀b∈UE k,b∉UE k'
 own:∀k,∀b∈UE k,¬TZ b∧b<w'.heap.size∧(w.heap.size≤b∨∃k0,b∈om k0)
 fz:∀b,TZ b→b<w'.heap.size∧(fz b∨w.heap.size≤b∨∃k0,b∈om k0)
 frame:∀b,b<w.heap.size→(∀k,b∉om k)→w'.heap[b]?=w.heap[b]?
 size:w.heap.size≤w'.heap.size
 rest:w'.os=w.os∧w'.tape=w.tape∧w'.output=w.output
 kept:∀(i:Nat) (ls:List (L×Nat)) (j:Nat) (p:L×Nat),g.ps[i]?=some (.box ls)→ls[j]?=some p→p.2=3→w'.cell? ⟨bk i,j,none⟩=w.cell? ⟨bk i,j,none⟩
structure L1(g:Sm)(w:World)(fz:Nat→Prop)(z:g.outs.D)(r:Value)(w':World)(TZ:Nat→Prop)(b:Nat):Prop where
 box:My w' TZ g.Gr r (unpack g.outs z) b fun _=>[]
 new:w.heap.size≤b∧b<w'.heap.size∧¬TZ b
 fz:∀x,TZ x→x<w'.heap.size∧(fz x∨w.heap.size≤x)
 frame:∀x,x<w.heap.size→w'.heap[x]?=w.heap[x]?
 size:w.heap.size≤w'.heap.size
 rest:w'.os=w.os∧w'.tape=w.tape∧w'.output=w.output
def O3(P:Program)(T:List (String×Array Value))(w:World)(io:Nat→Prop):Prop:=∀x∈T,w.var? P x.1=some x.2∧∃g,P.globalNamed x.1=some g∧¬io g∧g<w.heap.size
def D9(P:Program)(T:List (String×Array Value))(f:FuncId)(g:Ly):Prop:=
 ∀(args:List Value)(w:World)(fz:Nat→Prop) (TX:List (List Lv)) (bk:Nat→Nat) (om:Key→List Nat) (x:g.s.ins.D) (z:g.s.outs.D),O3 P T w (fun b=>∃k,b∈om k)→CW g.s.ps w fz args TX bk om→pack g.s.ins TX.flatten=some x→g.f x=some z→
  Calls P f args.toArray w fun en w'=>match g.s.mk? with
   |false=>∃r TZ UE rv vsR vsP,en=.returned r∧Ee g.s w fz args bk om z r w' TZ UE rv vsR vsP
   |true=>∃r TZ b,en=.returned r∧L1 g.s w fz z r w' TZ b
def G9(w:World)(fz:Nat→Prop)(ls:List L)(u:Value)(vs:List Lv):Prop:=
 ∃(b:Nat) (arr:Array Value) (T:TypeId) (fr:Nat×Nat),u=.pointer (some ⟨b,0,none⟩)∧fz b∧w.heap[b]?=some (.cells arr T fr)∧arr.size=ls.length∧vs.map (·.l)=ls∧∀(j:Nat)(lv:Lv),vs[j]?=some lv→∃y,arr[j]?=some y∧lv.l.rd 0 w fz y lv.x []
def Dr(w:World)(fz:Nat→Prop):List (List L)→List Value→List Lv→Prop
 | [],[],vs=>vs=[]
 |ls::bs,u::us,vs=>∃x y,vs=x++y∧G9 w fz ls u x∧Dr w fz bs us y
 |_,_,_=>False
def Kl(w:World)(fz:Nat→Prop)(rowv:Value):KJ→Value→List Lv→Prop
 | .box ls,u,vs=>G9 w fz ls u vs
 | .EB g bs,u,vs=>∃(b:Nat) (T:TypeId) (fr:Nat×Nat) (lb:Array Value),u=.pointer (some ⟨b,0,none⟩)∧fz b∧w.heap[b]?=some (.cells #[.func (.func g) #[] lb] T fr)∧Dr w fz bs lb.toList vs
 | .row,u,vs=>vs=[]∧∃(b:Nat) (T:TypeId) (fr:Nat×Nat),u=.pointer (some ⟨b,0,none⟩)∧fz b∧w.heap[b]?=some (.cells #[rowv] T fr)
def EC(w:World)(fz:Nat→Prop)(rowv:Value):List KJ→List Value→List Lv→Prop
 | [],[],vs=>vs=[]
 |c::cs,u::us,vs=>∃x y,vs=x++y∧Kl w fz rowv c u x∧EC w fz rowv cs us y
 |_,_,_=>False
def Nv(P:Program)(g:FuncId)(σ:Od):Prop:=
 ∀(w:World)(fz:Nat→Prop)(us:List Value)(vs:List Lv) (y:(Ew (σ.I3.flatMap KJ.kinds)).D) (AS off n c:Nat) (G:Nat→Int),EC w fz (.slice (some ⟨AS,off,none⟩) n c) σ.I3 us vs→pack (Ew (σ.I3.flatMap KJ.kinds)) vs=some y→
  (∀t,t<n→w.cell? ⟨AS,off+t,none⟩=some (.int .i64 (G t)))→n≤20→∀i j:Nat,i<n→j<n→∀b,σ.lt y (G i) (G j)=some b→
  Calls P g (#[.int .i64 i,.int .i64 j]++us.toArray) w fun e w'=>e=.returned (.bool b)∧∃q os,w'=Go.Sort.grow (w.drewN q) os
structure Nw(P:Program)(f:FuncId)(t:TypeId):Prop where
 many:∀(α:Type) [Inhabited α] (enc:α→Value),(∀x,(enc x).oneCell'=true)→∀(lt:α→α→Bool)(g:Nat)(lb:Array Value),(∀args w,(callFunc g args).run P w=.ok (.enter g args) w)→∀(AS off c:Nat)(d:Array α),2≤d.size→d.size≤20→∀(w:World),
  (∀(m:Nat)(os:Array Obj)(dk:Array α),dk.size=d.size→∀i j:Nat,i<d.size→j<d.size→
   Calls P g (#[.int .i64 i,.int .i64 j]++lb) (Go.Sort.grow (Go.Sort.putRow enc (Go.Sort.ahead w m) AS off dk) os) fun e w'=>e=.returned (.bool (lt dk[i]! dk[j]!))∧∃q UP,w'=Go.Sort.grow ((Go.Sort.grow (Go.Sort.putRow enc (Go.Sort.ahead w m) AS off dk) os).drewN q) UP)→
  Go.Sort.Holds enc w AS off d→AS<w.heap.size→
  Calls P f #[.iface t (.slice (some ⟨AS,off,none⟩) d.size c),.func (.func g) #[] lb] w fun e w'=>e=.returned (.tuple #[])∧∃n os,w'=Go.Sort.grow (Go.Sort.putRow enc (Go.Sort.ahead w n) AS off (Go.Sort.insertionSort lt d 0 d.size)) os
 OT:∀(p:Option Addr)(n c:Nat),n≤1→∀(lf:Fn)(la lb:Array Value)(w:World),Calls P f #[.iface t (.slice p n c),.func lf la lb] w fun e w'=>e=.returned (.tuple #[])∧∃os,w'=Go.Sort.grow w os
 body : ∃ (fn : Func) (c : Code), P.funcs[f]? = some fn ∧ fn.body = some c ∧ (fn.name == "runtime.NumGoroutine") = false
structure Ni(P:Program)(f g:FuncId)(σ:Od):Prop where
 sort:Nw P f σ.t
 less:Nv P g σ
 enters:∀args w,(callFunc g args).run P w=.ok (.enter g args) w
def JU (P : Program) (T : List (String × Array Value)) (env : FuncId → Option Ly) : Prop := ∀ f g, env f = some g → D9 P T f g ∧ ∃ (fn : Func) (c : Code), P.funcs[f]? = some fn ∧ fn.body = some c ∧ (fn.name == "runtime.NumGoroutine") = false
structure Km(P:Program)(T:List (String×Array Value))(env:Env):Prop where
 fns:JU P T env.fn
 PE:∀f g σ,env.PK f g=some σ→Ni P f g σ
 Oi:L0 P env
def DH(P:Program)(E:Cr)(env:Env):Prop:=Km P E.Ng env∧∀x∈E.Ng,E.w0.var? P x.1=some x.2∧∃g,P.globalNamed x.1=some g∧¬E.io g∧g<E.base
theorem DH.PI{P:Program}{E:Cr}{env:Env}(h:DH P E env){W:Wd}(hs:Sep E W){om:Key→List Nat}(ho:∀k,∀b∈om k,∃k',b∈W.om k'):O3 P E.Ng W.w (fun b=>∃k,b∈om k):=by
 intro x hx;obtain⟨h1,g,h2,h3,h4⟩:=h.2 x hx;have hg:W.w.heap[g]?=E.w0.heap[g]?:=hs.frame g h4 h3;refine⟨?_,g,h2,?_,by have:=hs.size;omega⟩
 ·unfold World.var? at h1 ⊢;grind
 ·rintro ⟨k,hb⟩
  obtain⟨k',hb⟩:=ho k g hb;rcases(hs.own k' g hb).2.2 with h5|h5
  all_goals grind
section
variable {P:Program}{E:Cr}{s s':St}{W W':Wd}{v:Nat}{tm:Array Value}
theorem AU.MR(h:AU E s tm W)(hv:Ac s v)(Ta:JY s s')(chk:Nat→Nat→Prop)(chb:Nat→Prop)
  (hl:∀r j,¬chk r j→s'.leaf r j=s.leaf r j) (T3:∀r,¬chb r→∀j,W'.cv r j=W.cv r j) (cz:∀r j,chb r→chk r j) (XS:∀r,W'.bk r=W.bk r)
  (WA:∀r j,¬chk r j→W'.om (.lf r j)=W.om (.lf r j)) (cD:∀r,W'.om (.AS r)=W.om (.AS r))
  (hw:∀b,(W.fz b∨(∃r,¬chb r∧b∈W.om (.AS r))∨∃r j,¬chk r j∧b∈W.om (.lf r j))→W'.w.heap[b]?=W.w.heap[b]?) (Uu:∀b,W.fz b→W'.fz b)
  (TV:∀(r j AA gen:Nat)(t:TypeId)(e:Ls)(xs:List e.D)(d:Nat),chk r j→s'.leaf r j=.arr AA gen t e xs d→AA≠v→W'.cv r j=W.cv r j∧∃gen0 t0 xs0 d0,s.leaf r j=.arr AA gen0 t0 e xs0 d0∧(gen≠v→gen=gen0∧W'.w=W.w))
  (VB:Sep E W') (UD:EE v s s' W W'→∀r j,chk r j→Aa s' W' (s'.leaf r j) (W'.cv r j) (W'.om (.lf r j)))
  (UB:∀r,chb r→(s.root r).box=true→∃(arr:Array Value) (T:TypeId) (fr:Nat×Nat),W'.w.heap[W.bk r]?=some (.cells arr T fr)∧(∀j,j<arr.size→¬(fr.1≤j∧j<fr.2))∧arr.size=(s.root r).ls.length∧∀j,W'.cv r j=arr[j]?):AU E s' tm W':=by
 have T1:EE v s s' W W':={
  fz:=Uu
  LQ:=fun b hb=>hw b (.inl hb)
  leaf:=by
   intro r j AA gen t e xs d XV Tf;by_cases hc:chk r j
   ·grind
   ·rw[hl r j hc]at XV;refine⟨T3 r (fun hb=>hc (cz r j hb)) j,gen,t,xs,d,XV,fun _=>⟨rfl,fun p h' e' u' UF hn=>?_⟩⟩;obtain⟨u0,UW,Th⟩:=(h.roots r).row XV;rw[UF]at UW;injection UW with UW;subst UW
    exact BI p Th hn fun b hb=>hw b (hb.elim (fun hb=>.inr (.inr ⟨r,j,hc,hb⟩)) .inl)
  box:=fun r hb Tf=>⟨(Ta.box r).1▸hb,(Ta.box r).2.1.symm,XS r⟩ }
 refine h.H0 hv T1 VB (by rw[Ta.sl,h.DG]) (by rw[Ta.len,h.BW]) (fun t=>.inl ⟨by show nth _ s'.sl t=_;rw[Ta.sl];rfl,rfl⟩) ?_;intro r;obtain⟨h1,h2⟩:=h.roots r;refine⟨fun j=>?_,?_⟩
 ·show Aa s' W' (s'.leaf r j) (W'.cv r j) (W'.om (.lf r j));by_cases hc:chk r j
  ·grind
  ·rw[hl r j hc,T3 r (fun hb=>hc (cz r j hb)) j,WA r j hc];exact Aa.DF T1 (LA.Dq hv r j) (fun b hb=>hw b (.inr (.inr ⟨r,j,hc,hb⟩))) (h1 j)
 ·rw[(Ta.box r).1,cD,XS];split
  ·rename_i hb;rw[gS hb]at h2;obtain⟨VN,Un,T',YB,Wf,a1,a2,a3⟩:=h2;refine⟨VN,?_⟩;by_cases hc:chb r
   ·obtain⟨arr,T,fr,q1,q2,q3,q4⟩:=UB r hc hb;exact⟨arr,T,fr,q1,q2,by rw[q3,(Ta.box r).2.2],q4⟩
   ·exact⟨Un,T',YB,(hw _ (.inr (.inl ⟨r,hc,by rw[VN];simp⟩))).trans Wf,a1,by rw[(Ta.box r).2.2];exact a2,fun j=>(T3 r hc j).trans (a3 j)⟩
  grind
structure Up where
 r:Nat
 lo:Nat
 news:List LA
def Ed(us:List Up):List Wr:=us.flatMap fun u=>BA u.r u.lo u.news
theorem II:∀(us:List Up)(s:St),(∀u∈us,(u.news=[]∨u.r<s.ro.length)∧u.lo+u.news.length≤(s.root u.r).ls.length)→JY s (s.app (Ed us))∧
  ∀r j,(s.app (Ed us)).leaf r j=us.foldl (fun a u=>if r=u.r∧u.lo≤j∧j<u.lo+u.news.length then nth .bad u.news (j-u.lo)else a) (s.leaf r j)
 | [],s,h=>⟨⟨rfl,rfl,fun _=>⟨rfl,rfl,rfl⟩⟩,fun r j=>rfl⟩
 |u::us,s,h=>by
  obtain⟨hr,hf⟩:=h u (by simp);obtain⟨h1,h2⟩:=D1 u.r u.news u.lo s hr hf
  obtain⟨h3,h4⟩:=II us (s.app (BA u.r u.lo u.news)) fun x hx=>by
   obtain⟨q1,q2⟩:=h x (gO _ hx);exact⟨by rw[h1.len];exact q1,by rw[(h1.box x.r).2.2];exact q2⟩
  have he:s.app (Ed (u::us))=(s.app (BA u.r u.lo u.news)).app (Ed us):=by show s.app (BA u.r u.lo u.news++Ed us)=_;rw[BC]
  rw[he];refine⟨⟨h3.sl.trans h1.sl,h3.len.trans h1.len,fun x=>⟨(h3.box x).1.trans (h1.box x).1,(h3.box x).2.1.trans (h1.box x).2.1,(h3.box x).2.2.trans (h1.box x).2.2⟩⟩,fun r j=>?_⟩;grind
end
end Go.Ev
namespace Go.Ev
theorem CB.uniq{α:Type}{n:Nat}{R R':(Nat→Option Value)→α→List Nat→Prop}{own:Bool}{w:World}{fz TZ:Nat→Prop}{v:Value}{xs UJ:List α}{o o':List Nat}
  (h:CB n R own w fz v xs o) (h':CB n R' own w TZ v UJ o') (hr:∀g x y p q,R g x p→R' g y q→x=y∧p=q):xs=UJ∧o=o':=by
 obtain⟨A,c,hv,hc,h⟩:=h;obtain⟨A',c',Um,UF,h'⟩:=h';rw[hv]at Um;injection Um with e1 e2 e3
 subst e1;subst e3;cases A with
 |none=>
  have z1:xs=[]:=gQ (by have:=h.1;omega);grind
 |some a=>
  by_cases ZT:c=0
  ·have z1:xs=[]:=gQ (by omega);have z2:UJ=[]:=gQ (by omega);subst z1;subst z2;refine⟨rfl,?_⟩;cases own with
   |true=>
    grind
   |false=>
    grind
  ·rcases h with⟨_,h,_⟩|⟨g,os,Tb,Tr,ho⟩
   ·omega
   rcases h' with⟨_,h,_⟩|⟨g',UP,Wa,bU,VN⟩
   ·omega
   have XT:g=g':=by funext j;rw[←Tb.cell j,←Wa.cell j]
   subst XT;have hlen:xs.length=UJ.length:=e2;have VJ:∀i (h1:i<xs.length) (h2:i<UJ.length),xs[i]=UJ[i]∧os i=UP i:=fun i h1 h2=>hr _ _ _ _ _ (Tr i h1) (bU i h2);have ai:xs=UJ:=List.ext_getElem hlen fun i h1 h2=>(VJ i h1 h2).1;refine⟨ai,?_⟩;cases own with
   |true=>
    have ho:o=a.block::(List.range xs.length).flatMap os:=ho;have VN:o'=a.block::(List.range UJ.length).flatMap UP:=VN;rw[ho,VN,←hlen];congr 1
    have:∀(l:List Nat),(∀i∈l,i<xs.length)→l.flatMap os=l.flatMap UP:=by
     intro l
     induction l with
     |nil=>intro _;rfl
     |cons i l ih=>
      intro hi;rw[gx,gx,ih fun k hk=>hi k (gO _ hk),(VJ i (hi i gi) (hlen▸hi i gi)).2]
    grind
   |false=>grind
mutual
theorem L.Eo:∀(l:L) {d:Nat} {w:World} {fz TZ:Nat→Prop} {v:Value} {x y:l.D} {o p:List Nat},l.rd d w fz v x o→l.rd d w TZ v y p→x=y∧o=p
 | .int _,_,_,_,_,_,_,_,_,_,h,h'=>by
  have:=h.1.symm.trans h'.1;injection this with _ e
  exact⟨e,h.2.trans h'.2.symm⟩
 | .bool,_,_,_,_,_,_,_,_,_,h,h'=>by
  have:=h.1.symm.trans h'.1;injection this with e
  exact⟨e,h.2.trans h'.2.symm⟩
 | .str,_,_,_,_,_,x,y,_,_,h,h'=>by
  have:=h.1.symm.trans h'.1;injection this with e
  have e2:List.toArray (show List UInt8 from x)=List.toArray (show List UInt8 from y):=by injection e
  have e3:(show List UInt8 from x)=(show List UInt8 from y):=by have:=congrArg Array.toList e2;simpa using this
  exact⟨e3,h.2.trans h'.2.symm⟩
 | .sl _ e,d,w,fz,TZ,v,x,y,o,p,h,h'=>by rw[L.Hy]at h h';exact CB.uniq h h' fun g a b q r h1 h2=>Ls.Eo e h1 h2
theorem Ls.Eo:∀(ls:Ls) {d:Nat} {w:World} {fz TZ:Nat→Prop} {g:Nat→Option Value} {x y:ls.D} {o p:List Nat},ls.rd d w fz g x o→ls.rd d w TZ g y p→x=y∧o=p
 | .nil,_,_,_,_,_,x,y,_,_,h,h'=>⟨by cases x;cases y;rfl,by rw[show _=_ from h,show _=_ from h']⟩
 | .one l,_,_,_,_,_,_,_,_,_,h,h'=>by
  simp only[Ls.rd]at h h';obtain⟨v,hv,h⟩:=h;obtain⟨v',Um,h'⟩:=h';rw[hv]at Um;injection Um with Um;subst Um
  exact L.Eo l h h'
 | .cons l ls,_,_,_,_,_,x,y,_,_,h,h'=>by
  simp only[Ls.rd]at h h';obtain⟨v,o1,o2,hv,h1,h2,rfl⟩:=h;obtain⟨v',p1,p2,Um,VC,Vs,rfl⟩:=h';rw[hv]at Um;injection Um with Um;subst Um
  obtain⟨a1,a2⟩:=L.Eo l h1 VC;obtain⟨b1,b2⟩:=Ls.Eo ls h2 Vs;exact⟨Prod.ext a1 b1,by rw[a2,b2]⟩
end
theorem AD.uniq{e:Ls}{d:Nat}{w:World}{fz TZ:Nat→Prop}{v:Value}{xs ys:List e.D}{o p:List Nat}(h:AD e d w fz v xs o)(h':AD e d w TZ v ys p):xs=ys∧o=p:=
 L.Eo (.sl 0 e) h h'
def Nu(o p o' q:List Nat):Prop:=q.Nodup∧∀b∈q,b∈o'∨(b∈o∧b∉p)
structure Nj(w w':World)(fz TZ:Nat→Prop)(o p o':List Nat):Prop where
 nd:o'.Nodup
 new:∀b∈o',b∈o→b∈p
 rest:∀b,(b∈o∧b∉p)∨fz b→w'.heap[b]?=w.heap[b]?
 fz:∀b,fz b→TZ b
theorem Hl{G:(t:TypeId)→(f:Ls)→Option (List f.D→List f.D)}{d:Nat}{w:World}{fz:Nat→Prop}:∀(e:Ls)(j:Nat) {F:e.D→e.D} {g:Nat→Option Value} {x:e.D} {o:List Nat} {t:TypeId} {f:Ls} {h:Value},
  CI e j G=some F→e.kinds[j]?=some (.sl t f)→e.rd d w fz g x o→g j=some h→o.Nodup→
  ∃fn ys p,G t f=some fn∧AD f d w fz h ys p∧(∀b∈p,b∈o)∧p.Nodup∧∀w' TZ o',AD f d w' TZ h (fn ys) o'→Nj w w' fz TZ o p o'→∃q,e.rd d w' TZ g (F x) q∧Nu o p o' q
 | .nil,j,F,g,x,o,t,f,h,hm,hk,hr,hg,hn=>by simp[Ls.kinds]at hk
 | .one l,j+1,F,g,x,o,t,f,h,hm,hk,hr,hg,hn=>by simp[Ls.kinds]at hk
 | .one l,0,F,g,x,o,t,f,h,hm,hk,hr,hg,hn=>by
  simp[Ls.kinds]at hk;subst hk;simp only[Ls.rd]at hr;obtain⟨v,hv,hr⟩:=hr;rw[hg]at hv;injection hv with hv;subst hv
  simp only[CI]at hm;exact⟨F,x,o,hm,hr,fun b hb=>hb,hn,fun w' TZ o' UI hs=>⟨o',⟨h,hg,UI⟩,hs.nd,fun b hb=>.inl hb⟩⟩
 | .cons l ls,0,F,g,x,o,t,f,h,hm,hk,hr,hg,hn=>by
  simp[Ls.kinds]at hk;subst hk;simp only[Ls.rd]at hr;obtain⟨v,o1,o2,hv,hr,Xt,rfl⟩:=hr;rw[hg]at hv;injection hv with hv;subst hv
  simp only[CI]at hm;split at hm
  ·rename_i fn V2;injection hm with hm;subst hm
   obtain⟨n1,n2,n3⟩:=gf.1 hn;refine⟨fn,x.1,o1,V2,hr,fun b hb=>gX _ hb,n1,fun w' TZ o' UI hs=>⟨o'++o2,⟨h,o',o2,hg,UI,?_,rfl⟩,?_,?_⟩⟩
   ·exact Ls.AI ls Xt (fun b hb=>hs.rest b (hb.imp (fun hb=>⟨gU _ hb,fun Tk=>n3 b Tk b hb rfl⟩) id)) hs.fz
   ·refine gf.2 ⟨hs.nd,n2,fun b hb c hc e=>?_⟩;subst e;exact n3 b (hs.new b hb (gU _ hc)) b hc rfl
   grind
  ·cases hm
 | .cons l ls,j+1,F,g,x,o,t,f,h,hm,hk,hr,hg,hn=>by
  simp only[Ls.rd]at hr;obtain⟨v,o1,o2,hv,hr,Xt,rfl⟩:=hr;simp only[CI]at hm;split at hm
  ·rename_i F2 hF;injection hm with hm;subst hm
   obtain⟨n1,n2,n3⟩:=gf.1 hn;obtain⟨fn,ys,p,h1,h2,h3,h4,h5⟩:=Hl ls j (g:=fun j=>g (j+1)) hF (by simpa[Ls.kinds]using hk) Xt hg n2;refine⟨fn,ys,p,h1,h2,fun b hb=>gU _ (h3 b hb),h4,fun w' TZ o' UI hs=>?_⟩;obtain⟨q,hq,aO,aP⟩:=h5 w' TZ o' UI ⟨hs.nd,fun b hb Tk=>hs.new b hb (gU _ Tk),fun b hb=>hs.rest b (hb.imp (fun hb=>⟨gU _ hb.1,hb.2⟩) id),hs.fz⟩;have Wj:∀b∈o1,b∉p:=fun b hb hp=>n3 b hb b (h3 b hp) rfl;refine⟨o1++q,⟨v,o1,q,hv,?_,hq,rfl⟩,?_,?_⟩
   ·exact L.AI l hr (fun b hb=>hs.rest b (hb.imp (fun hb=>⟨gX _ hb,Wj b hb⟩) id)) hs.fz
   ·refine gf.2 ⟨n1,aO,fun b hb c hc e=>?_⟩;subst e;rcases aP b hc with h6|h6
    ·exact Wj b hb (hs.new b h6 (gX _ hb))
    ·exact n3 b hb b h6.1 rfl
   grind
  ·cases hm
theorem FH{os:Nat→List Nat}:∀ {l:List Nat},l.Nodup→(∀i∈l,(os i).Nodup)→(∀i∈l,∀j∈l,i≠j→∀b∈os i,b∉os j)→(l.flatMap os).Nodup
 | [],_,_,_=>by simp
 |x::l,h,h1,h2=>by obtain⟨hx,hl⟩:=gh.1 h;rw[gx];refine gf.2 ⟨h1 x gi,FH hl (fun i hi=>h1 i (gO _ hi)) (fun i hi j hj=>h2 i (gO _ hi) j (gO _ hj)),fun b hb c hc e=>?_⟩;grind
theorem OB{G:(t:TypeId)→(f:Ls)→Option (List f.D→List f.D)}{w:World}{fz:Nat→Prop}:∀(p:List (Nat×Nat)) {t:TypeId} {e:Ls} {d:Nat} {h:Value} {xs:List e.D} {o:List Nat} {e':Ls} {v:Value} {F:List e.D→List e.D},
  Hk G p t e=some F→AD e d w fz h xs o→JR w p e h e' v→(p≠[]→d=2)→o.Nodup→
  ∃t' fn ys po,G t' e'=some fn∧AD e' d w fz v ys po∧(∀b∈po,b∈o)∧po.Nodup∧∀w' TZ o',AD e' d w' TZ v (fn ys) o'→Nj w w' fz TZ o po o'→∃q,AD e d w' TZ h (F xs) q∧Nu o po o' q
 | [],t,e,d,h,xs,o,e',v,F,hm,hr,hn,hp,UU=>by obtain⟨rfl,rfl⟩:=hn;exact⟨t,F,xs,o,hm,hr,fun b hb=>hb,UU,fun w' TZ o' UI hs=>⟨o',UI,hs.nd,fun b hb=>.inl hb⟩⟩
 |(i,j)::p,t,e,d,h,xs,o,e',v,F,hm,hr,hn,hp,UU=>by
  have hd:d=2:=hp (by simp);subst hd;obtain⟨a,len,c,t',f,h',rfl,hs,hi,hk,hc,hn⟩:=hn;obtain⟨A,cc,hv,hle,Wk⟩:=hr;injection hv with hA hl Yt
  subst hA;subst hl;subst Yt;rcases Wk with⟨h0,_⟩|⟨g,os,Tb,Tr,ho⟩
  ·simp at h0
  have ho:o=a.block::(List.range xs.length).flatMap os:=ho;have Tr:∀i (h:i<xs.length),e.rd 2 w fz (fun j=>g (i*e.n+j)) xs[i] (os i):=Tr;simp only[Hk]at hm;split at hm
  ·rename_i H hH;injection hm with hm;subst hm
   rw[ho]at UU;obtain⟨nb,nf⟩:=gh.1 UU;have UH:∀m,m<xs.length→(os m).Nodup:=fun m hm=>CN nf (gZ.2 hm);have UT:∀m,m<xs.length→∀k,k<xs.length→m≠k→∀b∈os m,b∉os k:=fun m hm k hk Tf=>CM nf (gZ.2 hm) (gZ.2 hk) Tf;have Ug:∀m,m<xs.length→a.block∉os m:=fun m hm hb=>nb (gN.2 ⟨m,gZ.2 hm,hb⟩);have hg:g (i*e.n+j)=some h':=by rw[←Tb.cell];exact hc
   obtain⟨fn,ys,po,h1,h2,h3,h4,h5⟩:=Hl e j hH hk (Tr i hi) hg (UH i hi);obtain⟨t2,fn2,zs,po2,g1,g2,g3,g4,g5⟩:=OB p h1 h2 hn (fun _=>rfl) h4;have TW:∀m,m<xs.length→∀b∈os m,b∈o:=fun m hm b hb=>by rw[ho];exact gO _ (gN.2 ⟨m,gZ.2 hm,hb⟩)
   refine⟨t2,fn2,zs,po2,g1,g2,fun b hb=>TW i hi b (h3 b (g3 b hb)),g4,fun w' TZ o' UI Vb=>?_⟩;obtain⟨q1,aO,U9,Zo⟩:=g5 w' TZ o' UI ⟨Vb.nd,fun b hb Tk=>Vb.new b hb (TW i hi b (h3 b Tk)),fun b hb=>Vb.rest b (hb.imp (fun hb=>⟨TW i hi b (h3 b hb.1),hb.2⟩) id),Vb.fz⟩;have Xs:∀b∈po2,b∈os i:=fun b hb=>h3 b (g3 b hb)
   obtain⟨q2,aP,VD,bN⟩:=h5 w' TZ q1 aO ⟨U9,fun b hb Tk=>by
     rcases Zo b hb with h6|h6
     ·exact g3 b (Vb.new b h6 (TW i hi b Tk))
     ·exact h6.1,fun b hb=>Vb.rest b (hb.imp (fun hb=>⟨TW i hi b hb.1,fun h7=>hb.2 (g3 b h7)⟩) id),Vb.fz⟩
   have ZH:∀b∈q2,b∈o'∨(b∈os i∧b∉po2):=by
    intro b hb;rcases bN b hb with h6|h6
    ·rcases Zo b h6 with h7|h7
     ·exact .inl h7
     ·exact .inr ⟨h3 b h7.1,h7.2⟩
    ·exact .inr ⟨h6.1,fun h7=>h6.2 (g3 b h7)⟩
   let UP:Nat→List Nat:=fun m=>if m=i then q2 else os m
   have Wa:Row w' a (c*e.n) true g:=Tb.frame (Vb.rest _ (.inl ⟨by rw[ho];simp,fun h7=>Ug i hi (Xs _ h7)⟩));have hlen:(xs.modify i H).length=xs.length:=by simp
   refine⟨a.block::(List.range xs.length).flatMap UP,⟨some a,c,by simp,by simpa using hle,.inr ⟨g,UP,Wa,fun m hm=>?_,?_⟩⟩,?_,?_⟩
   ·have U5:m<xs.length:=by simpa using hm
    show e.rd 2 w' TZ _ (xs.modify i H)[m] (UP m);rw[List.getElem_modify];by_cases VL:i=m
    ·subst VL;rw[gS rfl,show UP i=q2 from gS rfl];exact aP
    ·rw[gT VL,show UP m=os m from gT fun e=>VL e.symm];exact Ls.AI e (Tr m U5) (fun b hb=>Vb.rest b (hb.imp (fun hb=>⟨TW m U5 b hb,fun h7=>UT m U5 i hi (fun e=>VL e.symm) b hb (Xs b h7)⟩) id)) Vb.fz
   ·show a.block::(List.range xs.length).flatMap UP=a.block::(List.range (xs.modify i H).length).flatMap UP;rw[hlen]
   ·refine gh.2 ⟨fun hb=>?_,FH List.nodup_range (fun m hm=>?_) (fun m hm k hk Tf b hb Tk=>?_)⟩
    ·obtain⟨m,hm,hb⟩:=gN.1 hb;have hm:=gZ.1 hm;by_cases VL:m=i
     ·subst VL;rw[show UP m=q2 from gS rfl]at hb;rcases ZH _ hb with h6|h6
      ·exact Ug m hm (Xs _ (Vb.new _ h6 (by rw[ho];simp)))
      ·exact Ug m hm h6.1
     ·rw[show UP m=os m from gT VL]at hb;exact Ug m hm hb
    ·have hm:=gZ.1 hm;by_cases VL:m=i
     ·rw[show UP m=q2 from gS VL];exact VD
     ·rw[show UP m=os m from gT VL];exact UH m hm
    ·have hm:=gZ.1 hm;have hk:=gZ.1 hk;by_cases VL:m=i
     ·have Y6:k≠i:=fun e=>Tf (VL.trans e.symm);rw[show UP m=q2 from gS VL]at hb;rw[show UP k=os k from gT Y6]at Tk;rcases ZH b hb with h6|h6
      ·exact UT k hk i hi Y6 b Tk (Xs b (Vb.new b h6 (TW k hk b Tk)))
      ·exact UT k hk i hi Y6 b Tk h6.1
     ·rw[show UP m=os m from gT VL]at hb;by_cases Y6:k=i
      ·rw[show UP k=q2 from gS Y6]at Tk;rcases ZH b Tk with h6|h6
       ·exact UT m hm i hi VL b hb (Xs b (Vb.new b h6 (TW m hm b hb)))
       ·exact UT m hm i hi VL b hb h6.1
      ·rw[show UP k=os k from gT Y6]at Tk;exact UT m hm k hk Tf b hb Tk
   grind
  ·cases hm
theorem Ig{β:Type}{d:Nat}{w:World}{fz:Nat→Prop}{k:(t:TypeId)→(f:Ls)→List f.D→Step β}{t:β}:∀(e:Ls)(j:Nat) {g:Nat→Option Value} {x:e.D} {o:List Nat} {t':TypeId} {f:Ls} {h:Value},
  (JB e j x k).leads t→e.rd d w fz g x o→e.kinds[j]?=some (.sl t' f)→g j=some h→o.Nodup→∃(ys:List f.D) (o':List Nat),(k t' f ys).leads t∧AD f d w fz h ys o'∧(∀b∈o',b∈o)∧o'.Nodup
 | .nil,j,_,_,_,_,_,_,hl,_,_,_,_=>hl.elim
 | .one l,0,g,x,o,t',f,h,hl,hr,hk,hg,hn=>by
  simp only[Ls.rd]at hr;obtain⟨v,hv,hr⟩:=hr;simp[Ls.kinds]at hk;subst hk;rw[hg]at hv;injection hv with hv;subst hv
  exact⟨x,o,hl,hr,fun b hb=>hb,hn⟩
 | .one _,_+1,_,_,_,_,_,_,hl,_,_,_,_=>hl.elim
 | .cons l ls,0,g,x,o,t',f,h,hl,hr,hk,hg,hn=>by
  simp only[Ls.rd]at hr;obtain⟨v,o1,o2,hv,hr,Xt,rfl⟩:=hr;simp[Ls.kinds]at hk;subst hk;rw[hg]at hv;injection hv with hv;subst hv
  exact⟨x.1,o1,hl,hr,fun b hb=>gX _ hb,(gf.1 hn).1⟩
 | .cons l ls,j+1,g,x,o,t',f,h,hl,hr,hk,hg,hn=>by simp only[Ls.rd]at hr;obtain⟨v,o1,o2,hv,hr,Xt,rfl⟩:=hr;obtain⟨ys,o',a,b,c,d⟩:=Ig ls j (g:=fun j=>g (j+1)) hl Xt (by simpa[Ls.kinds]using hk) hg (gf.1 hn).2.1;grind
theorem Fh{β:Type}{w:World}{fz:Nat→Prop}{k:(t:TypeId)→(e:Ls)→List e.D→Nat→Step β}{z:β}:∀(p:List (Nat×Nat)) {t0:TypeId} {e:Ls} {xs:List e.D} {d:Nat} {h:Value} {o:List Nat} {e':Ls} {v:Value},
  (Oj k p t0 e xs d).leads z→AD e d w fz h xs o→JR w p e h e' v→(p≠[]→d=2)→o.Nodup→∃(t':TypeId) (ys:List e'.D) (o':List Nat),(k t' e' ys d).leads z∧AD e' d w fz v ys o'∧(∀b∈o',b∈o)∧o'.Nodup
 | [],t0,e,xs,d,h,o,e',v,hl,hr,hn,hp,UU=>by obtain⟨rfl,rfl⟩:=hn;exact⟨t0,xs,o,hl,hr,fun b hb=>hb,UU⟩
 |(i,j)::p,t0,e,xs,d,h,o,e',v,hl,hr,hn,hp,UU=>by
  have hd:d=2:=hp (by simp);subst hd;obtain⟨a,len,c,t',f,h',rfl,hs,hi,hk,hc,hn⟩:=hn;obtain⟨A,cc,hv,hle,Wk⟩:=hr;injection hv with hA Ue Yt
  subst hA;subst Ue;subst Yt;rcases Wk with⟨h0,_⟩|⟨g,os,Tb,Tr,ho⟩
  ·simp at h0
  have ho:o=a.block::(List.range xs.length).flatMap os:=ho;have Tr:∀i (h:i<xs.length),e.rd 2 w fz (fun j=>g (i*e.n+j)) xs[i] (os i):=Tr;obtain⟨x,hx,hl⟩:=hl;rw[gK hi]at hx;injection hx with hx;subst hx
  have hg:g (i*e.n+j)=some h':=by rw[←Tb.cell];exact hc
  rw[ho]at UU;obtain⟨nb,nf⟩:=gh.1 UU;obtain⟨ys,o',hl,Th,UO,ZB⟩:=Ig e j hl (Tr i hi) hk hg (CN nf (gZ.2 hi));obtain⟨t2,zs,o2,hl,hz,Wb,Wu⟩:=Fh p hl Th hn (fun _=>rfl) ZB;exact⟨t2,zs,o2,hl,hz,fun b hb=>by grind,Wu⟩
end Go.Ev
namespace Go.Ev
def GS(ovs:Nat→List Nat)(o:List Nat):Prop:=(∀m,(ovs m).Nodup)∧(∀m m',m≠m'→∀b∈ovs m,b∉ovs m')∧∀m,∀b∈ovs m,b∉o
theorem GS.sub{ovs:Nat→List Nat}{o o':List Nat}(h:GS ovs o)(hs:∀b∈o',b∈o):GS ovs o':=⟨h.1,h.2.1,fun m b hb Tk=>h.2.2 m b hb (hs b Tk)⟩
theorem Bu{w:World}{fz:Nat→Prop}{d:Nat}{ovs:Nat→List Nat}:∀(e:Ls)(off:Nat)(vs:List Lv)(cells:List Value)(sh:Nat) {f:e.D→e.D} {g g':Nat→Option Value} {x:e.D} {o:List Nat},Br e off vs=some f→cells.length=vs.length→
  (∀(m:Nat)(lv:Lv),vs[m]?=some lv→∃u,cells[m]?=some u∧lv.l.rd d w fz u lv.x (ovs (sh+m)))→e.rd d w fz g x o→(∀m,m<e.n→g' m=if off≤m∧m<off+vs.length then cells[m-off]? else g m)→
  off+vs.length≤e.n∧∃o',e.rd d w fz g' (f x) o'∧(∀b∈o',b∈o∨∃m,sh≤m∧b∈ovs m)∧(o.Nodup→GS ovs o→o'.Nodup)
 | .nil,off,vs,cells,sh,f,g,g',x,o,hf,hl,hp,hr,hg=>by simp[Br]at hf
 | .one l,off,vs,cells,sh,f,g,g',x,o,hf,hl,hp,hr,hg=>by
  simp only[Br]at hf;split at hf
  ·rename_i v;split at hf
   ·rename_i y hy;injection hf with hf;subst hf
    obtain⟨l',z⟩:=v;obtain⟨e1,e2⟩:=L.AH hy;dsimp only at e1;subst e1;have e2:z=y:=e2;subst e2;obtain⟨u,hu,Tj⟩:=hp 0 ⟨l',z⟩ rfl;refine⟨by simp[Ls.n],ovs sh,?_,fun b hb=>.inr ⟨sh,gk _,hb⟩,fun _ hn=>hn.1 sh⟩;simp only[Ls.rd];refine⟨u,?_,by omega⟩;rw[hg 0 (by simp[Ls.n]),gS (by simp),←hu]
   ·cases hf
  ·cases hf
 | .cons l ls,off,vs,cells,sh,f,g,g',x,o,hf,hl,hp,hr,hg=>by
  simp only[Br]at hf;simp only[Ls.rd]at hr;obtain⟨v0,o1,o2,XG,h1,h2,rfl⟩:=hr;cases off with
  |zero=>
   simp only at hf;split at hf
   ·cases hf
   ·rename_i v;split at hf
    ·rename_i y hy;injection hf with hf;subst hf
     obtain⟨l',z⟩:=v;obtain⟨e1,e2⟩:=L.AH hy;dsimp only at e1;subst e1;have e2:z=y:=e2;subst e2;obtain⟨u,hu,Tj⟩:=hp 0 ⟨l',z⟩ rfl;refine⟨by simp[Ls.n]<;>omega,ovs sh++o2,?_,fun b hb=>?_,fun hn hk=>?_⟩
     ·simp only[Ls.rd];refine⟨u,ovs sh,o2,?_,by omega,Ls.BD ls h2 fun j hj=>by rw[hg (j+1) (by simp[Ls.n]<;>omega),gT (by simp)],rfl⟩;rw[hg 0 (by simp[Ls.n]<;>omega),gS (by simp),←hu]
     ·grind
     ·refine gf.2 ⟨hk.1 sh,(gf.1 hn).2.1,fun a ha b hb e=>?_⟩;subst e;exact hk.2.2 sh a ha (gU _ hb)
    ·cases hf
   ·rename_i v u0 WI;split at hf
    ·rename_i y f' hy We;injection hf with hf;subst hf
     obtain⟨l',z⟩:=v;obtain⟨e1,e2⟩:=L.AH hy;dsimp only at e1;subst e1;have e2:z=y:=e2;subst e2;obtain⟨u,hu,Tj⟩:=hp 0 ⟨l',z⟩ rfl
     obtain⟨c0,cs,rfl⟩:∃c0 cs,cells=c0::cs:=by
      cases cells with
      |nil=>simp at hl
      |cons c cs=>grind
     obtain⟨ih1,o',ih2,ih3,ih4⟩:=Bu ls 0 (u0::WI) cs (sh+1) (g':=fun j=>g' (j+1)) We (by grind) (fun m lv hm=>by
       have:=hp (m+1) lv (by grind);rw[show sh+(m+1)=sh+1+m by omega]at this;simpa using this) h2 (fun m hm=>by
       rw[hg (m+1) (by simp[Ls.n]<;>omega)];grind)
     refine⟨by simp[Ls.n]at ih1 ⊢ <;> omega,ovs sh++o',?_,fun b hb=>?_,fun hn hk=>?_⟩
     ·simp only[Ls.rd];refine⟨u,ovs sh,o',?_,by omega,ih2,rfl⟩;rw[hg 0 (by simp[Ls.n]<;>omega),gS (by simp),←hu]
     ·grind
     ·refine gf.2 ⟨hk.1 sh,ih4 (gf.1 hn).2.1 (hk.sub fun b hb=>gU _ hb),fun a ha b hb e=>?_⟩;subst e;rcases ih3 a hb with hb|⟨m,hm,hb⟩
      ·exact hk.2.2 sh a ha (gU _ hb)
      ·exact hk.2.1 sh m (by omega) a ha hb
    ·cases hf
  |succ off=>
   simp only at hf;split at hf
   ·rename_i f' We;injection hf with hf;subst hf
    obtain⟨ih1,o',ih2,ih3,ih4⟩:=Bu ls off vs cells sh (g':=fun j=>g' (j+1)) We hl hp h2 (fun m hm=>by
     rw[hg (m+1) (by simp[Ls.n]<;>omega)];grind)
    refine⟨by simp[Ls.n]<;>omega,o1++o',?_,fun b hb=>?_,fun hn hk=>?_⟩
    ·simp only[Ls.rd];refine⟨v0,o1,o',?_,h1,ih2,rfl⟩;rw[hg 0 (by simp[Ls.n]<;>omega),gT (by omega)];exact XG
    ·grind
    ·refine gf.2 ⟨(gf.1 hn).1,ih4 (gf.1 hn).2.1 (hk.sub fun b hb=>gU _ hb),fun a ha b hb e=>?_⟩;subst e;rcases ih3 a hb with hb|⟨m,_,hb⟩
     ·grind
     ·exact hk.2.2 m a hb (gX _ ha)
   ·cases hf
theorem Kz{e:Ls}{w:World}{fz:Nat→Prop}{a:Addr}{n k:Nat}{xs:List e.D}{o:List Nat}(hr:AD e 2 w fz (.slice (some a) n k) xs o)(hn:o.Nodup)(hz:∀b∈o,¬fz b){i:Nat}(hi:i<n)
  {off:Nat} {cells:List Value} {F:e.D→e.D} {ovs:Nat→List Nat} (hk:GS ovs o) (Z8:∀m,∀b∈ovs m,¬fz b) (T5:off+cells.length≤e.n)
  (hF:∀g g' x oo,e.rd 2 w fz g x oo→(∀m,m<e.n→g' m=if off≤m∧m<off+cells.length then cells[m-off]? else g m)→∃o',e.rd 2 w fz g' (F x) o'∧(∀b∈o',b∈oo∨∃m,b∈ovs m)∧(oo.Nodup→GS ovs oo→o'.Nodup)):
  a.spot=none∧∃arr T fr,w.heap[a.block]?=some (.cells arr T fr)∧(∀j,j<arr.size→¬(fr.1≤j∧j<fr.2))∧a.off+(i*e.n+off)+cells.length≤arr.size∧a.block∈o∧
   ∃o',o'.Nodup∧(∀b∈o',b∈o∨∃m,b∈ovs m)∧∀w',M4 w w' a.block (B5 cells (a.off+(i*e.n+off)) arr) T fr→AD e 2 w' fz (.slice (some a) n k) (xs.modify i F) o':=by
 obtain⟨A,c,hv,hc,_,T8⟩:=hr.KK;injection hv with hA hl Ud
 subst hA;subst hl;subst Ud;obtain⟨arr,T,fr,os,hs,hh,Tt,Tl,Tr,ho,_⟩:=T8 a rfl (.inr (by omega));have ho:=ho (by omega);have Tl:=Tl (by omega)
 have hmul:i*e.n+e.n≤k*e.n:=by have:(i+1)*e.n≤k*e.n:=gy _ (by omega);rw[gw,ie]at this;omega
 have VU:a.off+(i*e.n+off)+cells.length≤arr.size:=by omega
 have TW:a.block∈o:=by rw[ho];simp
 have Tp:=CR cells (a.off+(i*e.n+off)) arr VU;have UU:=hn;rw[ho]at UU;obtain⟨XD,Ww⟩:=gh.1 UU;have Uc:∀m,m<xs.length→∀b∈os m,b∈o:=fun m hm b hb=>by grind
 obtain⟨oi,Th,UO,YP⟩:=hF _ (fun q=>(B5 cells (a.off+(i*e.n+off)) arr)[a.off+(i*e.n+q)]?) _ _ (Tr i hi) (fun q hq=>by
  show(B5 cells (a.off+(i*e.n+off)) arr)[a.off+(i*e.n+q)]?=_;rw[Tp];by_cases hc:off≤q∧q<off+cells.length
  ·rw[gS (by omega),gS hc];congr 1;omega
  grind)
 have YP:=YP (CN Ww (gZ.2 hi)) (hk.sub (Uc i hi))
 let UP:Nat→List Nat:=fun m=>if m=i then oi else os m
 have cI:∀m,m<xs.length→∀b∈UP m,b∈os m∨∃q,b∈ovs q:=by
  intro m hm b hb;simp only[UP]at hb;split at hb
  ·grind
  ·exact .inl hb
 have ZD:∀m,m<xs.length→a.block∉UP m:=by
  intro m hm hb;rcases cI m hm _ hb with hb|⟨q,hb⟩
  ·grind
  ·exact hk.2.2 q _ hb TW
 refine⟨hs,arr,T,fr,hh,Tl,VU,TW,a.block::(List.range xs.length).flatMap UP,?_,?_,fun w' Tm=>?_⟩
 ·refine gh.2 ⟨fun hb=>?_,FH List.nodup_range (fun m hm=>?_) fun m hm m' U5 Tf b hb Tk=>?_⟩
  ·grind
  ·grind
  ·have hd:=CM Ww hm U5 Tf;simp only[UP]at hb Tk;split at hb
   ·rename_i e1;split at Tk
    ·omega
    ·subst e1;rcases UO b hb with hb|⟨q,hb⟩
     ·grind
     ·exact hk.2.2 q b hb (Uc m' (gZ.1 U5) b Tk)
   ·split at Tk
    ·rename_i e2;subst e2;rcases UO b Tk with Tk|⟨q,Tk⟩
     ·exact hd b hb Tk
     ·exact hk.2.2 q b Tk (Uc m (gZ.1 hm) b hb)
    grind
 ·grind
 ·refine⟨some a,k,by simp,by simpa using hc,?_⟩;refine .inr ⟨fun q=>(B5 cells (a.off+(i*e.n+off)) arr)[a.off+q]?,UP,⟨hs,_,T,fr,Tm.here,by rw[Am];exact Tt,fun _=>by rw[Am];exact Tl,fun _=>rfl⟩,fun m hm=>?_,?_⟩
  ·have U5:m<xs.length:=by simpa using hm
   rw[FM]
   have VA:∀ {g x},e.rd 2 w fz g x (UP m)→e.rd 2 w' fz g x (UP m):=fun h=>Ls.AI e h (fun b hb=>Tm.CG b (by
    rintro rfl
    rcases hb with hb|hb
    ·exact ZD m U5 hb
    ·exact hz _ TW hb)) fun _ hb=>hb
   by_cases VL:i=m
   ·subst VL;rw[gS rfl];refine VA ?_;have:UP i=oi:=by simp[UP]
    rw[this];exact Th
   ·rw[gT VL];have:UP m=os m:=by simp only[UP];rw[gT (fun e=>VL e.symm)]
    refine VA ?_;rw[this];refine Ls.BD e (Tr m U5) fun q hq=>?_;show(B5 cells (a.off+(i*e.n+off)) arr)[a.off+(m*e.n+q)]?=_;rw[Tp,gT];intro hc;rcases iZ VL with h1|h1
    ·have:(i+1)*e.n≤m*e.n:=gy _ h1;rw[gw,ie]at this;omega
    ·have:(m+1)*e.n≤i*e.n:=gy _ h1;rw[gw,ie]at this;omega
  grind
theorem MQ{vs:List Lv}{cells:List Value}{w:World}{fz:Nat→Prop}{ovs:Nat→List Nat}(hl:cells.length=vs.length)(hp:∀(m:Nat)(lv:Lv),vs[m]?=some lv→∃u,cells[m]?=some u∧lv.l.rd 2 w fz u lv.x (ovs m))(Vh:∀m,vs.length≤m→ovs m=[])
  {i off:Nat} {e:Ls} {a:Addr} {n k:Nat} (hi:i<n) {xs:List e.D} {o:List Nat} {f:List e.D→List e.D} (hm:Gq vs [(i,off)] e=some f) (hr:AD e 2 w fz (.slice (some a) n k) xs o) (hn:o.Nodup) (hz:∀b∈o,¬fz b) (hk:GS ovs o) (Z8:∀m,∀b∈ovs m,¬fz b):
  a.spot=none∧∃arr T fr,w.heap[a.block]?=some (.cells arr T fr)∧(∀j,j<arr.size→¬(fr.1≤j∧j<fr.2))∧a.off+(i*e.n+off)+cells.length≤arr.size∧a.block∈o∧
   ∃o',o'.Nodup∧(∀b∈o',b∈o∨∃m,b∈ovs m)∧∀w',M4 w w' a.block (B5 cells (a.off+(i*e.n+off)) arr) T fr→AD e 2 w' fz (.slice (some a) n k) (f xs) o':=by
 simp only[Gq]at hm;split at hm
 ·rename_i y hy;injection hm with hm;subst hm
  split at hy
  ·rename_i hc;simp only[gL,gV]at hc;obtain⟨rfl,hlen⟩:=hc;have Vg:=Ag e vs y hy
   have:=Kz (F:=fun _=>y) (off:=0) (cells:=cells) (ovs:=ovs) hr hn hz hi hk Z8 (by omega) (fun g g' x oo hx hg=>⟨_,De e (os:=ovs) (fun j lv hj=>by
     grind),fun b hb=>by
     grind,fun _ hk=>D3 hk.1 hk.2.1 _⟩)
   simpa only[D5]using this
  ·cases hy
 ·split at hm
  ·rename_i f' We;injection hm with hm;subst hm
   have Xq:∀(m:Nat)(lv:Lv),vs[m]?=some lv→∃u,cells[m]?=some u∧lv.l.rd 2 w fz u lv.x (ovs (0+m)):=fun m lv hm=>by grind
   obtain⟨A,c,hv,hc,_,T8⟩:=hr.KK;injection hv with hA Ue Ud
   subst hA;subst Ue;subst Ud;obtain⟨arr,T,fr,os,_,_,_,_,Tr,_,_⟩:=T8 a rfl (.inr (by omega));have T5:=(Bu e off vs cells 0 (g':=fun m=>if off≤m∧m<off+vs.length then cells[m-off]? else _) We hl Xq (Tr i hi) fun m _=>rfl).1
   exact Kz (F:=f') (off:=off) (cells:=cells) (ovs:=ovs) hr hn hz hi hk Z8 (by omega) (fun g g' x oo hx hg=>by
    obtain⟨_,o',q1,q2,q3⟩:=Bu e off vs cells 0 (g':=g') (ovs:=ovs) We hl Xq hx fun m hm=>by rw[hg m hm,hl]
    grind)
  ·cases hm
section
variable {P:Program}{E:Cr}{s:St}{W:Wd}{v:Nat}{tm:Array Value}
def IV(W:Wd)(w':World)(r j:Nat)(o':List Nat)(us:List (Nat×Nat)):Wd:=
 { W with w:=w',om:=fun k=>match k with
   | .lf a b=>if a=r∧b=j then o' else if(a,b)∈us then []else W.om (.lf a b)
   |k=>W.om k }
theorem AU.Lp(h:AU E s tm W)(hv:Ac s v){r j AA gen:Nat}{t:TypeId}{e:Ls}{xs UJ:List e.D}(hl:s.leaf r j=.arr AA gen t e xs 2){u:Value}(T3:W.cv r j=some u){us:List (Nat×Nat)}(Yn:(r,j)∉us)
  {w':World} {AS:Nat} (Ug:AS∈W.om (.lf r j)) (hw:∀b,b≠AS→w'.heap[b]?=W.w.heap[b]?) (Tt:w'.heap.size=W.w.heap.size) (Tn:w'.os=W.w.os∧w'.tape=W.w.tape∧w'.output=W.w.output)
  {o':List Nat} (UU:o'.Nodup) (UR:∀b∈o',b∈W.om (.lf r j)∨∃a c,(a,c)∈us∧b∈W.om (.lf a c)) (Th:AD e 2 w' W.fz u UJ o'):
  AU E (s.app (gone us++[.leaf r j (.arr AA v t e UJ 2)])) tm (IV W w' r j o' us):=by
 obtain⟨hr,hj⟩:=G2 hl;rw[BC];show AU E ((s.app (gone us)).AF (.leaf r j (.arr AA v t e UJ 2))) tm _;obtain⟨WL,VZ⟩:=Dm s us;have Wb:=BF (s.app (gone us)) r j (.arr AA v t e UJ 2);have Wi:=ET (s.app (gone us)) r j (.arr AA v t e UJ 2);generalize (s.app (gone us)).AF (.leaf r j (.arr AA v t e UJ 2))=s' at Wb Wi;have Ta:JY s s':=⟨Wb.sl.trans WL.sl,Wb.len.trans WL.len,fun x=>⟨(Wb.box x).1.trans (WL.box x).1,(Wb.box x).2.1.trans (WL.box x).2.1,(Wb.box x).2.2.trans (WL.box x).2.2⟩⟩
 have TV:∀a b,s'.leaf a b=if a=r∧b=j then .arr AA v t e UJ 2 else if(a,b)∈us then .bad else s.leaf a b:=by
  intro a b;rw[Wi,VZ];by_cases hc:a=r∧b=j
  ·obtain⟨rfl,rfl⟩:=hc;rw[gS ⟨rfl,rfl,by rw[WL.len];exact hr,by rw[(WL.box a).2.2];exact hj⟩,gS ⟨rfl,rfl⟩]
  ·grind
 have WB:∀k,∀b∈W.om k,k≠.lf r j→b≠AS:=fun k b hb hk e=>h.sep.Ar k _ hk b hb (e▸Ug);have Uu:∀b,W.fz b→b≠AS:=fun b hb e=>(h.sep.own _ _ Ug).1 (e▸hb);refine h.MR (W':=IV W w' r j o' us) hv Ta (fun a b=>(a=r∧b=j)∨(a,b)∈us) (fun _=>False) (fun a b hc=>?_) (fun _ _ _=>rfl) (fun _ _ hh=>hh.elim) (fun _=>rfl) (fun a b hc=>?_) (fun _=>rfl) (fun b hb=>?_) (fun b hb=>hb) ?_ ?_ (fun _ a b hc=>?_) (fun _ hh=>hh.elim)
 ·grind
 ·show(if a=r∧b=j then o' else if(a,b)∈us then []else W.om (.lf a b))=_;grind
 ·refine hw b ?_;grind
 ·intro a b AA gen t e xs d hc hl Tf;refine⟨rfl,?_⟩;grind
 ·refine h.sep.H0 (W':=IV W w' r j o' us) (fun k=>match k with
   | .lf a b=>(a=r∧b=j)∨(a,b)∈us
   |_=>False) rfl (by show _≤w'.heap.size;omega) (fun b h1 h2=>hw b fun e=>?_) Tn (fun k hk=>?_) (fun k hk=>?_) (fun k k' hk Ud Tf b hb Tk=>?_) fun k hk b hb=>?_
  ·have:=(h.sep.own _ _ Ug).2.2;grind
  ·cases k with
   |lf a b=>
    show(if a=r∧b=j then o' else if(a,b)∈us then []else W.om (.lf a b))=_;grind
   |_=>rfl
  ·cases k with
   |lf a b=>
    show(if a=r∧b=j then o' else if(a,b)∈us then []else W.om (.lf a b)).Nodup;grind
   |_=>exact hk.elim
  ·have one:∀k:Key,(match k with | .lf a b=>(a=r∧b=j)∨(a,b)∈us|_=>False)→∀b∈(IV W w' r j o' us).om k,k=.lf r j:=by
    intro k hk b hb;cases k with
    |lf a c=>
     have hb:b∈(if a=r∧c=j then o' else if(a,c)∈us then []else W.om (.lf a c)):=hb;split at hb
     ·rename_i hh;obtain⟨rfl,rfl⟩:=hh;rfl
     ·rename_i hh;rw[gS (hk.resolve_left hh)]at hb;cases hb
    |_=>exact hk.elim
   grind
  ·cases k with
   |lf a c=>
    have hb:b∈(if a=r∧c=j then o' else if(a,c)∈us then []else W.om (.lf a c)):=hb;grind
   |_=>exact hk.elim
 ·show Aa s' (IV W w' r j o' us) (s'.leaf a b) (W.cv a b) (if a=r∧b=j then o' else if(a,b)∈us then []else W.om (.lf a b));rw[TV];by_cases hh:a=r∧b=j
  ·rw[gS hh,gS hh];obtain⟨rfl,rfl⟩:=hh;exact⟨u,T3,Th⟩
  ·rw[gT hh,gT hh,gS (hc.resolve_left hh),gS (hc.resolve_left hh)];exact⟨rfl,fun _ _=>trivial⟩
end
end Go.Ev
namespace Go.Ev
section
variable {P:Program}
theorem Jm{t t0 ty:TypeId}{e:Ls}(T6:P.underlying t=some (.slice t0))(Tr:Lz P t0 e)(hf:Bo e=true){w:World}{fz fz2:Nat→Prop}(Uu:∀b,fz b→b<w.heap.size){ux uy:Value}{xs ys:List e.D}{o1:List Nat}
  (hx:AD e 2 w fz ux xs o1) (hy:AD e 0 w fz2 uy ys []) (hlen:xs.length+ys.length≤Dc):
  ∃u w',(Builtin.append_ #[t,t] ty #[ux,uy]).run P w=.ok u w'∧(w'.os=w.os∧w'.tape=w.tape∧w'.output=w.output)∧w.heap.size≤w'.heap.size∧(∀b,b<w.heap.size→b∉o1→w'.heap[b]?=w.heap[b]?)∧
   AD e 2 w' fz ux xs o1∧∃o',AD e 2 w' fz u (xs++ys) o'∧∀b∈o',b∈o1∨(w.heap.size≤b∧b<w'.heap.size):=by
 obtain⟨i,hi,Tt,Xa,z,hz,WH⟩:=Tr.info;have WC:=Tr.pos;have UC:xs.length+ys.length≤68719476736:=hlen;have Zw:=hx.dep
 have Uw:∃A c g,uy=.slice A ys.length c∧(A=none→ys=[])∧(∀ad,A=some ad→ys≠[]→ad.spot=none∧∀k,w.cell? (at_ ad k)=g k)∧Bx e 2 w fz g ys fun _=>[]:=by
  obtain⟨A,c,hv,hc,hn,T8⟩:=hy.KK;cases A with
  |none=>
   have:ys=[]:=gQ (by grind);subst this;exact⟨none,c,fun _=>none,hv,fun _=>rfl,(fun ad Uf _=>by cases Uf),(fun i hi=>by simp at hi)⟩
  |some ad=>
   by_cases ZT:c=0
   ·have:ys=[]:=gQ (by omega);subst this;exact⟨some ad,c,fun _=>none,hv,fun _=>rfl,(fun ad Uf Tf=>absurd rfl Tf),(fun i hi=>by simp at hi)⟩
   obtain⟨arr,T,fr,os,hs,hh,_,_,Tr,_,_⟩:=T8 ad rfl (.inl (by omega));refine⟨some ad,c,_,hv,(fun hA=>by cases hA),?_,Bx.flat hf Tr 2 w fz⟩;intro Yp Uf _;injection Uf with Uf;subst Uf
   exact⟨hs,fun k=>by simp[World.cell?,at_,hh]⟩
 obtain⟨A1,c1,X9,bP,Zl,WL⟩:=hx.KK;obtain⟨A2,c2,g2,af,Zm,Wb,VJ⟩:=Uw
 have WU:∃news:List Value,news.length=ys.length*e.n∧(∀k,k<ys.length*e.n→news[k]?=g2 k)∧(∀v∈news,v.oneCell'=true)∧
   (Builtin.firstCells i.size ys.length (.slice A2 ys.length c2)).run P w=.ok news.toArray w∧∀ad,A2=some ad→∀j u,news[j]?=some u→w.cell? (ad.add j)=some u:=by
  have Ts:=VJ.cell
  have U1:∀ad,A2=some ad→∀j u,(BS g2 (ys.length*e.n))[j]?=some u→w.cell? (ad.add j)=some u:=by
   intro ad Uf j u hj;have Tc:j<ys.length*e.n:=by have:=(gM.1 hj).1;rwa[AL]at this
   rw[Bc Ts j Tc]at hj;obtain⟨hs,hg⟩:=Wb ad Uf (fun h0=>by grind);rw[EF hs,hg,hj]
  refine⟨BS g2 (ys.length*e.n),AL _ _,Bc Ts,FG Ts,?_,U1⟩;cases hA:A2 with
  |none=>
   have:=Zm hA;subst this;rw[run_firstCells_none];simp[BS]
  |some ad=>exact run_firstCells_some w i.size ys.length ad ys.length c2 _ (by rw[AL,Tt]) (U1 ad hA)
 obtain⟨news,U6,Xp,Xn,Ww,Ux⟩:=WU
 have fresh:∀(arr:Array Value)(cap:Nat),xs.length+ys.length≤cap→cap*e.n≤arr.size→Bx e 2 w fz (fun k=>arr[k]?) xs (fun _=>[])→(∀k,k<ys.length*e.n→arr[xs.length*e.n+k]?=g2 k)→
   AD e 2 (w.drew.alloc (.cells arr t0)) fz ux xs o1∧(∀b,b<w.heap.size→b∉o1→(w.drew.alloc (.cells arr t0)).heap[b]?=w.heap[b]?)∧w.heap.size≤(w.drew.alloc (.cells arr t0)).heap.size∧
   ∃o',AD e 2 (w.drew.alloc (.cells arr t0)) fz (.slice (some ⟨w.heap.size,0,none⟩) (xs.length+ys.length) cap) (xs++ys) o'∧∀b∈o',b∈o1∨(w.heap.size≤b∧b<(w.drew.alloc (.cells arr t0)).heap.size):=by
  intro arr cap Ua UM Vd ZP;have hold:∀b,b<w.heap.size→(w.drew.alloc (.cells arr t0)).heap[b]?=w.heap[b]?:=fun b hb=>alloc_old w.drew _ hb;refine⟨hx.frame (fun b hb=>hold b (hb.elim (Zw b) (Uu b))) fun _ hb=>hb,fun b hb _=>hold b hb,by grind,?_⟩
  have Ut:Bx e 2 (w.drew.alloc (.cells arr t0)) fz (fun k=>arr[0+k]?) (xs++ys) fun i=>if i<xs.length then []else []:=by
   refine Bx.append (os:=fun _=>[]) (UP:=fun _=>[]) ?_ ?_
   ·exact Bx.congr (g:=fun k=>arr[k]?) (Vd.flat hf 2 _ fz) fun k _=>by grind
   ·exact Bx.congr (g:=g2) (VJ.flat hf 2 _ fz) fun k hk=>by grind
  have Tb:=E5 (w:=w.drew.alloc (.cells arr t0)) (ad:=⟨w.heap.size,0,none⟩) (c:=cap) (fr:=(0,0)) (T:=t0) (heap_alloc_new w.drew _) rfl (by omega) (by grind) (by grind) Ut;rw[iD]at Tb;refine⟨_,Tb,fun b hb=>?_⟩;rcases gj.1 hb with rfl|hb
  ·exact .inr ⟨gk _,by rw[Ap];exact Nat.lt_succ_self _⟩
  ·grind
 subst X9;subst af;cases A1 with
 |none=>
  obtain⟨rfl,rfl⟩:=Zl rfl;have WE:xs=[]:=gQ (by omega);subst WE;cases ys with
  |nil=>exact⟨_,_,Cp t ty t0 i T6 hi 0 A2 c2 news Ww,⟨rfl,rfl,rfl⟩,gk _,fun _ _ _=>rfl,hx,[],Bj,fun b hb=>by cases hb⟩
  |cons y ys=>
   cases A2 with
   |none=>grind
   |some ad2=>
    have US:=grownCap_ge w (y::ys).length 0 t0
    obtain⟨f1,f2,f3,o',f4,f5⟩:=fresh (news.toArray++Builtin.zeroCells z.cells (grownCap w (y::ys).length 0 t0-(y::ys).length)) (grownCap w (y::ys).length 0 t0) (by simpa using US)
     (by
      have:(y::ys).length*e.n+(grownCap w (y::ys).length 0 t0-(y::ys).length)*e.n=grownCap w (y::ys).length 0 t0*e.n:=by rw[←gw];congr 1;omega
      simp only[iN,iM,U6,Builtin.zeroCells,iT,iW,WH,iG,A9];omega) (fun i hi=>by simp at hi)
     (by
      intro k hk;rw[←Xp k hk];simp only[List.length_nil,Nat.zero_mul,gb];rw[gu (by simpa[U6]using hk)];simp)
    refine⟨_,_,run_append_nil w t ty t0 i z T6 hi hz ad2 (y::ys).length c2 news (by rw[U6,Tt]) (Ux ad2 rfl) (by simp) (by simp at UC ⊢;omega) (hZ (iY (show _≤68719476736 by simp at UC ⊢;omega) Xa) (by decide)),⟨rfl,rfl,rfl⟩,f3,f2,f1,o',?_,f5⟩;grind
 |some ad1=>
  obtain⟨arr,T,fr,os1,hs,hh,T5,UX,Vd,WW,_⟩:=WL ad1 rfl (.inr (by decide));have Vx:o1=ad1.block::(List.range xs.length).flatMap os1:=WW (by decide);have Tl:=UX (by decide);clear WW UX WL;obtain⟨b1,Tw,sp1⟩:=ad1;dsimp only at hs hh T5 Vd Vx;subst hs;have U9:b1∈o1:=by rw[Vx];simp
  by_cases Ua:xs.length+ys.length≤c1
  ·
   have hmul:(xs.length+ys.length)*e.n≤c1*e.n:=gy _ Ua;rw[gw]at hmul;obtain⟨w',Vb,Tm⟩:=DT (P:=P) (o:=Tw+xs.length*e.n) news hh Tl (by rw[U6];omega) Xn;have U1:(⟨b1,Tw,none⟩:Addr).add (xs.length*i.size)=⟨b1,Tw+xs.length*e.n,none⟩:=by rw[Tt];exact addr_add _ _ _
   have Tp:=CR news (Tw+xs.length*e.n) arr (by rw[U6];omega)
   have WY:Bx e 2 w' fz (fun k=>(B5 news (Tw+xs.length*e.n) arr)[Tw+k]?) xs os1:=by intro i hi;refine Ls.BD e (Ls.AZ e hf (Vd i hi) (d':=2) (w':=w') (TZ:=fz)).1 fun j hj=>?_;have Tc:=KX hi hj;show(B5 news (Tw+xs.length*e.n) arr)[Tw+(i*e.n+j)]?=_;rw[Tp,gT (by omega)]
   have Ut:Bx e 2 w' fz (fun k=>(B5 news (Tw+xs.length*e.n) arr)[Tw+k]?) (xs++ys) fun i=>if i<xs.length then os1 i else []:=by refine Bx.append (UP:=fun _=>[]) WY ?_;refine Bx.congr (g:=g2) (VJ.flat hf 2 w' fz) fun k hk=>?_;rw[←Xp k hk,Tp,gS (by rw[U6];omega)];congr 1;omega
   have Tb:=E5 (w:=w') (ad:=⟨b1,Tw,none⟩) (c:=c1) Tm.here rfl (by rw[Am];exact Tl) (by rw[Am];exact T5) (by simpa using Ua) Ut;have aS:=E5 (w:=w') (ad:=⟨b1,Tw,none⟩) (c:=c1) Tm.here rfl (by rw[Am];exact Tl) (by rw[Am];exact T5) bP WY;rw[iD]at Tb;refine⟨_,_,DE t ty t0 i T6 hi ⟨b1,Tw,none⟩ xs.length c1 A2 ys.length c2 news Ww Ua (by rw[U1];exact Vb),Tm.rest,by rw[Tm.size];exact gk _,fun b hb hn=>Tm.CG b fun e=>hn (e▸U9),by rw[Vx];exact aS,_,Tb,fun b hb=>?_⟩;grind
  ·
   cases A2 with
   |none=>grind
   |some ad2=>
    have Vi:=Vd.cell;have X2:=Bc Vi
    have holds:∀j u,(BS (fun k=>arr[Tw+k]?) (xs.length*e.n))[j]?=some u→w.cell? ((⟨b1,Tw,none⟩:Addr).add j)=some u:=by
     intro j u hj;have Tc:j<xs.length*e.n:=by have:=(gM.1 hj).1;rwa[AL]at this
     rw[X2 j Tc]at hj;rw[addr_add];simp only[World.cell?,hh];simpa using hj
    have US:=grownCap_ge w (xs.length+ys.length) c1 t0
    obtain⟨f1,f2,f3,o',f4,f5⟩:=fresh (((BS (fun k=>arr[Tw+k]?) (xs.length*e.n)).toArray++news.toArray)++Builtin.zeroCells z.cells (grownCap w (xs.length+ys.length) c1 t0-(xs.length+ys.length))) (grownCap w (xs.length+ys.length) c1 t0) US
     (by
      have:xs.length*e.n+ys.length*e.n+(grownCap w (xs.length+ys.length) c1 t0-(xs.length+ys.length))*e.n=grownCap w (xs.length+ys.length) c1 t0*e.n:=by rw[←gw,←gw];congr 1;omega
      simp only[iN,iM,U6,AL,Builtin.zeroCells,iT,iW,WH,iG,A9];omega)
     (Bx.congr (Vd.flat hf 2 w fz) fun k hk=>by
      grind)
     (by
      intro k hk;rw[←Xp k hk];rw[gu (by simp[AL,U6];omega),Array.getElem?_append_right (by simp[AL])];simp[AL])
    exact⟨_,_,run_append_grow w t ty t0 i z T6 hi hz ⟨b1,Tw,none⟩ xs.length c1 (BS (fun k=>arr[Tw+k]?) (xs.length*e.n)) (by rw[AL,Tt]) holds ad2 ys.length c2 news (by rw[U6,Tt]) (Ux ad2 rfl) (by omega) (by omega)
     (growslice_fits (by omega) (hZ (iY UC Xa) (by decide))),⟨rfl,rfl,rfl⟩,f3,f2,f1,o',f4,f5⟩
theorem AD.half{e:Ls}{w:World}{fz:Nat→Prop}{v:Value}{xs:List e.D}{o:List Nat}(h:AD e 2 w fz v xs o)(hn:o.Nodup):
  ∃o1,(∀b∈o1,b∈o∧∃a n c,v=.slice (some a) n c∧b=a.block)∧o1.Nodup∧∀TZ:Nat→Prop,(∀b,fz b→TZ b)→(∀b∈o,b∉o1→TZ b)→AD e 1 w TZ v xs o1:=by
 obtain⟨A,c,hv,hc,h⟩:=h;cases A with
 |none=>exact⟨[],(fun b hb=>by cases hb),gR,fun _ _ _=>⟨none,c,hv,hc,h.1,rfl⟩⟩
 |some a=>
  rcases h with⟨h,_⟩|⟨g,os,Tb,Tr,ho⟩
  ·cases h
  have ho:o=a.block::(List.range xs.length).flatMap os:=ho;refine⟨[a.block],fun b hb=>⟨by grind,a,_,_,hv,hJ.1 hb⟩,gh.2 ⟨by simp,gR⟩,fun TZ hz hf=>?_⟩;obtain⟨hs,arr,T,fr,hh,dF,hb,hg⟩:=Tb;refine⟨some a,c,hv,hc,.inr ⟨g,fun _=>[],⟨hs,arr,T,fr,hh,dF,fun _=>hb rfl,hg⟩,fun i hi=>?_,?_⟩⟩
  ·refine Ls.Cc e (Tr i hi) fun b hb=>?_;grind
  ·show _=_;simp[DM]
theorem Ho{e f:Ls}{w:World}{fz:Nat→Prop}{a:Addr}{len c i off:Nat}{xs:List e.D}{o:List Nat}{t:TypeId}{u:Value}{ys:List f.D}{po:List Nat}(h:AD e 2 w fz (.slice (some a) len c) xs o)(hn:o.Nodup)(hi:i<len)
  (hk:e.kinds[off]?=some (.sl t f)) (hc:w.cell? (at_ a (i*e.n+off))=some u) (hr:AD f 2 w fz u ys po):a.block∉po:=by
 obtain⟨A,c',hv,_,h⟩:=h;injection hv with hA hl _
 subst hA;subst hl;rcases h with⟨h,_⟩|⟨g,os,Tb,Tr,ho⟩
 ·cases h
 have ho:o=a.block::(List.range xs.length).flatMap os:=ho;obtain⟨h2,zs,o',hg,Th,UO⟩:=Ls.G5 e off (Tr i hi) hk
 have hu:h2=u:=by have:=Tb.cell (i*e.n+off);rw[this,hg]at hc;exact Option.some.inj hc
 subst hu;obtain⟨_,e2⟩:=hr.uniq Th;grind
theorem J0:∀(e:Ls)(j:Nat) {G:(t:TypeId)→(f:Ls)→Option (List f.D→List f.D)} {h:e.D→e.D},CI e j G=some h→(∀t f g,G t f=some g→∀l,g l=l)→∀x,h x=x
 | .nil,j,G,h,hm,hG,x=>by simp[CI]at hm
 | .one l,0,G,h,hm,hG,x=>by
  cases l with
  |sl t f=>exact hG t f h hm x
  |_=>simp[CI]at hm
 | .one l,j+1,G,h,hm,hG,x=>by simp[CI]at hm
 | .cons l ls,0,G,h,hm,hG,x=>by
  simp only[CI]at hm;split at hm
  ·split at hm
   ·rename_i hh;injection hm with hm;subst hm
    exact Prod.ext (hG _ _ _ hh x.1) rfl
   ·cases hm
  ·cases hm
 | .cons l ls,j+1,G,h,hm,hG,x=>by
  simp only[CI]at hm;split at hm
  ·rename_i hh;injection hm with hm;subst hm
   exact Prod.ext rfl (J0 ls j hh hG x.2)
  ·cases hm
theorem Hm:∀(e:Ls)(j:Nat) {G:(t:TypeId)→(f:Ls)→Option (List f.D→List f.D)} {t:TypeId} {f:Ls} {g:List f.D→List f.D},e.kinds[j]?=some (.sl t f)→G t f=some g→∃h,CI e j G=some h
 | .nil,j,G,t,f,g,hk,hg=>by simp[Ls.kinds]at hk
 | .one l,0,G,t,f,g,hk,hg=>by simp[Ls.kinds]at hk;subst hk;exact⟨g,hg⟩
 | .one l,j+1,G,t,f,g,hk,hg=>by simp[Ls.kinds]at hk
 | .cons l ls,0,G,t,f,g,hk,hg=>by simp[Ls.kinds]at hk;subst hk;exact⟨_,by simp only[CI,hg];rfl⟩
 | .cons l ls,j+1,G,t,f,g,hk,hg=>by
  obtain⟨h,hh⟩:=Hm ls j (by simpa[Ls.kinds]using hk) hg;exact⟨_,by simp only[CI,hh];rfl⟩
end
section
variable {P:Program}
mutual
theorem Hz:∀(l:L) {w:World} {fz:Nat→Prop} {v:Value} {x:l.D},l.rd 0 w fz v x []→l.rd 0 w (fun b=>fz b∧b<w.heap.size) v x []
 | .int _,_,_,_,_,h=>h
 | .bool,_,_,_,_,h=>h
 | .str,_,_,_,_,h=>h
 | .sl t e,w,fz,v,x,h=>by
  rw[L.Hy]at h ⊢;obtain⟨A,c,hv,hc,h⟩:=h;refine⟨A,c,hv,hc,?_⟩;cases A with
  |none=>exact h
  |some a=>
   rcases h with h|⟨g,os,Tb,Tr,ho⟩
   ·exact .inl h
   ·have ho:fz a.block∧[]=[]∧∀i,i<List.length (α:=e.D) x→os i=[]:=ho;refine .inr ⟨g,os,Tb,fun i hi=>?_,⟨ho.1,Tb.lt⟩,ho.2⟩;have h1:=Tr i hi;rw[ho.2.2 i hi]at h1 ⊢;exact GN e h1
theorem GN:∀(ls:Ls) {w:World} {fz:Nat→Prop} {g:Nat→Option Value} {x:ls.D},ls.rd 0 w fz g x []→ls.rd 0 w (fun b=>fz b∧b<w.heap.size) g x []
 | .nil,_,_,_,_,_=>by simp only[Ls.rd]
 | .one l,w,fz,g,x,h=>by simp only[Ls.rd]at h ⊢;obtain⟨v,hg,h⟩:=h;exact⟨v,hg,Hz l h⟩
 | .cons l ls,w,fz,g,x,h=>by simp only[Ls.rd]at h ⊢;obtain⟨v,o1,o2,hg,h1,h2,ho⟩:=h;obtain⟨e1,e2⟩:=List.append_eq_nil_iff.1 ho.symm;subst e1;subst e2;exact⟨v,[],[],hg,Hz l h1,GN ls h2,rfl⟩
end
theorem AD.N6{e:Ls}{w w':World}{fz TZ:Nat→Prop}{v:Value}{xs:List e.D}{o:List Nat}(h:AD e 1 w fz v xs o)(hold:∀b,b<w.heap.size→w'.heap[b]?=w.heap[b]?)(ho:∀b∈o,b<w.heap.size)(hz:∀b,fz b→TZ b):AD e 1 w' TZ v xs o:=by
 obtain⟨A,c,hv,hc,h⟩:=h;refine⟨A,c,hv,hc,?_⟩;cases A with
 |none=>exact h
 |some a=>
  rcases h with h|⟨g,os,Tb,Tr,h2⟩
  ·exact .inl h
  refine .inr ⟨g,fun _=>[],Tb.frame (hold _ Tb.lt),fun i hi=>?_,?_⟩
  ·have h1:e.rd 0 w fz (fun j=>g (i*e.n+j)) xs[i] (os i):=Tr i hi;rw[Ls.Bk e h1]at h1;exact Ls.AI e (GN e h1) (fun b hb=>hold b (hb.elim (fun hb=>by cases hb) fun hb=>hb.2)) fun b hb=>hz b hb.1
  ·have h2:o=a.block::(List.range xs.length).flatMap os:=h2
   have:(List.range xs.length).flatMap os=[]:=by rw[List.flatMap_eq_nil_iff];intro i hi;exact Ls.Bk e (Tr i (gZ.1 hi))
   show o=_;rw[h2,this];simp[DM]
theorem MP{e:Ls}{w:World}{fz:Nat→Prop}{xs:List e.D}{ad:Addr}{arr:Array Value}{T:TypeId}{fr:Nat×Nat}{c:Nat}(hh:w.heap[ad.block]?=some (.cells arr T fr))(hs:ad.spot=none)(hb:∀j,j<arr.size→¬(fr.1≤j∧j<fr.2))
  (hc:ad.off+c*e.n≤arr.size) (hl:xs.length≤c) (Tr:Bx e 0 w fz (fun k=>arr[ad.off+k]?) xs fun _=>[]):
  AD e 1 w fz (.slice (some ad) xs.length c) xs [ad.block]:=
 ⟨some ad,c,rfl,hl,.inr ⟨fun k=>arr[ad.off+k]?,fun _=>[],⟨hs,arr,T,fr,hh,hc,fun _=>hb,fun j=>rfl⟩,Tr,by show _=_;simp[DM]⟩⟩
theorem OC{e:Ls}{w:World}{fz:Nat→Prop}{xs:List e.D}{ad:Addr}{arr:Array Value}{T:TypeId}{fr:Nat×Nat}{c:Nat}(hh:w.heap[ad.block]?=some (.cells arr T fr))(hs:ad.spot=none)(hz:fz ad.block)
  (hc:ad.off+c*e.n≤arr.size) (hl:xs.length≤c) (Tr:Bx e 0 w fz (fun k=>arr[ad.off+k]?) xs fun _=>[]):
  AD e 0 w fz (.slice (some ad) xs.length c) xs []:=
 ⟨some ad,c,rfl,hl,.inr ⟨fun k=>arr[ad.off+k]?,fun _=>[],⟨hs,arr,T,fr,hh,hc,fun h=>by simp at h,fun j=>rfl⟩,Tr,hz,rfl,fun _ _=>rfl⟩⟩
theorem Bx.zero{e:Ls}{w:World}{fz:Nat→Prop}{g:Nat→Option Value}{xs:List e.D}{os:Nat→List Nat}(h:Bx e 0 w fz g xs os):Bx e 0 w fz g xs fun _=>[]:=fun i hi=>by have:=h i hi;rw[Ls.Bk e this]at this;exact this
theorem Jt{t t0 ty:TypeId}{e:Ls}(T6:P.underlying t=some (.slice t0))(Tr:Lz P t0 e){w:World}{fz:Nat→Prop}(Uu:∀b,fz b→b<w.heap.size){ux uy:Value}{xs ys:List e.D}{o1:List Nat}
  (hx:AD e 1 w fz ux xs o1) (WB:∀b∈o1,¬fz b) (hy:AD e 0 w fz uy ys []) (hlen:xs.length+ys.length≤Dc):
  ∃u w',(Builtin.append_ #[t,t] ty #[ux,uy]).run P w=.ok u w'∧(w'.os=w.os∧w'.tape=w.tape∧w'.output=w.output)∧w.heap.size≤w'.heap.size∧(∀b,b<w.heap.size→b∉o1→w'.heap[b]?=w.heap[b]?)∧
   ∃o',AD e 1 w' fz u (xs++ys) o'∧o'.Nodup∧∀b∈o',b∈o1∨(w.heap.size≤b∧b<w'.heap.size):=by
 obtain⟨i,hi,Tt,Xa,z,hz,WH⟩:=Tr.info;have WC:=Tr.pos;have UC:xs.length+ys.length≤68719476736:=hlen;have Zw:=hx.dep
 have tr:∀ {w':World} {g:Nat→Option Value} {zs:List e.D},(∀b,fz b→w'.heap[b]?=w.heap[b]?)→Bx e 0 w fz g zs (fun _=>[])→Bx e 0 w' fz g zs fun _=>[]:=fun hb h=>
  h.frame (fun b Tk=>Tk.elim (fun⟨_,_,h⟩=>by cases h) (hb b)) fun _ hb=>hb
 have Uw:∃A c g,uy=.slice A ys.length c∧(A=none→ys=[])∧(∀ad,A=some ad→ys≠[]→ad.spot=none∧∀k,w.cell? (at_ ad k)=g k)∧Bx e 0 w fz g ys fun _=>[]:=by
  obtain⟨A,c,hv,hc,hn,T8⟩:=hy.KK;cases A with
  |none=>
   have:ys=[]:=gQ (by grind);subst this;exact⟨none,c,fun _=>none,hv,fun _=>rfl,(fun ad Uf _=>by cases Uf),(fun i hi=>by simp at hi)⟩
  |some ad=>
   by_cases ZT:c=0
   ·have:ys=[]:=gQ (by omega);subst this;exact⟨some ad,c,fun _=>none,hv,fun _=>rfl,(fun ad Uf Tf=>absurd rfl Tf),(fun i hi=>by simp at hi)⟩
   obtain⟨arr,T,fr,os,hs,hh,_,_,Tr,_,_⟩:=T8 ad rfl (.inl (by omega));refine⟨some ad,c,_,hv,(fun hA=>by cases hA),?_,Bx.zero Tr⟩;intro Yp Uf _;injection Uf with Uf;subst Uf
   exact⟨hs,fun k=>by simp[World.cell?,at_,hh]⟩
 obtain⟨A1,c1,X9,bP,Zl,WL⟩:=hx.KK;obtain⟨A2,c2,g2,af,Zm,Wb,VJ⟩:=Uw
 have WU:∃news:List Value,news.length=ys.length*e.n∧(∀k,k<ys.length*e.n→news[k]?=g2 k)∧(∀v∈news,v.oneCell'=true)∧
   (Builtin.firstCells i.size ys.length (.slice A2 ys.length c2)).run P w=.ok news.toArray w∧∀ad,A2=some ad→∀j u,news[j]?=some u→w.cell? (ad.add j)=some u:=by
  have Ts:=VJ.cell
  have U1:∀ad,A2=some ad→∀j u,(BS g2 (ys.length*e.n))[j]?=some u→w.cell? (ad.add j)=some u:=by
   intro ad Uf j u hj;have Tc:j<ys.length*e.n:=by have:=(gM.1 hj).1;rwa[AL]at this
   rw[Bc Ts j Tc]at hj;obtain⟨hs,hg⟩:=Wb ad Uf (fun h0=>by grind);rw[EF hs,hg,hj]
  refine⟨BS g2 (ys.length*e.n),AL _ _,Bc Ts,FG Ts,?_,U1⟩;cases hA:A2 with
  |none=>
   have:=Zm hA;subst this;rw[run_firstCells_none];simp[BS]
  |some ad=>exact run_firstCells_some w i.size ys.length ad ys.length c2 _ (by rw[AL,Tt]) (U1 ad hA)
 obtain⟨news,U6,Xp,Xn,Ww,Ux⟩:=WU
 have fresh:∀(arr:Array Value)(cap:Nat),xs.length+ys.length≤cap→cap*e.n≤arr.size→Bx e 0 w fz (fun k=>arr[k]?) xs (fun _=>[])→(∀k,k<ys.length*e.n→arr[xs.length*e.n+k]?=g2 k)→
   (∀b,b<w.heap.size→b∉o1→(w.drew.alloc (.cells arr t0)).heap[b]?=w.heap[b]?)∧w.heap.size≤(w.drew.alloc (.cells arr t0)).heap.size∧
   ∃o',AD e 1 (w.drew.alloc (.cells arr t0)) fz (.slice (some ⟨w.heap.size,0,none⟩) (xs.length+ys.length) cap) (xs++ys) o'∧o'.Nodup∧∀b∈o',b∈o1∨(w.heap.size≤b∧b<(w.drew.alloc (.cells arr t0)).heap.size):=by
  intro arr cap Ua UM Vd ZP;have hold:∀b,b<w.heap.size→(w.drew.alloc (.cells arr t0)).heap[b]?=w.heap[b]?:=fun b hb=>alloc_old w.drew _ hb;refine⟨fun b hb _=>hold b hb,by grind,?_⟩
  have Ut:Bx e 0 (w.drew.alloc (.cells arr t0)) fz (fun k=>arr[0+k]?) (xs++ys) fun i=>if i<xs.length then []else []:=by
   refine Bx.append (os:=fun _=>[]) (UP:=fun _=>[]) ?_ ?_
   ·grind
   ·exact Bx.congr (g:=g2) (tr (fun b hb=>hold b (Uu b hb)) VJ) fun k hk=>by grind
  have Tb:=MP (w:=w.drew.alloc (.cells arr t0)) (ad:=⟨w.heap.size,0,none⟩) (c:=cap) (fr:=(0,0)) (T:=t0) (heap_alloc_new w.drew _) rfl (by omega) (by grind) (by grind) Ut.zero;rw[iD]at Tb;refine⟨_,Tb,gh.2 ⟨by simp,gR⟩,fun b hb=>?_⟩;rw[hJ.1 hb];exact .inr ⟨gk _,by rw[Ap];exact Nat.lt_succ_self _⟩
 subst X9;subst af;cases A1 with
 |none=>
  obtain⟨rfl,rfl⟩:=Zl rfl;have WE:xs=[]:=gQ (by omega);subst WE;cases ys with
  |nil=>exact⟨_,_,Cp t ty t0 i T6 hi 0 A2 c2 news Ww,⟨rfl,rfl,rfl⟩,gk _,fun _ _ _=>rfl,[],Bj,gR,fun b hb=>by cases hb⟩
  |cons y ys=>
   cases A2 with
   |none=>grind
   |some ad2=>
    have US:=grownCap_ge w (y::ys).length 0 t0
    obtain⟨f2,f3,o',f4,fn,f5⟩:=fresh (news.toArray++Builtin.zeroCells z.cells (grownCap w (y::ys).length 0 t0-(y::ys).length)) (grownCap w (y::ys).length 0 t0) (by simpa using US)
     (by
      have:(y::ys).length*e.n+(grownCap w (y::ys).length 0 t0-(y::ys).length)*e.n=grownCap w (y::ys).length 0 t0*e.n:=by rw[←gw];congr 1;omega
      simp only[iN,iM,U6,Builtin.zeroCells,iT,iW,WH,iG,A9];omega) (fun i hi=>by simp at hi)
     (by
      intro k hk;rw[←Xp k hk];simp only[List.length_nil,Nat.zero_mul,gb];rw[gu (by simpa[U6]using hk)];simp)
    refine⟨_,_,run_append_nil w t ty t0 i z T6 hi hz ad2 (y::ys).length c2 news (by rw[U6,Tt]) (Ux ad2 rfl) (by simp) (by simp at UC ⊢;omega) (hZ (iY (show _≤68719476736 by simp at UC ⊢;omega) Xa) (by decide)),⟨rfl,rfl,rfl⟩,f3,f2,o',?_,fn,f5⟩;grind
 |some ad1=>
  obtain⟨arr,T,fr,os1,hs,hh,T5,UX,bG,WW,_⟩:=WL ad1 rfl (.inr (by decide));have Vd:Bx e 0 w fz (fun k=>arr[ad1.off+k]?) xs fun _=>[]:=Bx.zero bG;clear bG;have Vx:o1=ad1.block::(List.range xs.length).flatMap os1:=WW (by decide);have Tl:=UX (by decide);clear WW UX WL;obtain⟨b1,Tw,sp1⟩:=ad1;dsimp only at hs hh T5 Vd Vx;subst hs;have U9:b1∈o1:=by rw[Vx];simp
  by_cases Ua:xs.length+ys.length≤c1
  ·
   have hmul:(xs.length+ys.length)*e.n≤c1*e.n:=gy _ Ua;rw[gw]at hmul;obtain⟨w',Vb,Tm⟩:=DT (P:=P) (o:=Tw+xs.length*e.n) news hh Tl (by omega) Xn;have U1:(⟨b1,Tw,none⟩:Addr).add (xs.length*i.size)=⟨b1,Tw+xs.length*e.n,none⟩:=by rw[Tt];exact addr_add _ _ _
   have Tp:=CR news (Tw+xs.length*e.n) arr (by omega);have UQ:∀b,fz b→w'.heap[b]?=w.heap[b]?:=fun b hb=>Tm.CG b fun e=>WB b1 U9 (e▸hb)
   have Ut:Bx e 0 w' fz (fun k=>(B5 news (Tw+xs.length*e.n) arr)[Tw+k]?) (xs++ys) fun i=>if i<xs.length then []else []:=by
    refine Bx.append (os:=fun _=>[]) (UP:=fun _=>[]) ?_ ?_
    ·refine Bx.congr (g:=fun k=>arr[Tw+k]?) (tr UQ Vd) fun k hk=>?_;grind
    ·refine Bx.congr (g:=g2) (tr UQ VJ) fun k hk=>?_;rw[←Xp k hk,Tp,gS (by omega)];congr 1;omega
   have Tb:=MP (w:=w') (ad:=⟨b1,Tw,none⟩) (c:=c1) Tm.here rfl (by rw[Am];exact Tl) (by rw[Am];exact T5) (by grind) Ut.zero;rw[iD]at Tb;exact⟨_,_,DE t ty t0 i T6 hi ⟨b1,Tw,none⟩ xs.length c1 A2 ys.length c2 news Ww Ua (by grind),Tm.rest,by rw[Tm.size];omega,fun b hb hn=>Tm.CG b fun e=>hn (e▸U9),_,Tb,gh.2 ⟨by simp,gR⟩,fun b hb=>.inl (by grind)⟩
  ·
   cases A2 with
   |none=>grind
   |some ad2=>
    have Vi:=Vd.cell;have X2:=Bc Vi
    have holds:∀j u,(BS (fun k=>arr[Tw+k]?) (xs.length*e.n))[j]?=some u→w.cell? ((⟨b1,Tw,none⟩:Addr).add j)=some u:=by
     intro j u hj;have Tc:j<xs.length*e.n:=by have:=(gM.1 hj).1;rwa[AL]at this
     rw[X2 j Tc]at hj;rw[addr_add];simp only[World.cell?,hh];simpa using hj
    have US:=grownCap_ge w (xs.length+ys.length) c1 t0
    obtain⟨f2,f3,o',f4,fn,f5⟩:=fresh (((BS (fun k=>arr[Tw+k]?) (xs.length*e.n)).toArray++news.toArray)++Builtin.zeroCells z.cells (grownCap w (xs.length+ys.length) c1 t0-(xs.length+ys.length))) (grownCap w (xs.length+ys.length) c1 t0) US
     (by
      have:xs.length*e.n+ys.length*e.n+(grownCap w (xs.length+ys.length) c1 t0-(xs.length+ys.length))*e.n=grownCap w (xs.length+ys.length) c1 t0*e.n:=by rw[←gw,←gw];congr 1;omega
      simp only[iN,iM,U6,AL,Builtin.zeroCells,iT,iW,WH,iG,A9];omega)
     (Bx.congr Vd fun k hk=>by
      grind)
     (by
      intro k hk;rw[←Xp k hk];rw[gu (by simp[AL,U6];omega),Array.getElem?_append_right (by simp[AL])];simp[AL])
    exact⟨_,_,run_append_grow w t ty t0 i z T6 hi hz ⟨b1,Tw,none⟩ xs.length c1 (BS (fun k=>arr[Tw+k]?) (xs.length*e.n)) (by rw[AL,Tt]) holds ad2 ys.length c2 news (by rw[U6,Tt]) (Ux ad2 rfl) (by omega) (by omega)
     (growslice_fits (by omega) (hZ (iY UC Xa) (by decide))),⟨rfl,rfl,rfl⟩,f3,f2,o',f4,fn,f5⟩
end
section
variable {P:Program}{E:Cr}{s:St}{W:Wd}{o:Oper}{a:Act}{ws:List Wr}{cx:Cx}{v:Nat}{tm:Array Value}
theorem LY{vs:List Lv}{cells:List Value}{w:World}{fz:Nat→Prop}(hl:cells.length=vs.length)(hp:∀(m:Nat)(lv:Lv),vs[m]?=some lv→∃u,cells[m]?=some u∧lv.l.rd 0 w fz u lv.x [])
  {i off:Nat} {e:Ls} {a:Addr} {n k:Nat} (hi:i<n) {xs:List e.D} {o:List Nat} {f:List e.D→List e.D} (hm:Gq vs [(i,off)] e=some f) (hr:AD e 1 w fz (.slice (some a) n k) xs o) (hn:o.Nodup) (hz:∀b∈o,¬fz b):
  a.spot=none∧∃arr T fr,w.heap[a.block]?=some (.cells arr T fr)∧(∀j,j<arr.size→¬(fr.1≤j∧j<fr.2))∧a.off+(i*e.n+off)+cells.length≤arr.size∧a.block∈o∧
   ∀w',M4 w w' a.block (B5 cells (a.off+(i*e.n+off)) arr) T fr→AD e 1 w' fz (.slice (some a) n k) (f xs) o:=by
 simp only[Gq]at hm;split at hm
 ·rename_i y hy;injection hm with hm;subst hm
  split at hy
  ·rename_i hc;simp only[gL,gV]at hc;obtain⟨rfl,hlen⟩:=hc;have Vg:=Ag e vs y hy
   have:=G6 (F:=fun _=>y) (off:=0) (cells:=cells) hr (by omega) hn hz hi (by omega) (fun g g' x oo hx hg=>by
    have ho:oo=[]:=Ls.Bk e hx;subst ho
    exact Bd e fun j lv hj=>by
     grind)
   simpa only[D5]using this
  ·cases hy
 ·split at hm
  ·rename_i f' We;injection hm with hm;subst hm
   have Xq:∀(m:Nat)(lv:Lv),vs[m]?=some lv→∃u,cells[m]?=some u∧lv.l.rd (dec 1) w fz u lv.x ((fun _=>[]) (0+m)):=fun m lv hm=>hp m lv hm;obtain⟨A,c,hv,hc,_,T8⟩:=hr.KK;injection hv with hA Ue Ud
   subst hA;subst Ue;subst Ud;obtain⟨arr,T,fr,os,_,_,_,_,Tr,_,_⟩:=T8 a rfl (.inr (by omega));have T5:=(Bu e off vs cells 0 (ovs:=fun _=>[]) (g':=fun m=>if off≤m∧m<off+vs.length then cells[m-off]? else _) We hl Xq (Tr i hi) fun m _=>rfl).1
   exact G6 (F:=f') (off:=off) (cells:=cells) hr (by omega) hn hz hi (by omega) (fun g g' x oo hx hg=>by
    obtain⟨_,o',q1,q2,q3⟩:=Bu e off vs cells 0 (g':=g') (ovs:=fun _=>[]) We hl Xq hx fun m hm=>by rw[hg m hm,hl]
    have ho:oo=[]:=Ls.Bk e hx;have VN:o'=[]:=Ls.Bk e q1;grind)
  ·cases hm
def DP(W:Wd)(w':World)(r j:Nat)(o1 ob:List Nat):Wd:=
 { W with w:=w',fz:=fun b=>W.fz b∨(b∈W.om (.lf r j)∧b∉o1)∨b∈ob,om:=fun k=>match k with
   | .lf a b=>if a=r∧b=j then o1 else W.om (.lf a b)
   |k=>W.om k }
theorem AU.nest(h:AU E s tm W)(hv:Ac s v){r j AA gen:Nat}{t:TypeId}{e:Ls}{xs:List e.D}(hl:s.leaf r j=.arr AA gen t e xs 2){u:Value}(T3:W.cv r j=some u){w':World}{o1 ob:List Nat}
  (Th:AD e 1 w' (DP W w' r j o1 ob).fz u xs o1) (Vx:∀b∈o1,b∈W.om (.lf r j)) (UU:o1.Nodup) (Yf:∀b∈ob,(b∈W.om (.lf r j)∧b∉o1)∨(W.w.heap.size≤b∧b<w'.heap.size))
  (hw:∀b,b<W.w.heap.size→b∉W.om (.lf r j)→w'.heap[b]?=W.w.heap[b]?) (Tt:W.w.heap.size≤w'.heap.size) (Tn:w'.os=W.w.os∧w'.tape=W.w.tape∧w'.output=W.w.output):
  AU E (s.AF (.leaf r j (.arr AA v t e xs 1))) tm (DP W w' r j o1 ob):=by
 obtain⟨hr,hj⟩:=G2 hl;have Ta:=BF s r j (.arr AA v t e xs 1);have TV:=ET s r j (.arr AA v t e xs 1);generalize s.AF (.leaf r j (.arr AA v t e xs 1))=s' at Ta TV;have Uu:∀b,W.fz b→w'.heap[b]?=W.w.heap[b]?:=fun b hb=>hw b (h.sep.fz b hb).1 fun TW=>(h.sep.own _ b TW).1 hb;have Wz:∀k,k≠.lf r j→∀b∈W.om k,w'.heap[b]?=W.w.heap[b]?:=fun k hk b hb=>hw b (h.sep.own _ b hb).2.1 fun TW=>h.sep.Ar k _ hk b hb TW;have ZE:∀a b,(DP W w' r j o1 ob).om (.lf a b)=if a=r∧b=j then o1 else W.om (.lf a b):=fun _ _=>rfl
 have aI:∀k,k≠.lf r j→(DP W w' r j o1 ob).om k=W.om k:=by
  intro k hk;cases k with
  |lf a b=>grind
  |AS a=>rfl
  |fl a=>rfl
 have cE:(DP W w' r j o1 ob).om (.lf r j)=o1:=by grind
 have Wc:∀k,∀b∈(DP W w' r j o1 ob).om k,b∈W.om k:=by
  intro k b hb;by_cases hk:k=.lf r j
  ·grind
  ·grind
 have T1:EE v s s' W (DP W w' r j o1 ob):={
  fz:=fun b hb=>.inl hb
  LQ:=Uu
  leaf:=by
   intro r' j' X0 Uo t' e' ys d' Ue Tf;rw[TV]at Ue;by_cases TW:r=r'∧j=j'
   ·obtain⟨rfl,rfl⟩:=TW;rw[gS ⟨rfl,rfl,hr,hj⟩]at Ue;injection Ue with e1 e2 e3 e4 e5 e6
    subst e1;subst e2;subst e3;subst e4;subst e6;exact⟨rfl,gen,t,xs,2,hl,fun hg=>absurd rfl hg⟩
   ·rw[gT (fun hh=>TW ⟨hh.1,hh.2.1⟩)]at Ue;refine⟨rfl,Uo,t',ys,d',Ue,fun _=>⟨rfl,fun p h' e2 u' hc hn=>?_⟩⟩;obtain⟨u0,UW,ZJ⟩:=(h.roots r').row Ue;rw[hc]at UW;injection UW with UW;subst UW
    exact BI p ZJ hn fun b hb=>hb.elim (fun hb=>Wz _ (by grind) b hb) (Uu b)
  box:=fun r' hb Tf=>⟨(Ta.box r').1▸hb,(Ta.box r').2.1.symm,rfl⟩ }
 have VB:Sep E (DP W w' r j o1 ob):={
  nodup:=fun k=>by
   by_cases hk:k=.lf r j
   ·grind
   ·rw[aI k hk];exact h.sep.nodup k
  Ar:=fun k k' Tf b hb Tk=>h.sep.Ar k k' Tf b (Wc k b hb) (Wc k' b Tk)
  own:=fun k b hb=>by
   obtain⟨a,c,d⟩:=h.sep.own k b (Wc k b hb);refine⟨?_,by show b<w'.heap.size;omega,d⟩;have Wx:k=.lf r j→b∈o1:=fun hk=>by grind
   rintro (hz|⟨h1,h2⟩|hz)
   ·exact a hz
   ·by_cases hk:k=.lf r j
    ·grind
    ·exact h.sep.Ar k _ hk b (Wc k b hb) h1
   ·rcases Yf b hz with⟨h1,h2⟩|⟨h1,_⟩
    ·by_cases hk:k=.lf r j
     ·grind
     ·exact h.sep.Ar k _ hk b (Wc k b hb) h1
    ·omega
  fz:=fun b hb=>by
   rcases hb with hb|⟨h1,_⟩|hb
   ·obtain⟨a,c⟩:=h.sep.fz b hb;exact⟨by show b<w'.heap.size;omega,c⟩
   ·obtain⟨_,c,d⟩:=h.sep.own _ b h1;exact⟨by show b<w'.heap.size;omega,.inr d⟩
   ·rcases Yf b hb with⟨h1,_⟩|⟨h1,h2⟩
    ·obtain⟨_,c,d⟩:=h.sep.own _ b h1;exact⟨by show b<w'.heap.size;omega,.inr d⟩
    ·exact⟨h2,.inr (.inl (by have:=h.sep.size;omega))⟩
  frame:=fun b h1 h2=>(hw b (by have:=h.sep.size;omega) fun TW=>by
   rcases(h.sep.own _ b TW).2.2 with h3|h3
   all_goals grind).trans (h.sep.frame b h1 h2)
  size:=by show _≤w'.heap.size;have:=h.sep.size;omega
  rest:=⟨Tn.1.trans h.sep.rest.1,Tn.2.1.trans h.sep.rest.2.1,Tn.2.2.trans h.sep.rest.2.2⟩ }
 refine h.H0 hv T1 VB (by rw[Ta.sl,h.DG]) (by rw[Ta.len,h.BW]) (fun t=>.inl ⟨by show nth _ s'.sl t=_;rw[Ta.sl];rfl,rfl⟩) ?_;intro r';obtain⟨h1,h2⟩:=h.roots r';refine⟨fun j'=>?_,?_⟩
 ·show Aa s' _ (s'.leaf r' j') (W.cv r' j') ((DP W w' r j o1 ob).om (.lf r' j'));rw[TV];by_cases TW:r=r'∧j=j'
  ·obtain⟨rfl,rfl⟩:=TW;rw[gS ⟨rfl,rfl,hr,hj⟩,cE];exact⟨u,T3,Th⟩
  ·have hk:Key.lf r' j'≠.lf r j:=by simp;intro e1 e2;exact TW ⟨e1.symm,e2.symm⟩
   rw[gT (fun hh=>TW ⟨hh.1,hh.2.1⟩),aI _ hk];exact Aa.DF T1 (LA.Dq hv r' j') (Wz _ hk) (h1 j')
 ·rw[(Ta.box r').1];have dw:(DP W w' r j o1 ob).om (.AS r')=W.om (.AS r'):=rfl;rw[dw];split
  ·rename_i hb;rw[gS hb]at h2;obtain⟨VN,Un,T',YB,Wf,a1,a2,a3⟩:=h2;exact⟨VN,Un,T',YB,(Wz (.AS r') (by simp) _ (by rw[VN];exact hJ.2 rfl)).trans Wf,a1,by rw[(Ta.box r').2.2];exact a2,a3⟩
  grind
theorem Ia{s:St}{r j AA gen v:Nat}{t:TypeId}{e:Ls}{xs:List e.D}{d:Nat}(h:s.leaf r j=.arr AA gen t e xs (d+1)):s.AF (.half r j v)=s.AF (.leaf r j (.arr AA v t e xs 1)):=by simp only[St.AF,h,LA.Ce]
theorem NR(h:AU E s tm W)(hv:Ac s v){t t0 ty:TypeId}{e:Ls}(T6:P.underlying t=some (.slice t0))(Tr:Lz P t0 e){d:Nat}{c:Loc}(XL:∃q,c.p=[q]){ux uy:Value}(hx:AP s W (.ref c) ux){lb:LA}(hy:AP s W lb uy){t1:TypeId}
  (hl:(Dt cx s d v t1 e c lb fun ws=>.go ws).leads ws):∃u w',(Builtin.append_ #[t,t] ty #[ux,uy]).run P W.w=.ok u w'∧∃W',W'.w=w'∧AU E (s.app ws) (tm.setIfInBounds d u) W':=by
 obtain⟨⟨i,off⟩,XL⟩:=XL;unfold Dt at hl;split at hl
 ·rename_i AA gen tt e0 xs TV;split at hl
  ·rename_i Td;simp only[gL,gV,gW]at Td;obtain⟨⟨⟨Te,Wt⟩,WX⟩,VY⟩:=Td;subst Te;subst Wt;obtain⟨Zs,e2,T3,Ub⟩:=hx _ _ _ _ _ TV (.inr rfl);obtain⟨u0,UW,Th⟩:=(h.roots c.r).row TV;rw[T3]at UW;injection UW with UW;subst UW
   unfold St.content at hl;rw[TV]at hl;dsimp only at hl;rw[XL]at Ub hl;split at hl
   ·have Wv:=h.sep.nodup (.lf c.r c.j);obtain⟨t2,ys0,oy,hl,Za,Ym,bz⟩:=Fh [(i,off)] hl Th Ub (fun _=>rfl) Wv;obtain⟨ad,len,cc,tf,f2,Zc,bj,U8,YK,WQ,Ts,bY,Zd⟩:=Ub;subst bY;subst Zd;subst bj;split at hl
    ·rename_i zs WM;obtain⟨q1,q2⟩:=L.AH WM;cases q1;have q2:ys0=zs:=q2;subst q2;obtain⟨ys,hl,aj⟩:=Bg h hy hl;rcases Ad hl with⟨hb,hl⟩|⟨_,hl⟩
     ·have hl:_=ws:=hl;have hb:=hO hb;obtain⟨u,w',Ti,Tn,Tt,hold,WY,ob,V8,Yf⟩:=Jm (P:=P) (ty:=ty) T6 Tr VY (fun b hb=>(h.sep.fz b hb).1) Za (L.Ke.1 aj) hb;refine⟨u,w',Ti,?_⟩;have XI:=Ho Th Wv YK WQ Ts Za;obtain⟨H,hH⟩:=Hm e0 off (G:=fun _ f=>some (fun(l:List f.D)=>l)) WQ rfl
      have hF:Hk (fun _ f=>some (fun(l:List f.D)=>l)) [(i,off)] tt e0=some fun xs=>xs.modify i H:=by simp only[Hk,hH]
      have bJ:xs.modify i H=xs:=by rw[show H=id from funext (J0 e0 off hH fun t f g hg l=>by injection hg with hg;subst hg;rfl)];simp
      obtain⟨t3,fn,zs,po,g1,g2,g3,g4,g5⟩:=OB [(i,off)] hF Th ⟨ad,len,cc,tf,_,_,rfl,U8,YK,WQ,Ts,rfl,rfl⟩ (fun _=>rfl) Wv;injection g1 with g1;subst g1
      obtain⟨z1,z2⟩:=g2.uniq Za;subst z1;subst z2
      obtain⟨q,hq,VX⟩:=g5 w' W.fz po WY {
       nd:=g4
       new:=fun b hb _=>hb
       rest:=fun b hb=>by
        rcases hb with⟨U9,VD⟩|hb
        ·exact hold b (h.sep.own _ b U9).2.1 VD
        ·exact hold b (h.sep.fz b hb).1 fun TW=>(h.sep.own _ b (g3 b TW)).1 hb
       fz:=fun b hb=>hb }
      rw[bJ]at hq;have Yi:∀b∈q,b∈W.om (.lf c.r c.j):=fun b hb=>(VX.2 b hb).elim (fun hb=>g3 b hb) (fun hb=>hb.1);obtain⟨o1,Vx,Vp,VK⟩:=hq.half VX.1
      have UH:∀b∈o1,b∉po:=fun b hb=>by
       obtain⟨_,a',n',c',Um,e'⟩:=Vx b hb;injection Um with Um _ _
       injection Um with Um
       rw[e',←Um];exact XI
      have cA:∀b∈ob,(b∈W.om (.lf c.r c.j)∧b∉o1)∨(W.w.heap.size≤b∧b<w'.heap.size):=fun b hb=>(Yf b hb).imp (fun hb=>⟨g3 b hb,fun TW=>UH b TW hb⟩) id;have ZK:AD e0 1 w' (DP W w' c.r c.j o1 ob).fz (.slice (some ad) len cc) xs o1:=VK _ (fun b hb=>.inl hb) fun b hb hn=>.inr (.inl ⟨Yi b hb,hn⟩);have TY:=h.nest hv TV T3 ZK (fun b hb=>Yi b (Vx b hb).1) Vp cA (fun b hb hn=>hold b hb fun TW=>hn (g3 b TW)) Tt Tn;refine⟨DP W w' c.r c.j o1 ob,rfl,?_⟩;rw[←hl];show AU E ((s.AF (.half c.r c.j v)).app _) _ _;rw[Ia TV];exact TY.slot d (V8.freeze fun b hb=>hb.elim (fun hb=>.inl hb) fun hb=>.inr (.inr hb))
     ·exact hl.elim
    ·exact hl.elim
   grind
  ·exact hl.elim
 ·exact hl.elim
theorem NK(h:AU E s tm W)(hv:Ac s v){t t0 ty:TypeId}{e:Ls}(T6:P.underlying t=some (.slice t0))(Tr:Lz P t0 e){d:Nat}(hd:d<tm.size){c:Loc}(XL:c.p=[]){ux uy:Value}(hx:AP s W (.ref c) ux){lb:LA}(hy:AP s W lb uy){t1:TypeId}
  (hl:(Ds cx s d v t1 e c lb fun ws=>.go ws).leads ws):∃u w',(Builtin.append_ #[t,t] ty #[ux,uy]).run P W.w=.ok u w'∧∃W',W'.w=w'∧AU E (s.app ws) (tm.setIfInBounds d u) W':=by
 unfold Ds at hl;split at hl
 ·rename_i AA gen t' e' xs TV;split at hl
  ·rename_i Td;simp only[gL,gV,gW]at Td;obtain⟨⟨Te,WX⟩,bD⟩:=Td;subst Te;split at hl
   ·rename_i zs WM;obtain⟨q1,q2⟩:=L.AH WM;cases q1;have q2:xs=zs:=q2;subst q2;obtain⟨h',e',T3,hn⟩:=hx gen _ _ _ _ TV (.inl XL);rw[XL]at hn;obtain⟨rfl,rfl⟩:=hn;obtain⟨u',Tj,Th⟩:=(h.roots c.r).row TV;rw[T3]at Tj;injection Tj with Tj;subst Tj
    obtain⟨ys,hl,aj⟩:=Bg h hy hl;have Uj:lb.roots=[]:=by cases lb<;>first|rfl|cases bD
    rcases Ad hl with⟨hb,hl⟩|⟨_,hl⟩
    ·have hl:_=ws:=hl;have hb:=hO hb;have aj:=(L.Ke.1 aj).frame (TZ:=W.fz) (w':=W.w) (fun _ _=>rfl) fun b hb=>hb.elim id fun⟨r,hr,_⟩=>by grind
     obtain⟨u,w',Ti,Tn,Tt,hold,o',Tb,UU,UR⟩:=Jt (P:=P) (ty:=ty) T6 Tr (fun b hb=>(h.sep.fz b hb).1) Th (fun b hb=>(h.sep.own _ b hb).1) aj hb;refine⟨u,w',Ti,?_⟩;rw[←hl]
     exact h.CP hv [(c.r,c.j)] hd (t0:=t1) (fun b hb=>hold b (by
       rcases hb with hb|⟨k,_,hb⟩
       ·exact(h.sep.fz b hb).1
       ·exact(h.sep.own k b hb).2.1) fun TW=>by
       rcases hb with hb|⟨k,hk,hb⟩
       ·exact(h.sep.own _ b TW).1 hb
       ·by_cases Y8:k=.lf c.r c.j
        ·subst Y8;exact hk.2 (by simp)
        ·exact h.sep.Ar k _ Y8 b hb TW)
      (fun b hb Wh=>hold b (by have:=h.sep.size;omega) fun TW=>by
       rcases(h.sep.own _ b TW).2.2 with h3|h3
       all_goals grind) Tt Tn Tb UU (fun b hb=>(UR b hb).imp (fun hb=>⟨c.r,c.j,by simp,hb⟩) id)
    ·exact hl.elim
   ·exact hl.elim
  ·exact hl.elim
 ·exact hl.elim
theorem FN{a:LA}{c:Loc}(h:nested a=some c):a=.ref c∧∃q,c.p=[q]:=by unfold nested at h;grind
theorem E6:∀ {as:List LA} {c:Loc},Cb as=some c→∃(j:Nat),as[j]?=some (.ref c)∧∃q,c.p=[q]
 | [],c,h=>by cases h
 |a::as,c,h=>by
  unfold Cb at h;split at h
  ·rename_i c' UF;injection h with h;subst h
   obtain⟨e1,e2⟩:=FN UF;exact⟨0,by rw[e1];rfl,e2⟩
  ·obtain⟨j,h1,h2⟩:=E6 h;exact⟨j+1,by grind,h2⟩
theorem Ko{w:World}{TZ:Nat→Prop}{β:Type}{z:β}:∀ {ls:List L} {as:List LA} {g:Nat→Option Value} {k:List Lv→Step β},
  (∀(j:Nat)(b:LA),as[j]?=some b→∃u,g j=some u∧∀(l:L)(k':l.D→Step β),(s.datum l b k').leads z→∃x,(k' x).leads z∧l.rd 0 w TZ u x [])→(s.data ls as k).leads z→
  ∃vs:List Lv,(k vs).leads z∧vs.length=as.length∧vs.map (·.l)=ls∧∀(j:Nat)(lv:Lv),vs[j]?=some lv→∃u,g j=some u∧lv.l.rd 0 w TZ u lv.x []
 | [],[],g,k,hg,hl=>⟨[],hl,rfl,rfl,fun j lv hj=>by simp at hj⟩
 | [],_::_,g,k,hg,hl=>hl.elim
 |_::_,[],g,k,hg,hl=>hl.elim
 |l::ls,b::as,g,k,hg,hl=>by obtain⟨u,hu,hb⟩:=hg 0 b rfl;obtain⟨x,hl,hx⟩:=hb l _ hl;obtain⟨vs,hl,hn,hm,VF⟩:=Ko (g:=fun j=>g (j+1)) (fun j b hj=>hg (j+1) b (by simpa using hj)) hl;grind
theorem NO(h:AU E s a.tmps W)(hv:Ac s v){t t':TypeId}{e:Ls}(T6:P.underlying t=some (.slice t'))(Tr:Lz P t' e){d len:Nat}{c:Loc}{x:Operand}{g:Bool}{as:List LA}(Ww:∃(j:Nat),as[j]?=some (.ref c)∧∃q,c.p=[q])(Wy:s.Aq x=.v g as)(hx:Ey s W g as (a.eval x)){t1:TypeId}(Xx:len*e.n≤16777216)(hlen:len=1){parts:Array (Nat×Operand)}
  (hl:(Cv cx s d v t1 e x c fun ws=>.go ws).leads ws) (U7:parts.toList=[(0,x)]):∃u w',(Instr.buildSlice t len (parts.map fun(i,x)=>(i,a.eval x))).run P W.w=.ok u w'∧∃W',W'.w=w'∧AU E (s.app ws) (a.tmps.setIfInBounds d u) W':=by
 obtain⟨j0,hj0,⟨i0,off0⟩,XL⟩:=Ww;unfold Cv at hl;rw[Wy]at hl;dsimp only at hl;split at hl
 ·rename_i AA gen t0 e0 xs TV;split at hl
  ·rename_i Td;simp only[gL,gV,gW]at Td;obtain⟨⟨⟨Te,Wt⟩,WX⟩,UN⟩:=Td;subst Te;subst Wt;obtain⟨i,hi,Tt,Xa,z,hz,WH⟩:=Tr.info;have Wv:=h.sep.nodup (.lf c.r c.j);obtain⟨Zs,T3,Th⟩:=(h.roots c.r).row TV;obtain⟨o1,Vx,Vp,VK⟩:=Th.half Wv;have W9:∀b,W.w.heap.size≤b→¬W.fz b:=fun b hb hz=>by have:=(h.sep.fz b hz).1;omega
   let TZ:Nat→Prop:=fun b=>W.fz b∨(b∈W.om (.lf c.r c.j)∧b∉o1)∨b∈[W.w.heap.size]
   obtain⟨vs,hl,UK,W6,VF⟩:=Ko (w:=W.w) (TZ:=TZ) (g:=Av g (a.eval x)) (fun j b hj=>by
    obtain⟨u,hu,UD⟩:=B4 hx j b hj;refine⟨u,hu,fun l k' hl=>?_⟩;have YF:=gY.1 UN b (gP hj);unfold Jx at YF;split at YF
    ·rename_i c';simp only[gL,gV]at YF;obtain⟨⟨⟨⟨a1,a2⟩,a3⟩,a4⟩,a5⟩:=YF;obtain⟨r',j',X0,Uo,p'⟩:=c';dsimp only at a1 a2 a3 a4 a5;subst a1;subst a2;subst a3;subst a4
     have Xq:∃q,p'=[q]:=by
      split at a5
      ·exact⟨_,rfl⟩
      ·cases a5
     obtain⟨⟨i1,Tw⟩,rfl⟩:=Xq;obtain⟨h',e',Wp,Ub⟩:=UD _ _ _ _ _ TV (.inr rfl);rw[T3]at Wp;injection Wp with Wp;subst Wp
     unfold St.datum St.content at hl;simp only[TV]at hl;split at hl
     ·obtain⟨t2,ys0,oy,hl,Za,Ym,bz⟩:=Fh [(i1,Tw)] hl Th Ub (fun _=>rfl) Wv;obtain⟨ad,ln,cc,tf,f2,u2,bj,U8,YK,WQ,Ts,bY,Zd⟩:=Ub;subst bY;subst Zd;subst bj;split at hl
      ·rename_i y hy;obtain⟨ee,he⟩:=L.AH hy;subst ee;subst he;have XI:=Ho Th Wv YK WQ Ts Za;refine⟨_,hl,Za.freeze fun b hb=>?_⟩;rcases hb with hb|hb
       ·exact .inl hb
       ·refine .inr (.inl ⟨Ym b hb,fun TW=>?_⟩);obtain⟨_,a',n',c',Um,e'⟩:=Vx b TW;injection Um with Um _ _
        injection Um with Um
        rw[e',←Um]at hb;exact XI hb
      ·exact hl.elim
     grind
    ·rename_i l0 x0;simp only[St.datum]at hl;split at hl
     ·rename_i y hy;obtain⟨ee,he⟩:=L.AH hy;subst ee;subst he;exact⟨x0,hl,L.AI l0 UD (fun _ _=>rfl) fun b hb=>.inl hb⟩
     ·exact hl.elim
    ·cases YF) hl
   split at hl
   ·rename_i y hy;have hl:_=ws:=hl;have Vg:=Ag e vs y hy;have bW:as.length=e.n:=by rw[←UK,←Vg,B6]
    have Tv:=Bq hx fun j b hj=>by
     have Tc:j<vs.length:=by rw[UK];exact(gM.1 hj).1
     obtain⟨u,hu,hr⟩:=VF j vs[j] (gK Tc);exact⟨u,hu,L.Df _ hr⟩
    have hrde:e.rd 0 W.w TZ (Av g (a.eval x)) y []:=Bd e fun j lv hj=>by grind
    obtain⟨arr,hf,Wo,_,Tp⟩:=FF (e:=e) a.eval parts.toList 0 (madeCells z.cells (len*e.n)) (fun m x' i' hm=>by
     grind) (by rw[size_madeCells,U7,hlen];simp)
    rw[size_madeCells]at Wo;have Ti:=EX (P:=P) (w:=W.w) (t:=t) (len:=len) (parts:=parts.map fun(i,x)=>(i,a.eval x)) (arr:=arr) T6 hi hz (by grind) (by rw[Tt,iV];exact hf)
    have Ut:Bx e 0 (W.w.alloc (.cells arr t')) TZ (fun k=>arr[0+k]?) [y] fun _=>[]:=by
     intro m hm;have dz:m=0:=by simpa using hm
     subst dz
     have hsz':∀b,(b∈([]:List Nat)∨TZ b)→b<W.w.heap.size∨b=W.w.heap.size:=by
      intro b hb;rcases hb with hb|hb|⟨hb,_⟩|hb
      ·cases hb
      ·grind
      ·exact .inl (h.sep.own _ b hb).2.1
      ·grind
     have h4:e.rd 0 (W.w.alloc (.cells arr t')) TZ (fun j=>(a.eval x).cells[j]?) y []:=by
      refine Ls.BD e (g:=Av g (a.eval x)) ?_ fun j hj=>Tv.2 j (by omega)
      have h0:e.rd 0 W.w (fun b=>TZ b∧b<W.w.heap.size) (Av g (a.eval x)) y []:=Bd e fun j lv hj=>by rw[Vg]at hj;obtain⟨u,hu,hr⟩:=VF j lv hj;exact⟨u,hu,Hz lv.l hr⟩
      exact Ls.AI e h0 (fun b hb=>alloc_old _ _ (hb.elim (fun hb=>by cases hb) fun hb=>hb.2)) fun b hb=>hb.1
     refine Ls.BD e h4 fun j hj=>?_;have:=Tp 0 0 x (by rw[U7];rfl) j hj;simp only[gb]at this ⊢;exact this
    have Tb:=OC (w:=W.w.alloc (.cells arr t')) (ad:=⟨W.w.heap.size,0,none⟩) (c:=len) (fr:=(0,0)) (T:=t') (fz:=TZ) (heap_alloc_new _ _) rfl (.inr (.inr (by simp))) (by simp[Wo]) (by simp[hlen]) Ut;refine⟨_,_,Ti,DP W (W.w.alloc (.cells arr t')) c.r c.j o1 [W.w.heap.size],rfl,?_⟩;have dJ:AD e0 2 (W.w.alloc (.cells arr t')) W.fz Zs xs (W.om (.lf c.r c.j)):=Th.frame (fun b hb=>alloc_old _ _ (hb.elim (fun hb=>(h.sep.own _ b hb).2.1) fun hb=>(h.sep.fz b hb).1)) fun _ hb=>hb
    have ZK:AD e0 1 (W.w.alloc (.cells arr t')) (DP W (W.w.alloc (.cells arr t')) c.r c.j o1 [W.w.heap.size]).fz Zs xs o1:=
     (VK TZ (fun b hb=>.inl hb) fun b hb hn=>.inr (.inl ⟨hb,hn⟩)).N6 (fun b hb=>alloc_old _ _ hb) (fun b hb=>(h.sep.own _ b (Vx b hb).1).2.1) (fun b hb=>hb)
    have TY:=h.nest hv TV T3 ZK (fun b hb=>(Vx b hb).1) Vp (fun b hb=>.inr (by rw[hJ.1 hb,Ap];omega)) (fun b hb _=>alloc_old _ _ hb) (by rw[Ap];omega) ⟨rfl,rfl,rfl⟩;rw[←hl];have Vv:[y].length=len:=by rw[hlen];rfl
    rw[Vv]at Tb;show AU E ((s.AF (.half c.r c.j v)).app _) _ _;rw[Ia TV];exact TY.slot d Tb
   ·exact hl.elim
  ·exact hl.elim
 ·exact hl.elim
theorem Lc(hc:DV P cx)(h:AU E s a.tmps W)(hv:Ac s v){c:Call}(ho:o.op=.call c)(hb:c.callee=.builtin .append)(hd:∀d,o.dst=some d→d<a.tmps.size)(hl:(AB cx v o s).leads ws):BZ P E o a W.w (s.app ws):=by
 simp only[AB,ho,hb]at hl;split at hl
 ·rename_i x y t1 t2 ty d hx ht VQ UG;split at hl
  ·rename_i t e U4;split at hl
   ·rename_i Td;simp only[gL,gV]at Td;obtain⟨rfl,Tb⟩:=Td;obtain⟨t0,T6,Tr⟩:=Fo hc Tb;have T7:c.args = #[x,y]:=by grind
    have XY:c.argTypes = #[t1,t1]:=by grind
    obtain⟨cal,args,ats⟩:=c;dsimp only at hb T7 XY;subst hb;subst T7;subst XY
    have fin:∀ {xs ys:List e.D} {us1 us2:List (Nat×Nat)} {o1:List Nat},AD e 2 W.w W.fz (a.eval x) xs o1→o1.Nodup→(∀b∈o1,∃r j,(r,j)∈us1∧b∈W.om (.lf r j))→KM P s W e (a.eval y) ys us2→
      (∀x∈us1,x∉us2)→xs.length+ys.length≤Dc→ws=gone (us1++us2)++ownRow d v t e (xs++ys)→BZ P E o a W.w (s.app ws):=by
     intro xs ys us1 us2 o1 h1 h2 h3 h4 h5 h6 h7;obtain⟨u,w',Ti,W',UY,TY⟩:=LH h hv (ty:=o.type) T6 Tr (hd d UG) h1 h2 h3 h4 h5 h6 t;rw[h7];refine BV h UG ?_ UY TY;simp[execOp,ho,resolve,invoke,builtin,Ti]
    have h1:=Ae h x;have h2:=Ae h y;have VS:=Ij hv x;generalize s.Aj x=p at hl h1 VS;unfold Dj at hl;cases Xo:nested p with
    |some c=>
     rw[Xo]at hl;obtain⟨rfl,XL⟩:=FN Xo;obtain⟨u,w',Ti,W',UY,TY⟩:=NR h hv (ty:=o.type) T6 Tr XL h1 h2 hl;refine BV h UG ?_ UY TY;simp[execOp,ho,resolve,invoke,builtin,Ti]
    |none=>
    rw[Xo]at hl;dsimp only at hl;cases VK:ER s p with
    |some c=>
     rw[VK]at hl;dsimp only at hl
     have eD:p=.ref c∧c.p=[]:=by
      unfold ER at VK;split at VK
      ·grind
      ·cases VK
     obtain⟨rfl,XL⟩:=eD;obtain⟨u,w',Ti,W',UY,TY⟩:=NK h hv (ty:=o.type) T6 Tr (hd d UG) XL h1 h2 hl;refine BV h UG ?_ UY TY;simp[execOp,ho,resolve,invoke,builtin,Ti]
    |none=>
    rw[VK]at hl;dsimp only at hl;unfold C1 at hl;split at hl
    ·obtain⟨ys,us,hl,Uw⟩:=JC h h2 hl;rcases Ad hl with⟨hb,hl⟩|⟨_,hl⟩
     ·have hl:_=ws:=hl;rw[show a.eval x=.slice none 0 0 from h1]at fin;exact fin (xs:=[]) (us1:=[]) Bj gR (fun b hb=>by cases hb) Uw (fun x hx=>by cases hx) (by grind) hl.symm
     ·exact hl.elim
    ·rename_i c;split at hl
     ·rename_i AA gen t' e' xs dd TV;split at hl
      ·rename_i Td;simp only[gL,gV,gW]at Td;obtain⟨⟨⟨Te,hp⟩,WX⟩,Zu⟩:=Td;subst Te;subst Zu;have hp:c.p=[]:=by cases hq:c.p<;>simp_all[isNil]
       split at hl
       ·rename_i ys0 ak;obtain⟨q1,q2⟩:=L.AH ak;cases q1;have q2:xs=ys0:=q2;subst q2;obtain⟨h',e',T3,hn⟩:=h1 gen _ _ _ _ TV (.inl hp);rw[hp]at hn;obtain⟨rfl,rfl⟩:=hn;obtain⟨u',Tj,Th⟩:=(h.roots c.r).row TV;rw[T3]at Tj;injection Tj with Tj;rw[←Tj]at Th
        obtain⟨ys,us,hl,Uw⟩:=JC h h2 hl;split at hl
        ·exact hl.elim
        ·rename_i Wx;rcases Ad hl with⟨hb,hl⟩|⟨_,hl⟩
         ·have hl:_=ws:=hl;exact fin (us1:=[(c.r,c.j)]) Th (h.sep.nodup _) (fun b hb=>⟨c.r,c.j,by simp,hb⟩) Uw (fun x hx=>by grind) (hO hb) hl.symm
         ·exact hl.elim
       ·exact hl.elim
      ·exact hl.elim
     ·exact hl.elim
    ·rename_i c lo hi;split at hl
     ·rename_i AA gen t' e' xs dd TV;split at hl
      ·rename_i Td;simp only[gL,gV,gW]at Td;obtain⟨⟨⟨⟨Te,hp⟩,WX⟩,Zu⟩,VY⟩:=Td;subst Te;subst Zu;have hp:c.p=[]:=by cases hq:c.p<;>simp_all[isNil]
       split at hl
       ·rename_i ys0 ak;obtain⟨q1,q2⟩:=L.AH ak;cases q1;have q2:xs=ys0:=q2;subst q2;obtain⟨h',e',A,n,k0,T3,hn,l1,l2,Wl⟩:=h1 gen _ _ _ _ TV (.inl hp);rw[hp]at hn;obtain⟨rfl,rfl⟩:=hn;obtain⟨u',Tj,Th⟩:=(h.roots c.r).row TV;rw[T3]at Tj;injection Tj with Tj;rw[←Tj]at Th
        obtain⟨o',r1,r2,r3⟩:=CB.sub Th l1 l2;obtain⟨ys,us,hl,Uw⟩:=JC h h2 hl;split at hl
        ·exact hl.elim
        ·rename_i Wx;rcases Ad hl with⟨hb,hl⟩|⟨_,hl⟩
         ·have hl:_=ws:=hl;refine fin (us1:=[(c.r,c.j)]) (by rw[Wl];exact r1) (r3 (h.sep.nodup _)) (fun b hb=>⟨c.r,c.j,by simp,r2 b hb⟩) Uw (fun x hx=>by grind) (hO hb) hl.symm
         ·exact hl.elim
       ·exact hl.elim
      ·exact hl.elim
     ·exact hl.elim
    ·exact hl.elim
   ·exact hl.elim
  ·exact hl.elim
 ·exact hl.elim
theorem IN(hc:DV P cx)(h:AU E s a.tmps W)(hv:Ac s v){t:TypeId}{len:Nat}{parts:Array (Nat×Operand)}(ho:o.op=.buildSlice t len parts)(hd:∀d,o.dst=some d→d<a.tmps.size)(hl:(AB cx v o s).leads ws):BZ P E o a W.w (s.app ws):=by
 simp only[AB,ho]at hl;split at hl
 ·rename_i ty d ht UG;split at hl
  ·exact hl.elim
  ·rename_i VT;split at hl
   ·rename_i t' e U4;split at hl
    ·rename_i Td;simp only[gL,gV,gm]at Td;obtain⟨hlen,Xx⟩:=Td;obtain⟨T6,Tr⟩:=(B9 hc ht U4 (by grind):GR P t (.sl t' e));obtain⟨i,hi,Tt,Xa,z,hz,WH⟩:=Tr.info;cases WT:D2 s e parts.toList with
     |some q=>
      obtain⟨x,c⟩:=q;rw[WT]at hl;dsimp only at hl
      have U7:parts.toList=[(0,x)]∧∃g as,s.Aq x=.v g as∧Cb as=some c:=by
       unfold D2 at WT;split at WT
       ·cases WT
       ·grind
      obtain⟨U7,g,as,Wy,Ww⟩:=U7;obtain⟨u,w',Ti,W',UY,TY⟩:=NO (P:=P) h hv T6 Tr (E6 Ww) Wy (by have:=A5 h x;rw[Wy]at this;exact this) Xx (by rw[hlen,←Array.length_toList,U7];rfl) hl (parts:=parts) U7;refine BV h UG ?_ UY TY;unfold execOp;simp only[ho,Sem.run_bind,Ti,Result.andThen_ok];rfl
     |none=>
     rw[WT]at hl;dsimp only at hl;obtain⟨ys,us,os,hl,YJ⟩:=HV (P:=P) h hv _ _ hl;split at hl
     ·have hl:_=ws:=hl;have dP:ys.length=len:=by rw[YJ.len,hlen];simp
      have ZF:∀(m:Nat)(x:Operand)(i:Nat),parts.toList[m]?=some (i,x)→i=0+m∧(a.eval x).cells.size=e.n:=by
       intro m x i hm;have U5:m<ys.length:=by rw[YJ.len];exact(gM.1 hm).1
       obtain⟨x',h1,h2,_⟩:=YJ.el m U5;rw[hm]at h1;injection h1 with h1;injection h1 with h1 VC;subst VC
       exact⟨h1,h2⟩
      obtain⟨arr,hf,Wo,_,Tp⟩:=FF (e:=e) a.eval parts.toList 0 (madeCells z.cells (len*e.n)) ZF (by rw[size_madeCells,hlen];simp);rw[size_madeCells]at Wo;have Ti:=EX (P:=P) (w:=W.w) (t:=t) (len:=len) (parts:=parts.map fun(i,x)=>(i,a.eval x)) (arr:=arr) T6 hi hz (by grind) (by rw[Tt,iV];exact hf)
      have Ut:Bx e 2 (W.w.alloc (.cells arr t')) W.fz (fun k=>arr[0+k]?) ys os:=by
       intro m hm;obtain⟨x,h1,h2,h3⟩:=YJ.el m hm
       have h4:e.rd 2 (W.w.alloc (.cells arr t')) W.fz (fun j=>(a.eval x).cells[j]?) ys[m] (os m):=Ls.AI e h3 (fun b hb=>alloc_old _ _ (by
        rcases hb with hb|hb
        ·obtain⟨r,j,_,h5⟩:=YJ.OY m b hb;exact(h.sep.own _ b h5).2.1
        ·exact(h.sep.fz b hb).1)) fun _ hb=>hb
       refine Ls.BD e h4 fun j hj=>?_;have:=Tp m _ x h1 j hj;simp only[gb]at this ⊢;exact this
      have Tb:=E5 (w:=W.w.alloc (.cells arr t')) (ad:=⟨W.w.heap.size,0,none⟩) (c:=len) (fr:=(0,0)) (T:=t') (heap_alloc_new _ _) rfl (by omega) (by simp[Wo]) (by omega) Ut
      obtain⟨W',UY,TY⟩:=h.CP hv us (hd d UG) (t0:=t') (EZ h _) (fun b hb _=>alloc_old _ _ (by have:=h.sep.size;omega)) (by rw[Ap];omega) ⟨rfl,rfl,rfl⟩ Tb
       (gh.2 ⟨fun TW=>by
        obtain⟨m,_,hb⟩:=gN.1 TW;obtain⟨r,j,_,h5⟩:=YJ.OY m _ hb;exact absurd (h.sep.own _ _ h5).2.1 (Nat.lt_irrefl _),D3 YJ.PB YJ.O5 _⟩)
       (fun b hb=>by
        rcases gj.1 hb with rfl|hb
        ·exact .inr ⟨gk _,by rw[Ap];grind⟩
        ·obtain⟨m,_,hb⟩:=gN.1 hb;exact .inl (YJ.OY m b hb))
      rw[←hl];refine BV h UG ?_ UY TY;rw[dP];unfold execOp;simp only[ho,Sem.run_bind,Ti,Result.andThen_ok];rfl
     ·exact hl.elim
    ·exact hl.elim
   ·exact hl.elim
 ·exact hl.elim
end
end Go.Ev
namespace Go.Ev
section
variable {P:Program}{E:Cr}{s:St}{W:Wd}{o:Oper}{a:Act}{ws:List Wr}{cx:Cx}{v:Nat}{tm:Array Value}
theorem C6{t:TypeId}{x y:Operand}(ho:o.op=.store t x y)(VW:o.dst=none){ad:Addr}(hx:a.eval x=.pointer (some ad)){i:TypeInfo}(hi:P.info? t=some i)(Tt:(a.eval y).cells.size=i.size){W':Wd}
  (Ti:(storeCells ad (a.eval y).cells.toList).run P W.w=.ok () W'.w) {s':St} (hr:AU E s' a.tmps W'):BZ P E o a W.w s':=by
 intro next Q hn
 have Vb:(storeVar t ad (a.eval y)).run P W.w=.ok () W'.w:=by simp[storeVar,sizeOf,typeInfo,hi,Tt,Ti]
 unfold Oper.wp execOp;simp only[ho,hx,Instr.storeAt,Instr.sureAddr,Sem.run_bind,Sem.run_pure,Result.andThen_ok,Vb];show next (a.put o.dst Go.undef) W'.w
 rw[VW];exact hn _ W' rfl hr
theorem Jz{α β:Type}{f:α→Option β}:∀ {l:List α} {r:List β},l.mapM f=some r→r.length=l.length
 | [],r,hr=>by grind
 |b::l,r,hr=>by
  simp only[List.mapM_cons,Option.bind_eq_bind,Option.pure_def]at hr;cases hb:f b with
  |none=>grind
  |some c=>
   cases UI:l.mapM f with
   |none=>grind
   |some cs=>
    simp[hb,UI]at hr;subst hr;simp[Jz UI]
theorem LR(hc:DV P cx)(h:AU E s a.tmps W)(hv:Ac s v){t:TypeId}{x y:Operand}(ho:o.op=.store t x y){c:Loc}{g:Bool}{as:List LA}{ty:Ty}{fs wt:List Wr}(ht:cx.ty t=some ty)(h1:AP s W (.Bi c) (a.eval x))(h2:BQ s W (.v g as) (a.eval y))(XL:∃q,c.p=[q])
  (hl:(s.Cy v c ty.ls.kinds as fun ws=>match o.dst with
   |none=>.go (fs++ws)
   |some _=>.none).leads wt):∃ws,wt=fs++ws∧BZ P E o a W.w (s.app ws):=by
 obtain⟨i,hi,Tt,_⟩:=(hc t ty ht).info;obtain⟨p0,ZZ⟩:=XL;unfold St.Cy at hl;split at hl
 ·rename_i AA gen t0 e0 xs0 TV;split at hl
  ·rename_i Td;simp only[gL,gV]at Td;obtain⟨rfl,UN⟩:=Td;obtain⟨vs,hl,UK,W6,VF⟩:=Ek h (g:=Av g (a.eval y)) (fun j b hj=>B4 h2 j b hj) hl
   have Uj:as.flatMap LA.roots=[]:=by
    have:∀l:List LA,l.all N7=true→l.flatMap LA.roots=[]:=by
     intro l
     induction l with
     |nil=>intro _;rfl
     |cons b l ih=>
      intro hb;simp only[List.all_cons,gL]at hb;rw[gx,ih hb.2];cases b<;>first|rfl|cases hb.1
    exact this as UN
   have Tv:=Bq h2 fun j b hj=>by
    have Tc:j<vs.length:=by rw[UK];exact(gM.1 hj).1
    obtain⟨u,hu,hr⟩:=VF j vs[j] (gK Tc);exact⟨u,hu,L.Df _ hr⟩
   have hlen:vs.length=ty.ls.n:=by rw[←A9,←W6];simp
   have XE:∀(m:Nat)(lv:Lv),vs[m]?=some lv→∃u,(a.eval y).cells.toList[m]?=some u∧lv.l.rd 0 W.w W.fz u lv.x []:=by
    intro m lv hm;obtain⟨u,hu,hr⟩:=VF m lv hm;have Tc:m<as.length:=by rw[←UK];exact(gM.1 hm).1
    have:=Tv.2 m Tc;rw[hu]at this;refine⟨u,by grind,L.AI lv.l hr (fun _ _=>rfl) fun b hb=>?_⟩;rcases hb with hb|⟨r,hr,_⟩
    ·exact hb
    ·grind
   have UH:∀u∈(a.eval y).cells.toList,u.oneCell'=true:=by
    intro u hu;obtain⟨m,hm⟩:=hM hu;have Tc:m<vs.length:=by rw[UK,←Tv.1];simpa using(gM.1 hm).1
    obtain⟨u',Tj,hr⟩:=XE m vs[m] (gK Tc);rw[hm]at Tj;injection Tj with Tj;subst Tj
    exact L.Df _ hr
   split at hl
   ·rename_i f hf;split at hl
    ·rename_i VW;have hl:_=wt:=hl;obtain⟨q,i0,off,h',e',ad,n,k,hs,T3,Ub,U8,XB,hu⟩:=h1 gen _ _ _ _ TV (.inl (by grind));rw[ZZ]at hs;simp only[Ak,Option.some.injEq,Prod.mk.injEq]at hs;obtain⟨rfl,rfl,rfl⟩:=hs;obtain⟨rfl,rfl⟩:=Ub;obtain⟨u',Tj,Th⟩:=(h.roots c.r).row TV;rw[T3]at Tj;injection Tj with Tj;subst Tj
     have Wj:∀b∈W.om (.lf c.r c.j),¬W.fz b:=fun b hb=>(h.sep.own _ b hb).1;rw[ZZ]at hf;obtain⟨dL,arr,T,fr,hh,Tl,VU,TW,WZ⟩:=LY (by grind) XE XB hf Th (h.sep.nodup _) Wj;obtain⟨w',Ti,Tm⟩:=DT (P:=P) (o:=ad.off+(p0.1*e'.n+p0.2)) (a.eval y).cells.toList hh Tl VU UH;have TY:=h.JL hv TV T3 (WZ w' Tm) (fun b hb=>Tm.CG b fun e=>hb (e▸TW)) Tm.size Tm.rest;exact⟨_,hl.symm,C6 ho VW hu hi (by omega) (W':={ W with w:=w' }) Ti TY⟩
    ·exact hl.elim
   ·exact hl.elim
  ·exact hl.elim
 ·exact hl.elim
theorem Gn(hc:DV P cx)(h:AU E s a.tmps W)(hv:Ac s v){t:TypeId}{x y:Operand}(ho:o.op=.store t x y){q:LA}{g:Bool}{as:List LA}{ty:Ty}{fs wt:List Wr}(ht:cx.ty t=some ty)(h1:AP s W q (a.eval x))(h2:BQ s W (.v g as) (a.eval y))(VS:v∉(AV.v g as).AG)
  (hl:(GP cx v s o.dst q ty.ls.kinds as fs).leads wt):∃ws,wt=fs++ws∧BZ P E o a W.w (s.app ws):=by
 obtain⟨i,hi,Tt,_⟩:=(hc t ty ht).info;unfold GP at hl;unfold St.GQ at hl;split at hl
 ·rename_i r j AA;split at hl
  ·rename_i Td;simp only[gL,gV,gm,A9]at Td;obtain⟨⟨hb,Te⟩,T5⟩:=Td;obtain⟨bs,us,os,hl,VI,W8,UU,Vt,UT,Vh,VV⟩:=Eb (v:=v) h (g:=Av g (a.eval y)) (fun j b hj=>⟨fun TW=>VS (gN.2 ⟨b,gP hj,TW⟩),B4 h2 j b hj⟩) hl;rw[A9]at W8;split at hl
   ·rename_i VW;have hl:_=wt:=hl
    have Tv:=Bq h2 fun j b hj=>by
     have Tc:j<bs.length:=by rw[VI];exact(gM.1 hj).1
     obtain⟨u,hu,hr⟩:=VV j bs[j] (gK Tc);exact⟨u,hu,hr.1⟩
    obtain⟨_,UB⟩:=h.roots r;rw[gS hb]at UB;obtain⟨_,arr,T,fr,hh,Tl,Wo,_⟩:=UB
    have UH:∀u∈(a.eval y).cells.toList,u.oneCell'=true:=by
     intro u hu;obtain⟨m,hm⟩:=hM hu;have Tc:m<bs.length:=by rw[VI,←Tv.1];simpa using(gM.1 hm).1
     obtain⟨u',Tj,hr⟩:=VV m bs[m] (gK Tc);have:=Tv.2 m (by omega);rw[Tj]at this;have h3:(a.eval y).cells[m]?=some u:=by simpa using hm
     rw[this]at h3;injection h3 with h3;subst h3;exact hr.1
    obtain⟨w',Ti,Tm⟩:=DT (P:=P) (o:=j) (a.eval y).cells.toList hh Tl (by grind) UH
    obtain⟨W',UY,TY⟩:=h.KF hv (j:=j) hb (us:=us) (bs:=bs) (os:=os) (cells:=(a.eval y).cells.toList) (by grind) (by omega)
     (fun m b hm=>by
      grind) UT (fun m hm=>Vh m (by omega)) hh Tm
    refine⟨_,hl.symm,?_⟩;exact C6 ho VW (h1 hb Te) hi (by omega) (by grind) TY
   ·exact hl.elim
  ·exact hl.elim
 ·rename_i c;split at hl
  ·rename_i UN;obtain⟨vs,hl,UK,W6,VF⟩:=Ek h (g:=Av g (a.eval y)) (fun j b hj=>B4 h2 j b hj) hl
   have Tv:=Bq h2 fun j b hj=>by
    have Tc:j<vs.length:=by rw[UK];exact(gM.1 hj).1
    obtain⟨u,hu,hr⟩:=VF j vs[j] (gK Tc);exact⟨u,hu,L.Df _ hr⟩
   have hlen:vs.length=ty.ls.n:=by rw[←A9,←W6];simp
   have W4:Plain W.w W.fz vs (a.eval y).cells.toList:=by
    refine⟨by grind,fun m lv hm=>?_⟩
    have XP:Bp lv.l=false:=by
     have V7:lv.l∈ty.ls.kinds:=by rw[←W6];exact hR.2 ⟨lv,gP hm,rfl⟩
     simpa using gY.1 UN _ V7
    obtain⟨u,hu,hr⟩:=VF m lv hm;refine⟨XP,u,?_,fun d w' TZ=>(L.AZ lv.l XP hr).1⟩;have Tc:m<as.length:=by rw[←UK];exact(gM.1 hm).1
    have:=Tv.2 m Tc;rw[hu]at this;simpa using this
   have UH:∀u∈(a.eval y).cells.toList,u.oneCell'=true:=by
    intro u hu;obtain⟨m,hm⟩:=hM hu;have Tc:m<vs.length:=by rw[←W4.1];exact(gM.1 hm).1
    obtain⟨_,u',Tj,hr⟩:=W4.2 m vs[m] (gK Tc);rw[hm]at Tj;injection Tj with Tj;subst Tj
    exact L.Df _ (hr 0 W.w W.fz)
   split at hl
   ·rename_i VH VO;split at hl
    ·rename_i VW;have hl:_=wt:=hl;unfold St.KB at VO;split at VO
     ·rename_i AA gen t0 e0 xs0 d0 TV;split at VO
      ·rename_i Td;simp only[gL,gl,gV,gm]at Td;obtain⟨⟨⟨rfl,hg⟩,Zs⟩,Vf⟩:=Td;split at VO
       ·rename_i f hf;injection VO with VO
        subst VO;obtain⟨q,i0,off,h',e',ad,n,k,hs,T3,Ub,U8,XB,hu⟩:=h1 gen _ _ _ _ TV hg;obtain⟨u',Tj,Th⟩:=(h.roots c.r).row TV;rw[T3]at Tj;injection Tj with Tj;subst Tj
        have Wj:∀b∈W.om (.lf c.r c.j),¬W.fz b:=fun b hb=>(h.sep.own _ b hb).1;obtain⟨dL,arr,T,fr,hh,Tl,VU,TW,WZ⟩:=Kt W4 XB c.p q hf Th (h.sep.nodup _) Wj Zs Vf hs Ub;obtain⟨w',Ti,Tm⟩:=DT (P:=P) (o:=ad.off+(i0*e'.n+off)) (a.eval y).cells.toList hh Tl VU UH;have TY:=h.JL hv TV T3 (WZ w' Tm) (fun b hb=>Tm.CG b fun e=>hb (e▸TW)) Tm.size Tm.rest;exact⟨_,hl.symm,C6 ho VW hu hi (by omega) (W':={ W with w:=w' }) Ti TY⟩
       ·cases VO
      ·cases VO
     ·cases VO
    ·exact hl.elim
   ·exact hl.elim
  ·split at hl
   ·rename_i p0 ZZ;split at hl
    ·exact LR hc h hv ho ht h1 h2 ⟨p0,ZZ⟩ hl
    obtain⟨bs,us,os,hl,VI,W8,UU,Vt,UT,Vh,VV⟩:=Eb (v:=v) h (g:=Av g (a.eval y)) (fun j b hj=>⟨fun TW=>VS (gN.2 ⟨b,gP hj,TW⟩),B4 h2 j b hj⟩) hl;rw[A9]at W8;split at hl
    ·rename_i UN;split at hl
     ·rename_i lvs V6;have V6:bs.mapM FE=some lvs:=V6;have hlen:lvs.length=bs.length:=Jz V6;split at hl
      ·rename_i AA gen t0 e0 xs0 TV;split at hl
       ·rename_i Te;have Te:AA=c.AA:=by simpa using Te
        subst Te;split at hl
        ·rename_i f hf;split at hl
         ·rename_i VW;have hl:_=wt:=hl
          have Tv:=Bq h2 fun j b hj=>by
           have Tc:j<bs.length:=by rw[VI];exact(gM.1 hj).1
           obtain⟨u,hu,hr⟩:=VV j bs[j] (gK Tc);exact⟨u,hu,hr.1⟩
          have UH:∀u∈(a.eval y).cells.toList,u.oneCell'=true:=by
           intro u hu;obtain⟨m,hm⟩:=hM hu;have Tc:m<bs.length:=by rw[VI,←Tv.1];simpa using(gM.1 hm).1
           obtain⟨u',Tj,hr⟩:=VV m bs[m] (gK Tc);have:=Tv.2 m (by omega);rw[Tj]at this;have h3:(a.eval y).cells[m]?=some u:=by simpa using hm
           rw[this]at h3;injection h3 with h3;subst h3;exact hr.1
          obtain⟨q,i0,off,h',e',ad,n,k,hs,T3,Ub,U8,XB,hu⟩:=h1 gen _ _ _ _ TV (.inl (by grind));rw[ZZ]at hs;simp only[Ak,Option.some.injEq,Prod.mk.injEq]at hs;obtain⟨rfl,rfl,rfl⟩:=hs;obtain⟨rfl,rfl⟩:=Ub;obtain⟨u',Tj,Th⟩:=(h.roots c.r).row TV;rw[T3]at Tj;injection Tj with Tj;subst Tj
          have Yn:(c.r,c.j)∉us:=fun TW=>by grind
          have Ws:∀m,∀b∈os m,∃r j,(r,j)∈us∧b∈W.om (.lf r j):=by
           intro m b hb;by_cases hm:m<bs.length
           ·obtain⟨u,_,ht⟩:=VV m bs[m] (gK hm);exact ht.2.2.1 b hb
           ·grind
          have hk:GS os (W.om (.lf c.r c.j)):=by
           refine⟨fun m=>?_,UT,fun m b hb Tk=>?_⟩
           ·by_cases hm:m<bs.length
            ·obtain⟨u,_,ht⟩:=VV m bs[m] (gK hm);exact ht.2.1
            grind
           ·obtain⟨r,j,TW,VD⟩:=Ws m b hb;exact h.sep.Ar (.lf r j) (.lf c.r c.j) (fun e=>by grind) b VD Tk
          have Z8:∀m,∀b∈os m,¬W.fz b:=fun m b hb=>by obtain⟨r,j,_,VD⟩:=Ws m b hb;exact(h.sep.own _ b VD).1
          have Wj:∀b∈W.om (.lf c.r c.j),¬W.fz b:=fun b hb=>(h.sep.own _ b hb).1
          have hp:∀(m:Nat)(lv:Lv),lvs[m]?=some lv→∃u,(a.eval y).cells.toList[m]?=some u∧lv.l.rd 2 W.w W.fz u lv.x (os m):=by
           intro m lv hm;have Tc:m<bs.length:=by rw[←hlen];exact(gM.1 hm).1
           obtain⟨y',Vq,WG⟩:=Ft V6 m bs[m] (gK Tc);rw[hm]at WG;injection WG with WG;subst WG
           obtain⟨u,Zc,ht⟩:=VV m bs[m] (gK Tc);have:=Tv.2 m (by omega);rw[Zc]at this;exact⟨u,by grind,IU ht Vq⟩
          rw[ZZ]at hf;obtain⟨dL,arr,T,fr,hh,Tl,VU,TW,o',ZB,UR,WZ⟩:=MQ (by grind) hp (fun m hm=>Vh m (by omega)) XB hf Th (h.sep.nodup _) Wj hk Z8;obtain⟨w',Ti,Tm⟩:=DT (P:=P) (o:=ad.off+(p0.1*e'.n+p0.2)) (a.eval y).cells.toList hh Tl VU UH;have TY:=h.Lp hv TV T3 Yn TW (fun b hb=>Tm.CG b hb) Tm.size Tm.rest ZB (fun b hb=>(UR b hb).imp id fun⟨m,hb⟩=>Ws m b hb) (WZ w' Tm);refine⟨_,hl.symm,?_⟩;exact C6 ho VW hu hi (by omega) (W':=IV W w' c.r c.j o' us) Ti TY
         ·exact hl.elim
        ·exact hl.elim
       ·exact hl.elim
      ·exact hl.elim
     ·exact hl.elim
    ·exact hl.elim
   ·exact hl.elim
 ·exact hl.elim
end
end Go.Ev
namespace Go.Ev
theorem Nb{s:St}{r:Nat}(h:s.ro.length≤r):(s.root r).ls=[]:=by have:s.root r=dead:=A3 _ h;rw[this];rfl
theorem DN(s:St)(r j:Nat):∀(rs:List Nat)(a:LA),(a=s.leaf r j∨a=BE (s.leaf r j))→
  (rs.map fun r=>(⟨r,0,(s.root r).ls.map BE⟩:Up)).foldl (fun a u=>if r=u.r∧u.lo≤j∧j<u.lo+u.news.length then nth .bad u.news (j-u.lo)else a) a=if r∈rs then BE (s.leaf r j)else a
 | [],a,ha=>by simp
 |x::rs,a,ha=>by
  simp only[iR,List.foldl_cons,iG,gb,Nat.sub_zero];by_cases hx:r=x
  ·subst hx;rw[gS gi]
   have aX:(if r=r∧0≤j∧j<(s.root r).ls.length then nth .bad ((s.root r).ls.map BE) j else a)=BE (s.leaf r j)∨(s.leaf r j=.bad∧(if r=r∧0≤j∧j<(s.root r).ls.length then nth .bad ((s.root r).ls.map BE) j else a)=a):=by
    by_cases hj:j<(s.root r).ls.length
    ·left;rw[gS ⟨rfl,Nat.zero_le _,hj⟩];unfold St.leaf;rw[Af,Af,ga,gK hj];rfl
    ·right;exact⟨A3 _ (iB hj),gT fun hh=>hj hh.2.2⟩
   rcases aX with h1|⟨h1,h2⟩
   ·rw[h1,DN s r j rs _ (.inr rfl)];split<;>rfl
   ·rw[h2];have YY:a=.bad:=by rcases ha with ha|ha<;>rw[ha,h1]<;>rfl
    rw[DN s r j rs a ha,YY,h1];split<;>rfl
  ·rw[gT (fun hh=>hx hh.1),DN s r j rs a ha];simp[hx]
section
variable {P:Program}{E:Cr}{s:St}{W:Wd}{v:Nat}{tm:Array Value}{cx:Cx}
theorem Gc:∀ {rs:List Nat} {ws:List Wr},Aw cx s rs=some ws→ws=Ed ((rs.filter fun r => !s.Bz r).map fun r=>⟨r,0,(s.root r).ls.map BE⟩)
 | [],ws,h=>by injection h with h;exact h.symm
 |r::rs,ws,h=>by
  simp only[Aw]at h;split at h
  ·cases h
  ·split at h
   ·rename_i VH WD;injection h with h;subst h
    rw[Gc WD];unfold C5;cases hs:s.Bz r with
    |true=>grind
    |false=>rw[List.filter_cons_of_pos (by simp[hs])];rfl
   ·cases h
theorem Ki{r:Nat}(h:s.Bz r=true)(j:Nat):BE (s.leaf r j)=s.leaf r j:=by
 unfold St.leaf;rw[Af];cases hq:(s.root r).ls[j]? with
 |none=>rfl
 |some a=>
  have:=gY.1 h a (gP hq);cases a with
  |arr v g t e xs d=>cases d with
   |zero=>rfl
   |succ d=>cases this
  |_=>rfl
structure JV(s s':St)(W W':Wd)(rs:List Nat):Prop where
 same:JY s s'
 w:W'.w=W.w
 cv:W'.cv=W.cv
 bk:W'.bk=W.bk
 leaf:∀r j,r∉rs→s'.leaf r j=s.leaf r j
 Ol:∀r j,s'.leaf r j=s.leaf r j∨s'.leaf r j=BE (s.leaf r j)
 om:∀r j,r∉rs→W'.om (.lf r j)=W.om (.lf r j)
 PR:∀r,W'.om (.AS r)=W.om (.AS r)
 sub:∀k,∀b∈W'.om k,b∈W.om k
 up:∀b,W.fz b→W'.fz b
 fz:∀b,W'.fz b→Seen W rs b
theorem Em(h:AU E s tm W)(hv:Ac s v){rs:List Nat}{ws:List Wr}(hf:Aw cx s rs=some ws):∃W',AU E (s.app ws) tm W'∧JV s (s.app ws) W W' rs∧∀b,Seen W rs b→W'.fz b:=by
 rw[Gc hf]
 obtain⟨Ta,TV⟩:=II ((rs.filter fun r => !s.Bz r).map fun r=>(⟨r,0,(s.root r).ls.map BE⟩:Up)) s fun u hu=>by
  obtain⟨r,_,rfl⟩:=hR.1 hu;refine⟨?_,by simp⟩;rcases hQ r s.ro.length with Tc|US
  ·grind
  ·left;simp[Nb US]
 generalize s.app (Ed ((rs.filter fun r => !s.Bz r).map fun r=>(⟨r,0,(s.root r).ls.map BE⟩:Up)))=s' at Ta TV
 have TV:∀r j,s'.leaf r j=if r∈rs then BE (s.leaf r j)else s.leaf r j:=fun r j=>by
  rw[TV,DN s r j _ _ (.inl rfl)];by_cases hr:r∈rs
  ·rw[gS hr];cases Vb:s.Bz r with
   |true=>rw[gT fun hm=>by have:=(List.mem_filter.1 hm).2;simp[Vb]at this,Ki Vb]
   |false=>rw[gS (List.mem_filter.2 ⟨hr,by simp[Vb]⟩)]
  grind
 let W':Wd:={
  w:=W.w
  fz:=Seen W rs
  cv:=W.cv
  bk:=W.bk
  om:=fun k=>match k with
   | .lf r j=>if r∈rs then []else W.om (.lf r j)
   |k=>W.om k }
 have ZE:∀r j,W'.om (.lf r j)=if r∈rs then []else W.om (.lf r j):=fun _ _=>rfl
 have UO:∀k,∀b∈W'.om k,b∈W.om k∧∀r∈rs,∀j,k≠.lf r j:=by
  intro k b hb;cases k with
  |lf r j=>
   grind
  |AS r=>grind
  |fl k=>grind
 have VB:Sep E W':={
  nodup:=by
   intro k;cases k with
   |lf r j=>rw[ZE];split;exact gR;exact h.sep.nodup _
   |AS r=>exact h.sep.nodup _
   |fl k=>exact h.sep.nodup _
  Ar:=fun k k' Tf b hb Tk=>h.sep.Ar k k' Tf b (UO k b hb).1 (UO k' b Tk).1
  own:=fun k b hb=>by
   obtain⟨h1,h2⟩:=UO k b hb;obtain⟨q1,q2,q3⟩:=h.sep.own k b h1;refine⟨?_,q2,q3⟩
   rintro (hz|⟨r,hr,j,hz⟩)
   ·exact q1 hz
   ·exact h.sep.Ar k (.lf r j) (h2 r hr j) b h1 hz
  fz:=fun b hb=>by
   rcases hb with hz|⟨r,hr,j,hz⟩
   ·exact h.sep.fz b hz
   ·obtain⟨_,q2,q3⟩:=h.sep.own _ b hz;grind
  frame:=h.sep.frame
  size:=h.sep.size
  rest:=h.sep.rest }
 refine⟨W',?_,⟨Ta,rfl,rfl,rfl,fun r j hr=>by grind,fun r j=>by grind,fun r j hr=>by grind,fun _=>rfl,fun k b hb=>(UO k b hb).1,fun b hb=>.inl hb,fun b hb=>hb⟩,fun b hb=>hb⟩;refine h.MR hv (W':=W') Ta (fun r _=>r∈rs) (fun _=>False) (fun r j hr=>by grind) (fun _ _ _=>rfl) (fun _ _ hf=>hf.elim) (fun _=>rfl) (fun r j hr=>by grind) (fun _=>rfl) (fun _ _=>rfl) (fun b hb=>.inl hb) ?_ VB ?_ (fun _ hf=>hf.elim)
 ·intro r j AA gen t e xs d hr hl Tf;rw[TV,gS hr]at hl;refine⟨rfl,?_⟩;cases hq:s.leaf r j with
  |arr ver0 gen0 t0 e0 xs0 d0=>
   rw[hq]at hl;simp only[BE,LA.arr.injEq]at hl;grind
  |_=>rw[hq]at hl;simp[BE]at hl
 ·intro T1 r j hr;obtain⟨h1,_⟩:=h.roots r;have h1:Aa s W (s.leaf r j) (W.cv r j) (W.om (.lf r j)):=h1 j;have UK:=LA.Dq hv r j;rw[TV,gS hr,ZE,gS hr];unfold Aa at h1 ⊢;cases hq:s.leaf r j with
  |arr ver0 gen0 t0 e0 xs0 d0=>
   rw[hq]at h1;obtain⟨u,hu,Th⟩:=h1;exact⟨u,hu,Th.freeze fun b hb=>hb.elim .inl fun hb=>.inr ⟨r,hr,j,hb⟩⟩
  |_=>
   rw[hq]at h1 UK;exact⟨rfl,fun u hu=>AP.DF T1 (UK.resolve_left (by simp[LA.CH])) (h1.2 u hu)⟩
inductive PT where
 |none
 |box (r:Nat)
 |row (l:List (Option (Loc×List Nat)))
def PT.D8:PT→List Tg
 | .none=>[]
 | .box r=>[(r,Option.none)]
 | .row l=>l.filterMap fun o=>o.map fun p=>(p.1.r,some p.1.j)
def NH(a b:Tg):Prop:=Tg.Db b a=false
def FY(s:St)(W:Wd)(d:Nat)(a:LA)(o:Option (Loc×List Nat))(lv:Lv)(y:Value):Prop:=
 (Bp lv.l=false∧o=none∧lv.l.rd d W.w W.fz y lv.x [])∨(d=4∧a=.CL∧o=none∧y=.slice none 0 0∧∃(t':TypeId) (e':Ls),lv=⟨.sl t' e',([]:List e'.D)⟩) ∨
 ∃(c:Loc) (o':List Nat) (gen:Nat) (t:TypeId) (e:Ls) (xs:List e.D) (h:Value) (t':TypeId) (e':Ls) (ys:List e'.D),a=.ref c∧o=some (c,o')∧s.leaf c.r c.j=.arr c.AA gen t e xs d∧d≠4∧(c.p≠[]→d=2)∧W.cv c.r c.j=some h∧JR W.w c.p e h e' y∧
  lv=⟨.sl t' e',ys⟩∧AD e' d W.w W.fz y ys o'∧(∀b∈o',b∈W.om (.lf c.r c.j))∧o'.Nodup
def G8(s:St)(W:Wd)(pm:PM)(av:AV)(tg:PT)(u:Value)(vs:List Lv):Prop:=match pm with
 | .val g ls=>tg=.none∧FX W.w (Seen W av.roots) g (ls.map fun l=>(l,0)) u vs fun _=>[]
 | .box ls=>∃r AA,av=.v false [.ptr r 0 AA]∧tg=.box r∧(s.root r).box=true∧(s.root r).ls.length=ls.length∧u=.pointer (some ⟨W.bk r,0,none⟩)∧vs.map (·.l)=ls.map (·.1)∧
   ∀(j:Nat)(p:L×Nat)(lv:Lv)(y:Value),ls[j]?=some p→vs[j]?=some lv→W.cv r j=some y→lv.l.rd p.2 W.w W.fz y lv.x (W.om (.lf r j))
 | .row g ls=>∃as l,av=.v g as∧tg=.row l∧as.length=ls.length∧l.length=ls.length∧vs.map (·.l)=ls.map (·.1)∧(match g with
   |true=>∃cs:Array Value,u=.agg cs∧cs.size=ls.length
   |false=>ls.length=1)∧∀(j:Nat)(p:L×Nat)(a:LA)(lv:Lv) (o:Option (Loc×List Nat)),ls[j]?=some p→as[j]?=some a→vs[j]?=some lv→l[j]?=some o→∃y,Av g u j=some y∧FY s W p.2 a o lv y
 | .fn f=>tg=.none∧u=.func (.func f) #[] #[]∧vs=[]
theorem Lk(h:AU E s tm W){β:Type}{t:β}{l:L}{d:Nat}{a:LA}{y:Value}(hy:AP s W a y){k:Lv→List Tg→Step β}(hl:(JO s l d a k).leads t):
  ∃(lv:Lv) (o:Option (Loc×List Nat)),(k lv (PT.row [o]).D8).leads t∧lv.l=l∧FY s W d a o lv y:=by
 have plain:Bp l=false→((s.datum l a fun x=>k ⟨l,x⟩ []).leads t)→∃(lv:Lv) (o:Option (Loc×List Nat)),(k lv (PT.row [o]).D8).leads t∧lv.l=l∧FY s W d a o lv y:=by intro hs hl;obtain⟨x,hl,hr⟩:=Bg h hy hl;exact⟨⟨l,x⟩,none,hl,rfl,.inl ⟨hs,rfl,(L.AZ l hs hr).1⟩⟩
 cases l with
 |int i=>exact plain rfl hl
 |bool=>exact plain rfl hl
 |str=>exact plain rfl hl
 |sl t0 e0=>
  cases a with
  |ref c=>
   replace hl:(if d != 4&&(match s.leaf c.r c.j with
    | .arr _ _ _ _ _ dd=>dd==d&&(isNil c.p||d==2)
    |_=>false)then s.datum (.sl t0 e0) (.ref c) fun x=>k ⟨.sl t0 e0,x⟩ [(c.r,some c.j)]else Step.none).leads t:=hl
   cases hq:s.leaf c.r c.j with
   |arr AA gen t1 e1 xs dd=>
    simp only[hq]at hl;split at hl
    ·rename_i Td;simp only[gL,gl,gV,bne_iff_ne]at Td;obtain⟨Yb,Zu,hp⟩:=Td;subst Zu;have W0:c.p≠[]→dd=2:=fun Tf=>hp.resolve_left fun hn=>Tf (by cases hq:c.p<;>simp_all[isNil]);simp only[St.datum,St.content,hq]at hl;split at hl
     ·rename_i Te;simp only[gL,gl,gV]at Te;obtain⟨Te,Wt⟩:=Te;subst Te;have Wt:c.p=[]∨gen=c.gen:=Wt.imp (fun hn=>by cases hq:c.p<;>simp_all[isNil]) id;obtain⟨h',e',T3,hn⟩:=hy gen _ _ _ _ hq Wt;obtain⟨u',Tj,Th⟩:=(h.roots c.r).row hq;rw[T3]at Tj;injection Tj with Tj;rw[←Tj]at Th
      obtain⟨t',ys,o',hl,ZI,UO,UU⟩:=Fh c.p hl Th hn W0 (h.sep.nodup _);split at hl
      ·rename_i x hx;obtain⟨q1,q2⟩:=L.AH hx;cases q1;have q2:ys=x:=q2;subst q2;exact⟨⟨.sl t0 e0,ys⟩,some (c,o'),hl,rfl,.inr (.inr ⟨c,o',gen,t1,e1,xs,h',t0,e0,ys,rfl,rfl,hq,Yb,W0,T3,hn,rfl,ZI,UO,UU⟩)⟩
      ·exact hl.elim
     ·exact hl.elim
    ·exact hl.elim
   |_=>simp only[hq,Bool.and_false,ib,if_false]at hl;exact hl.elim
  |CL=>
   replace hl:(if d==4 then k ⟨.sl t0 e0,([]:List e0.D)⟩ []else Step.none).leads t:=hl
   split at hl
   ·rename_i hd;exact⟨⟨.sl t0 e0,([]:List e0.D)⟩,none,hl,rfl,.inr (.inl ⟨gV.1 hd,rfl,rfl,hy,t0,e0,rfl⟩)⟩
   ·exact hl.elim
  |_=>exact hl.elim
theorem H7(h:AU E s tm W){β:Type}{t:β}:∀(ls:List (L×Nat)) (as:List LA) (G:Nat→Option Value) {k:List Lv→List Tg→Step β},(∀(j:Nat)(b:LA),as[j]?=some b→∃y,G j=some y∧AP s W b y)→(Ep s ls as k).leads t→
  ∃(vs:List Lv) (l:List (Option (Loc×List Nat))),(k vs (PT.row l).D8).leads t∧as.length=ls.length∧l.length=ls.length∧vs.map (·.l)=ls.map (·.1)∧(PT.row l).D8.Pairwise NH∧
   ∀(j:Nat)(p:L×Nat)(a:LA)(lv:Lv) (o:Option (Loc×List Nat)),ls[j]?=some p→as[j]?=some a→vs[j]?=some lv→l[j]?=some o→∃y,G j=some y∧FY s W p.2 a o lv y
 | [],[],G,k,hg,hl=>⟨[],[],hl,rfl,rfl,rfl,List.Pairwise.nil,fun j p a lv o hp=>by simp at hp⟩
 | [],_::_,G,k,hg,hl=>hl.elim
 |_::_,[],G,k,hg,hl=>hl.elim
 |(l,d)::ls,a::as,G,k,hg,hl=>by
  obtain⟨y,hy,XM⟩:=hg 0 a rfl;obtain⟨lv,o,hl,Ur,hrl⟩:=Lk h XM hl;obtain⟨vs,lo,hl,h1,h2,h3,h4,h5⟩:=H7 h ls as (fun j=>G (j+1)) (fun j b hj=>hg (j+1) b (by grind)) hl;split at hl
  ·exact hl.elim
  ·rename_i Wj
   have he:(PT.row (o::lo)).D8=(PT.row [o]).D8++(PT.row lo).D8:=by
    cases o<;>simp[PT.D8]
   refine⟨lv::vs,o::lo,by rw[he];exact hl,by simp[h1],by simp[h2],by simp[Ur,h3],?_,?_⟩
   ·rw[he,List.pairwise_append];refine⟨?_,h4,fun x hx z hz=>?_⟩
    ·cases o<;>simp[PT.D8]
    ·show Tg.Db z x=false;cases hq:Tg.Db z x with
     |false=>rfl
     |true=>exact absurd (iL.2 ⟨x,hx,iL.2 ⟨z,hz,hq⟩⟩) Wj
   grind
mutual
theorem L.CQ:∀(l:L) {w:World} {fz:Nat→Prop} {v:Value} {x:l.D} {o:List Nat},l.rd 3 w fz v x o↔l.rd 2 w fz v x o
 | .int _,_,_,_,_,_=>Iff.rfl
 | .bool,_,_,_,_,_=>Iff.rfl
 | .str,_,_,_,_,_=>Iff.rfl
 | .sl _ e,w,fz,v,x,o=>by
  have hf:e.rd (dec 3) w fz=e.rd (dec 2) w fz:=by funext g y o;exact propext (Ls.CQ e)
  exact iff_of_eq (congrArg (fun R=>CB e.n R true w fz v x o) hf)
theorem Ls.CQ:∀(ls:Ls) {w:World} {fz:Nat→Prop} {g:Nat→Option Value} {x:ls.D} {o:List Nat},ls.rd 3 w fz g x o↔ls.rd 2 w fz g x o
 | .nil,_,_,_,_,_=>Iff.rfl
 | .one l,w,fz,g,x,o=>exists_congr fun v=>and_congr_right fun _=>L.CQ l
 | .cons l ls,w,fz,g,x,o=>exists_congr fun v=>exists_congr fun o1=>exists_congr fun o2=>and_congr_right fun _=>and_congr (L.CQ l) (and_congr (Ls.CQ ls) Iff.rfl)
end
theorem Je(h:AU E s tm W){β:Type}{t:β}(r:Nat):∀(ls:List (L×Nat)) (as:List LA) (j:Nat) {k:List Lv→Step β},(∀i b,as[i]?=some b→s.leaf r (j+i)=b)→EM ls as=true→(s.data (ls.map (·.1)) (Az r j as) k).leads t→
  ∃vs:List Lv,(k vs).leads t∧as.length=ls.length∧vs.map (·.l)=ls.map (·.1)∧∀(i:Nat)(p:L×Nat)(lv:Lv)(y:Value),ls[i]?=some p→vs[i]?=some lv→W.cv r (j+i)=some y→lv.l.rd p.2 W.w W.fz y lv.x (W.om (.lf r (j+i)))
 | [],[],j,k,hg,hd,hl=>⟨[],hl,rfl,rfl,fun i p lv y hp=>by simp at hp⟩
 | [],_::_,j,k,hg,hd,hl=>hl.elim
 |_::_,[],j,k,hg,hd,hl=>hl.elim
 |(l,m)::ls,b::as,j,k,hg,hd,hl=>by
  simp only[EM,gL]at hd;obtain⟨Yy,hd⟩:=hd;have hb:s.leaf r j=b:=hg 0 b rfl;obtain⟨h1,_⟩:=h.roots r;have h1:Aa s W (s.leaf r j) (W.cv r j) (W.om (.lf r j)):=h1 j;rw[hb]at h1
  have fin:∀(x:l.D),(s.data (ls.map (·.1)) (Az r (j+1) as) fun vs=>k (⟨l,x⟩::vs)).leads t→(∀y,W.cv r j=some y→l.rd m W.w W.fz y x (W.om (.lf r j)))→∃vs:List Lv,(k vs).leads t∧(b::as).length=((l,m)::ls).length∧vs.map (·.l)=((l,m)::ls).map (·.1)∧
    ∀(i:Nat)(p:L×Nat)(lv:Lv)(y:Value),((l,m)::ls)[i]?=some p→vs[i]?=some lv→W.cv r (j+i)=some y→lv.l.rd p.2 W.w W.fz y lv.x (W.om (.lf r (j+i))):=by
   intro x hl hx;obtain⟨vs,hl,hlen,hm,VF⟩:=Je h r ls as (j+1) (fun i b hi=>by have:=hg (i+1) b (by simpa using hi);grind) hd hl;refine⟨_,hl,by simp[hlen],by simp[hm],fun i p lv y hp Ur hy=>?_⟩;cases i with
   |zero=>grind
   |succ i=>
    grind
  cases b with
  |arr AA gen t0 e xs d=>
   have dn:d=m∨(m=3∧d=2):=by simpa using Yy
   have hl:(s.datum l (.ref ⟨r,j,AA,gen,[]⟩) fun x=>s.data (ls.map (·.1)) (Az r (j+1) as) fun vs=>k (⟨l,x⟩::vs)).leads t:=hl;simp only[St.datum,St.content,hb]at hl;rw[gS (by simp[isNil])]at hl;simp only[Oj]at hl;split at hl
   ·rename_i x hx;obtain⟨q1,q2⟩:=L.AH hx;subst q1;have q2:xs=x:=q2;subst q2;refine fin xs hl fun y hy=>?_;obtain⟨u,hu,Th⟩:=h1;rw[hy]at hu;injection hu with hu;subst hu
    rcases dn with rfl|⟨rfl,rfl⟩
    ·exact Th
    ·exact(L.CQ _).2 Th
   ·exact hl.elim
  |sc l0 x0=>
   have hl:(s.datum l (.sc l0 x0) fun x=>s.data (ls.map (·.1)) (Az r (j+1) as) fun vs=>k (⟨l,x⟩::vs)).leads t:=hl;simp only[St.datum]at hl;split at hl
   ·rename_i x hx;obtain⟨q1,q2⟩:=L.AH hx;subst q1;have q2:x0=x:=q2;subst q2;refine fin x0 hl fun y hy=>?_;obtain⟨ho,Th⟩:=h1;have Th:l0.rd 0 W.w W.fz y x0 []:=Th y hy;rw[ho];simp only[gl,gW,gV]at Yy;rcases Yy with XP|h0
    ·exact(L.AZ l0 XP Th).1
    grind
   ·exact hl.elim
  |_=>cases Yy
theorem A8:∀(ms:List Nat)(t:Nat),has ms t=true↔t∈ms
 | [],t=>by simp[has]
 |m::ms,t=>by show(m==t||has ms t)=true↔_;rw[gl,A8 ms t,gj,gV];grind
theorem I1(h:AU E s tm W){β:Type}{t:β}:∀(ps:List PM)(Tz:List AV)(us:List Value) {k:List Lv→List Tg→Step β},us.length=Tz.length→(∀(i:Nat)(av:AV)(u:Value),Tz[i]?=some av→us[i]?=some u→BQ s W av u)→(Ao s ps Tz k).leads t→
  ∃(TX:List (List Lv)) (T:List PT),(k TX.flatten (T.flatMap PT.D8)).leads t∧Tz.length=ps.length∧TX.length=ps.length∧T.length=ps.length∧(T.flatMap PT.D8).Pairwise NH∧
   ∀(i:Nat)(pm:PM)(av:AV)(u:Value)(vs:List Lv)(tg:PT),ps[i]?=some pm→Tz[i]?=some av→us[i]?=some u→TX[i]?=some vs→T[i]?=some tg→G8 s W pm av tg u vs
 | [],[],us,k,hlen,YZ,hl=>⟨[],[],hl,rfl,rfl,rfl,List.Pairwise.nil,fun i pm av u vs tg hp=>by simp at hp⟩
 | [],_::_,us,k,hlen,YZ,hl=>by simp[Ao]at hl;exact hl.elim
 |pm::ps,[],us,k,hlen,YZ,hl=>by cases pm<;>simp[Ao]at hl<;>exact hl.elim
 |pm::ps,av::Tz,[],k,hlen,YZ,hl=>by simp at hlen
 |pm::ps,av::Tz,u::us,k,hlen,YZ,hl=>by
  have hu:BQ s W av u:=YZ 0 av u rfl rfl;have bL:∀(i:Nat)(av:AV)(u:Value),Tz[i]?=some av→us[i]?=some u→BQ s W av u:=fun i Yq u' h1 h2=>YZ (i+1) Yq u' (by grind) (by grind);have UC:us.length=Tz.length:=by simpa using hlen
  have fin:∀(tg:PT)(vs:List Lv) {k':List Lv→List Tg→Step β},(Ao s ps Tz k').leads t→G8 s W pm av tg u vs→
    (∀(TX:List Lv)(T:List PT),(k' TX (T.flatMap PT.D8)).leads t→(k (vs++TX) (tg.D8++T.flatMap PT.D8)).leads t∧∀x∈tg.D8,∀z∈T.flatMap PT.D8,NH x z)→tg.D8.Pairwise NH→
    ∃(TX:List (List Lv)) (T:List PT),(k TX.flatten (T.flatMap PT.D8)).leads t∧(av::Tz).length=(pm::ps).length∧TX.length=(pm::ps).length∧T.length=(pm::ps).length∧(T.flatMap PT.D8).Pairwise NH∧
     ∀(i:Nat)(W7:PM)(Yq:AV)(u':Value)(vs:List Lv)(tg:PT),(pm::ps)[i]?=some W7→(av::Tz)[i]?=some Yq→(u::us)[i]?=some u'→TX[i]?=some vs→T[i]?=some tg→G8 s W W7 Yq tg u' vs:=by
   intro tg vs k' hl UD hk dI;obtain⟨TX,T,hl,h1,h2,h3,h4,h5⟩:=I1 h ps Tz us UC bL hl;obtain⟨hl,UQ⟩:=hk _ _ hl;refine⟨vs::TX,tg::T,by grind,by simp[h1],by simp[h2],by simp[h3],?_,?_⟩
   ·grind
   ·grind
  cases pm with
  |val g ls=>
   cases av with
   |Di vs=>simp only[Ao]at hl;exact hl.elim
   |bx as=>simp only[Ao]at hl;exact hl.elim
   |v g' as=>
    simp only[Ao]at hl;split at hl
    ·rename_i hg;have hg:g=g':=by simpa using hg
     subst hg;have hu:Ey s W g as u:=hu;obtain⟨vs,hl,UK,W6,VF⟩:=Ek h (g:=Av g u) (fun j b hj=>B4 hu j b hj) hl;have hll:as.length=ls.length:=by rw[←UK,←W6];simp
     refine fin .none vs hl ⟨rfl,by rw[W6];simp[Function.comp_def],?_,?_⟩ (fun TX T hk=>⟨hk,fun x hx=>by cases hx⟩) List.Pairwise.nil
     ·cases g with
      |true=>obtain⟨cs,Ve,Tt,_⟩:=hu;grind
      |false=>
       cases as with
       |nil=>exact hu.elim
       |cons b bs=>cases bs with
        |nil=>grind
        |cons=>exact hu.elim
     ·intro j p lv hp Ur;obtain⟨y,hy,hr⟩:=VF j lv Ur;rw[ga]at hp;cases hq:ls[j]? with
      |none=>grind
      |some l=>
       rw[hq]at hp;injection hp with hp;subst hp
       exact⟨y,hy,hr⟩
    ·exact hl.elim
  |box ls=>
   unfold Ao at hl;split at hl<;>try exact hl.elim
   ·rename_i e1 _;cases e1
   ·rename_i e1 _;cases e1
   ·rename_i XH YA r AA WI e1 e2;injection e1 with e1 Zk;injection e1 with e1;subst e1;subst Zk
    injection e2 with e2 ZR;subst e2;subst ZR
    split at hl
    ·rename_i Td;simp only[gL,gV]at Td;obtain⟨⟨hb,Te⟩,Xc⟩:=Td;obtain⟨vs,hl,Vw,W6,VF⟩:=Je h r ls (s.root r).ls 0 (fun i b hi=>by unfold St.leaf;rw[gb,Af,hi];rfl) Xc hl;refine fin (.box r) vs hl ⟨r,AA,rfl,rfl,hb,Vw,hu hb Te,W6,fun j p lv y hp Ur hy=>?_⟩ ?_ (by simp[PT.D8])
     ·have:=VF j p lv y hp Ur (by rw[gb];exact hy);rwa[gb]at this
     ·intro TX T hk;split at hk
      ·exact hk.elim
      ·rename_i Wx;refine⟨by simpa[PT.D8]using hk,fun x hx z hz=>?_⟩;simp only[PT.D8,hJ]at hx;subst hx;show Tg.Db z (r,none)=false;cases hq:Tg.Db z (r,none)with
       |false=>rfl
       |true=>exact absurd (iL.2 ⟨z,hz,hq⟩) Wx
    ·exact hl.elim
   all_goals grind
  |row g ls=>
   cases av with
   |Di vs=>simp only[Ao]at hl;exact hl.elim
   |bx as=>simp only[Ao]at hl;exact hl.elim
   |v g' as=>
    simp only[Ao]at hl;split at hl
    ·rename_i hg;have hg:g=g':=by simpa using hg
     subst hg;have hu:Ey s W g as u:=hu;obtain⟨vs,l,hl,h1,h2,h3,h4,h5⟩:=H7 h ls as (Av g u) (fun j b hj=>B4 hu j b hj) hl;refine fin (.row l) vs hl ⟨as,l,rfl,rfl,h1,h2,h3,?_,h5⟩ ?_ h4
     ·cases g with
      |true=>obtain⟨cs,Ve,Tt,_⟩:=hu;grind
      |false=>
       cases as with
       |nil=>exact hu.elim
       |cons b bs=>cases bs with
        |nil=>grind
        |cons=>exact hu.elim
     ·intro TX T hk;split at hk
      ·exact hk.elim
      ·rename_i Wj;refine⟨hk,fun x hx z hz=>?_⟩;show Tg.Db z x=false;cases hq:Tg.Db z x with
       |false=>rfl
       |true=>exact absurd (iL.2 ⟨x,hx,iL.2 ⟨z,hz,hq⟩⟩) Wj
    ·exact hl.elim
  |fn f=>
   unfold Ao at hl;split at hl<;>try exact hl.elim
   ·grind
   ·grind
   ·grind
   ·grind
   ·rename_i f' YA g WI e1 e2;injection e1 with e1 Zk;injection e1 with q1;subst q1;subst Zk
    injection e2 with e2 ZR;subst e2;subst ZR
    split at hl
    ·rename_i bZ;have bZ:f=g:=by simpa using bZ
     subst bZ;exact fin .none [] hl ⟨rfl,hu,rfl⟩ (fun TX T hk=>⟨by simpa[PT.D8]using hk,fun x hx=>by cases hx⟩) List.Pairwise.nil
    ·exact hl.elim
end
end Go.Ev
namespace Go.Ev
section
variable {P:Program}{E:Cr}{s:St}{W:Wd}{o:Oper}{a:Act}{ws:List Wr}{cx:Cx}{v:Nat}{tm:Array Value}
theorem JV.Hp{s':St}{W':Wd}{rs:List Nat}(h:JV s s' W W' rs)(hv:Ac s v):Ac s' v:=by
 refine⟨fun t=>?_,fun r j=>?_,hv.2.2⟩
 ·have:s'.slot t=s.slot t:=by show nth _ s'.sl t=_;rw[h.same.sl];rfl
  rw[this];exact hv.1 t
 ·rcases h.Ol r j with e|e
  ·rw[e];exact hv.2.1 r j
  ·rw[e];have:=hv.2.1 r j;cases hq:s.leaf r j with
   |arr=>exact .inl rfl
   |_=>rw[hq]at this;exact this
theorem Mf{s s':St}(h:s'.sl=s.sl)(x:Operand):s'.Aq x=s.Aq x:=by
 cases x with
 |tmp t=>show nth _ s'.sl t=nth _ s.sl t;rw[h]
 |const c=>cases c<;>rfl
 |global g=>rfl
 |func f=>rfl
theorem Me(hc:DV P cx)(ZV:L0 P cx.env)(h:AU E s a.tmps W)(hv:Ac s v){t:TypeId}{x y:Operand}(ho:o.op=.store t x y)(hl:(AB cx v o s).leads ws):BZ P E o a W.w (s.app ws):=by
 simp only[AB,ho]at hl;have h1:=Ae h x;have h2:=A5 h y;have VS:=Fv hv y;split at hl
 ·rename_i ty g as ht hy;rw[hy]at h2 VS;split at hl
  ·obtain⟨ws0,rfl,hg⟩:=Gn hc h hv ho ht h1 h2 VS hl;exact hg
  ·rename_i r rs hn;split at hl
   ·rename_i fs VR;obtain⟨W1,XQ,fr,_⟩:=Em h hv VR;have e1:(s.app fs).Aj x=s.Aj x:=by unfold St.Aj;rw[Mf fr.same.sl]
    have e2:(s.app fs).Aq y=s.Aq y:=Mf fr.same.sl y;have k1:=Ae XQ x;have k2:=A5 XQ y;rw[e1]at k1;rw[e2,hy]at k2;obtain⟨ws0,rfl,hg⟩:=Gn hc XQ (fr.Hp hv) ho ht k1 k2 VS hl;rw[fr.w]at hg;rw[BC];exact hg
   ·exact hl.elim
 ·rename_i p ht;unfold IC at hl;generalize hy:s.Aq y=p at hl;split at hl
  ·rename_i g ps qs;split at hl
   ·rename_i hf;split at hl
    ·rename_i r j AA hx;split at hl
     ·rename_i VW;split at hl
      ·rename_i Td;simp only[gL,gV,gm]at Td;obtain⟨⟨hb,Te⟩,T5⟩:=Td;have hl:_=ws:=hl;obtain⟨i,z,c,hi,Tt,_⟩:=ZV t hf;rw[hy]at h2 VS;have h2:AP s W (.EB g ps qs) (a.eval y):=h2;rw[hx]at h1;have UH:(a.eval y).oneCell'=true:=by obtain⟨bs,hu,_⟩:=h2;rw[hu];rfl
       have Tv:=Ej UH;obtain⟨_,UB⟩:=h.roots r;rw[gS hb]at UB;obtain⟨_,arr,T,fr,hh,Tl,Wo,_⟩:=UB;obtain⟨w',Ti,Tm⟩:=DT (P:=P) (o:=j) (a.eval y).cells.toList hh Tl (by rw[Tv];simp;omega) (by rw[Tv];intro u hu;simp at hu;subst hu;exact UH)
       obtain⟨W',UY,TY⟩:=h.KF hv (j:=j) hb (us:=[]) (bs:=[.EB g ps qs]) (os:=fun _=>[]) (cells:=(a.eval y).cells.toList) (by rw[Tv];rfl) (by simpa using T5)
        (fun m b hm=>by
         cases m with
         |zero=>
          simp at hm;subst hm;refine⟨a.eval y,by rw[Tv];rfl,UH,gR,(fun b hb=>by cases hb),rfl,h2,fun TW=>VS ?_⟩;simpa[AV.AG]using TW
         |succ m=>simp at hm) (fun _ _ _ b hb=>by cases hb) (fun m hm=>rfl) hh Tm
       have WD:ws=gone []++BA r j [.EB g ps qs]:=hl.symm;rw[WD];exact C6 ho VW (h1 hb Te) hi (by rw[Tv,Tt];rfl) (by rw[UY];exact Ti) TY
      ·exact hl.elim
     ·exact hl.elim
    ·exact hl.elim
   ·exact hl.elim
  ·exact hl.elim
 ·exact hl.elim
end
end Go.Ev
