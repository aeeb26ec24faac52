/- Evaluator. Conditions: none. -/
import Derived.Test.YtimfhfkcgkplcaaGreatDoorLib1
import Derived.Laws.BytesArg
import Derived.Lib.ConvBytes
import Derived.Laws.AppendOwn
import Derived.Sort.Grow
import Derived.Deep.Draws
set_option linter.all false
namespace Go.Ev
theorem EK{P:Program}{w w':World}(t ty e:TypeId)(i:TypeInfo)(ht:P.underlying t=some (.slice e))(hi:P.info? e=some i)(b:Addr)(sLen sCap:Nat)(A:Option Addr)(n c:Nat)(news:ADM)
  (hf:(Builtin.firstCells i.size n (.slice A n c)).run P w=.ok news.toArray w) (vD:sLen+n<=sCap) (wc:(storeCells (b.add (sLen*i.size)) news).run P w=.ok () w'):
  (Builtin.append_ #[t,t] ty #[.slice (some b) sLen sCap,.slice A n c]).run P w=.ok (.slice (some b) (sLen+n) sCap) w':=by
 simp[Builtin.append_,run_underlying ht,sizeOf,typeInfo,hi,Builtin.lenOf,vD,hf,wc]
theorem D0{P:Program}{w:World}(t ty e:TypeId)(i:TypeInfo)(ht:P.underlying t=some (.slice e))(hi:P.info? e=some i)(sCap:Nat)(A:Option Addr)(c:Nat)(news:ADM)
  (hf:(Builtin.firstCells i.size 0 (.slice A 0 c)).run P w=.ok news.toArray w):
  (Builtin.append_ #[t,t] ty #[.slice none 0 sCap,.slice A 0 c]).run P w=.ok (.slice none 0 sCap) w:=by
 simp[Builtin.append_,run_underlying ht,sizeOf,typeInfo,hi,Builtin.lenOf,hf]
theorem Ob{t' t:TypeId}{e' e:Ls}{xs:List e'.D}{ys:List e.D}(h:L.cast (a:=.sl t' e') (.sl t e) xs=some ys):t'=t/\∃he:e'=e,∀(Q:(f:Ls)->List f.D->Prop),Q e' xs->Q e ys:=by obtain⟨h1,h2⟩:=L.AH h;grind
theorem FT{α β:Type}:∀l:List α,(l.flatMap λ_=>([]:List β))=[]
 | []=>rfl
 |_::l=>by simp[FT l]
section
variable {P:Program}{E:Ck}{s:St}{W:Wd}{o:Oper}{a:Act}{ws:List Wr}{cx:Cx}{v:Nat}
theorem ME(e:Ls)(m k:Nat)(hk:k<m):(madeCells (e.kinds.map Bu).toArray m)[k]?=some ((e.kinds.map Bu).toArray[k%e.n]!):=by simp[madeCells,hk,BT]
theorem MD(e:Ls)(hp:0<e.n)(n:Nat){d:Nat}{w:World}{fz:Nat->Prop}:C7 e d w fz (λk=>(madeCells (e.kinds.map Bu).toArray (n*e.n))[0+k]?) (List.replicate n (FG e)) λ_=>[]:=by intro i hi;rw[List.getElem_replicate];refine Ls.Fu e λj hj=>?_;simp only[AAa];rw[ME e _ _ (KP No hj),Nat.mul_add_mod',Nat.mod_eq_of_lt hj];simp[BT,hj]
theorem JD(hc:Db P cx)(h:AW E s a.tmps W)(hv:Aj s v){t:TypeId}{x y:Operand}(ho:o.op=.makeSlice t x y)(hd:∀d,o.dst=some d->d<a.tmps.size)(hl:(AA cx v o s).leads ws):BS P E o a W.w (s.app ws):=by
 simp only[AA,ho]at hl;split at hl
 ·rename_i ty d ht vK;split at hl
  ·exact hl.elim
  ·rename_i wR;split at hl
   ·rename_i t' e vx;obtain⟨kl,n,hx,hl⟩:=D8 (Ac h x) hl;obtain⟨kc,m,hy,hl⟩:=D8 (Ac h y) hl;rcases Ah hl with⟨hb,hl⟩|⟨_,hl⟩
    ·simp only[AAJ,AAe]at hb;obtain⟨⟨h0,h1⟩,rfl⟩:=hb;obtain⟨vT,uk⟩:=(Bw hc ht vx No:GG P t (.sl t' e));obtain⟨i,hi,uh,zc,z,hz,yG⟩:=uk.info;have vu:m<=68719476736:=h1
     have ub:=run_make (P:=P) W.w t t' i z vT hi hz kl kc m m h0 (Int.le_refl _)
      (Int.le_trans (Int.mul_le_mul (show(i.bytes:Int)<=1024 by omega) vu h0 ADP) ADP) J
     rw[yG,uh]at ub
     obtain⟨W',vf,uP⟩:=h.Cd hv [] (hd d vK) (t0:=t') (e:=e) (xs:=List.replicate m.toNat (FG e)) (dd:=2) (u:=.slice (some ⟨W.w.heap.size,0,none⟩) m.toNat m.toNat) (w':=W.w.alloc (.cells (madeCells (e.kinds.map Bu).toArray (m.toNat*e.n)) t')) (o:=[W.w.heap.size]) (EM h _) (λb hb _=>Bj _ _ ADe) (by rw[BQ];omega) ⟨rfl,rfl,rfl⟩
      (by
       have:=Fh (e:=e) (w:=W.w.alloc (.cells (madeCells (e.kinds.map Bu).toArray (m.toNat*e.n)) t')) (fz:=W.fz) (ad:=⟨W.w.heap.size,0,none⟩) (c:=m.toNat) (xs:=List.replicate m.toNat (FG e)) (os:=λ_=>[])
        (heap_alloc_new _ _) rfl J (by simp[size_madeCells]) OF (MD e uk.pos m.toNat)
       simpa[FT]using this) OF (λb hb=>by simp at hb;subst hb;exact .inr ⟨AAb _,by rw[BQ];omega⟩)
     have hl:_=ws:=hl;rw[<-hl];refine Bf h vK ?_ vf uP;simp[execOp,ho,hx,hy,ub]
    ·exact hl.elim
   ·exact hl.elim
 ·exact hl.elim
def KE(P:Program)(s:St)(W:Wd)(e:Ls)(u:Value)(ys:List e.D)(us:List (Nat×Nat)):Prop:=
 ∃A c g os,u=.slice A ys.length c/\(A=none->ys=[])/\(∀ad,A=some ad->ys≠[]->ad.spot=none/\∀k,W.w.cell? (at_ ad k)=g k)/\C7 e 2 W.w W.fz g ys os/\((List.range ys.length).flatMap os).Nodup/\
  (∀i,i<ys.length->∀b∈os i,∃r j,(r,j)∈us/\b∈W.om (.lf r j))/\us.Nodup
theorem I7(h:AW E s a.tmps W){la:LA}{u:Value}(hu:AR s W la u){t:TypeId}{e:Ls}{β:Type}{k:List e.D->List (Nat×Nat)->Step β}{z:β}(hl:(EI cx s la t e k).leads z):
  ∃ys us,(k ys us).leads z/\KE P s W e u ys us:=by
 unfold EI at hl;split at hl
 ·rename_i hf;obtain⟨ys,hl,hr⟩:=Bs h hu hl;refine⟨ys,[],hl,?_⟩;obtain⟨A,c,hv,hc,hn,vF⟩:=AE.LG (L.N4.1 hr);cases A with
  |none=>
   have:ys=[]:=AAO No;subst this;exact⟨none,c,λ_=>none,λ_=>[],hv,λ_=>rfl,(λad wD _=>by cases wD),(λi hi=>by simp at hi),OF,(λi hi=>by simp at hi),AAS⟩
  |some ad=>
   by_cases hc0:c=0
   ·have:ys=[]:=AAO J;subst this;exact⟨some ad,c,λ_=>none,λ_=>[],hv,λ_=>rfl,(λad wD uV=>absurd rfl uV),(λi hi=>by simp at hi),OF,(λi hi=>by simp at hi),AAS⟩
   obtain⟨arr,T,fr,os,hs,hh,_,_,uk,_,_⟩:=vF ad rfl (.inl J);refine⟨some ad,c,_,_,hv,(λhA=>by cases hA),?_,C7.flat hf uk 2 W.w W.fz,No,(λi hi b hb=>by cases hb),AAS⟩;intro ad' wD _;injection wD with wD;subst wD
   exact⟨hs,λk=>by simp[World.cell?,at_,hh]⟩
 ·split at hl
  ·rename_i c;split at hl
   ·rename_i AB gen t' e' xs d uM;split at hl
    ·rename_i uU;simp only[AAJ,AAT,AAV]at uU;obtain⟨⟨⟨uT,hp⟩,zD⟩,hd⟩:=uU;subst uT;subst hd;have hp:c.p=[]:=by cases hq:c.p<;>simp_all[isNil]
     split at hl
     ·rename_i ys hys;obtain⟨h1,h2⟩:=L.AH hys;cases h1;have h2:xs=ys:=h2;subst h2;obtain⟨h',e',uv,hn⟩:=hu gen _ _ _ _ uM (.inl hp);rw[hp]at hn;obtain⟨rfl,rfl⟩:=hn;obtain⟨u',uY,uW⟩:=(h.roots c.r).row uM;rw[uv]at uY;injection uY with uY;subst uY
      refine⟨xs,_,hl,?_⟩;obtain⟨A,cc,hv,hc,hn,vF⟩:=uW.LG;cases A with
      |none=>
       have:xs=[]:=AAO No;subst this;exact⟨none,cc,λ_=>none,λ_=>[],hv,λ_=>rfl,(λad wD _=>by cases wD),(λi hi=>by simp at hi),OF,(λi hi=>by simp at hi),OF⟩
      |some ad=>
       obtain⟨arr,T,fr,os,hs,hh,_,_,uk,ho,_⟩:=vF ad rfl (.inr ADP);have ho:=ho ADP;have vd:=h.sep.nodup (.lf c.r c.j);rw[ho]at vd;refine⟨some ad,cc,_,os,hv,(λhA=>by cases hA),?_,uk,(AAc.1 vd).2,?_,OF⟩
       ·intro ad' wD _;injection wD with wD;subst wD
        exact⟨hs,λk=>by simp[World.cell?,at_,hh]⟩
       grind
     ·exact hl.elim
    ·exact hl.elim
   ·exact hl.elim
  ·exact hl.elim
theorem LC{w:World}{fz:Nat->Prop}{v:Value}{xs:By}{d:Nat}{oo:Is}{t1 t2 t0:TypeId}(e1:P.underlying t1=some (.slice t0))(e2:P.underlying t2=some .string)(e0:P.underlying t0=some (.int .u8))
  (hr:AE (.one (.int .u8)) d w fz v xs oo):(convert t1 t2 v).run P w=.ok (.string ⟨(bytesOf xs).toArray⟩) w:=by
 obtain⟨A,c,hv,vL,wM,vF⟩:=hr.LG;have hv:v=.slice A (List.length (α:=Int) xs) c:=hv;have vL:List.length (α:=Int) xs<=c:=vL;rw[hv];cases A with
 |none=>
  obtain⟨hc0,_⟩:=wM rfl;have yF:xs=[]:=AAO J;subst yF;rw[run_convert_bytes_nil w t1 t0 e1 e0 _ _ t2 e2];rfl
 |some ad=>
  by_cases xg:0<c
  ·obtain⟨arr,T,fr,os,hs,hh,uh,_,uk,_⟩:=vF ad rfl (.inl xg);obtain⟨b,off,sp⟩:=ad;dsimp only at hs hh uh uk;subst hs
   rw[run_convert_bytes_arg w t1 t0 e1 e0 b off (List.length (α:=Int) xs) c xs rfl (λi hi=>by
    obtain⟨y,hy,zG⟩:=uk i hi;have hy:arr[off+(i*1+0)]?=some y:=hy;have hy2:y=.int .u8 (xs[i]'hi):=zG.1;simp only[World.cell?,hh];grind) t2 e2]
   rfl
  ·have yF:xs=[]:=AAO J;subst yF;rw[run_convert_bytes_string w t1 t2 t0 (some ad) _ c e1 e0 e2]
   have:=run_bytesToString (P:=P) w ad 0 c [] (by
    have:=run_loadCells_list (P:=P) (w:=w) ad [] (λj v hj=>by simp at hj);grind)
   exact this
theorem Nb(hc:Db P cx){t0:TypeId}(zS:Gi cx t0 (.int .u8)=true):P.underlying t0=some (.int .u8):=by
 unfold Gi at zS;split at zS
 ·rename_i ty0 hty0;simp only[AAJ,AAV]at zS;exact Bw hc hty0 (Ls.Dd zS.2) zS.1
 ·cases zS
theorem K9(b:ADD)(r:Array Value){d:Nat}{w:World}{fz:Nat->Prop}:C7 (.one (.int .u8)) d w fz (λk=>((b.toArray.map λc=>Value.int .u8 c.toNat)++r)[0+k]?) (Ci b) λ_=>[]:=by
 intro i hi
 have vw:i<b.length:=by have:i<(Ci b).length:=hi;simpa[Ci]using this
 refine⟨.int .u8 (b[i].toNat:Int),?_,?_,rfl⟩
 ·show((b.toArray.map λc=>Value.int .u8 c.toNat)++r)[0+(i*1+0)]?=_;rw[AAt ADJ];simp[vw]
 ·show Value.int .u8 _=.int .u8 ((Ci b)[i]'hi);simp[Ci]
theorem LB(w:World)(t0:TypeId)(b:ADD)(fz:Nat->Prop):AE (.one (.int .u8)) 2 (Go.Lib.bytesWorld w t0 ⟨b.toArray⟩) fz (.slice (some ⟨w.heap.size,0,none⟩) b.length (grownCap w b.length 0 t0)) (Ci b) [w.heap.size]:=by
 have vW:b.length<=grownCap w b.length 0 t0:=grownCap_ge ..;have hlen:(Ci b).length=b.length:=by simp[Ci]
 have hs:(Go.Lib.bytesCells w t0 ⟨b.toArray⟩).size=grownCap w b.length 0 t0:=by show((b.toArray.map _)++Array.replicate (grownCap w b.toArray.size 0 t0-b.toArray.size) _).size=_;rw[ABO,Array.size_map,Array.size_replicate,ABN];omega
 have h:=Fh (e:=.one (.int .u8)) (w:=Go.Lib.bytesWorld w t0 ⟨b.toArray⟩) (fz:=fz) (ad:=⟨w.heap.size,0,none⟩) (c:=grownCap w b.length 0 t0) (xs:=Ci b) (os:=λ_=>[])
  (Go.Lib.bytesWorld_at_new w t0 ⟨b.toArray⟩) rfl (λj hj=>by dsimp only;omega) (by
   show 0+_*1<=_;rw[hs];omega) (by
   show(Ci b).length<=_;omega) (K9 b _)
 rw[FT,show(List.length (α:=Ls.D (.one (.int .u8))) (Ci b))=b.length from hlen]at h;exact h
theorem KR(hc:Db P cx)(h:AW E s a.tmps W)(hv:Aj s v){t1 t2:TypeId}{x:Operand}(ho:o.op=.convert t1 t2 x)(hd:∀d,o.dst=some d->d<a.tmps.size)(hl:(AA cx v o s).leads ws):BS P E o a W.w (s.app ws):=by
 simp only[AA,ho]at hl;have h1:=Ac h x;generalize s.Af x=p at hl h1;split at hl
 ·rename_i ta ty k0 n hta ht;split at hl
  ·exact hl.elim
  ·rename_i wR;split at hl
   ·rename_i k vx;rw[AK hl];have hu:P.underlying t2=some (.int k):=Bw hc ht vx No
    have hd:∃d,P.underlying t1=some d:=by
     cases hg:ta.agg with
     |true=>obtain⟨fs,wP,_⟩:=(hc _ _ hta).agg hg;grind
     |false=>obtain⟨l,_,vr⟩:=(hc _ _ hta).lone hg;obtain⟨d,hd,_⟩:=vr.I9;grind
    obtain⟨d,hd⟩:=hd;refine AP h (u:=.int k (k.wrap n)) ?_ (BX _ _);have e1:a.eval x=.int k0 n:=h1.1;simp only[execOp,ho,convert,Sem.run_bind,run_underlying hd,run_underlying hu,Result.andThen_ok,e1];simp[Conv.intToInt]
   ·exact hl.elim
 ·rename_i ta ty p hta ht yO;split at hl
  ·exact hl.elim
  ·rename_i wR;simp only[AAd,not_or,Bool.not_eq_true]at wR;obtain⟨hg1,hg2⟩:=wR;split at hl
   ·rename_i t0 hls1 hls2;split at hl
    ·rename_i zS;have e1:P.underlying t1=some (.slice t0):=(Bw hc hta hls1 hg1).1;have e2:P.underlying t2=some .string:=Bw hc ht hls2 hg2;have e0:=Nb hc zS;obtain⟨xs,hl,hr⟩:=Bs h h1 hl;rw[AK hl];have ub:=LC e1 e2 e0 (xs:=xs) hr;refine AP h (u:=.string ⟨(bytesOf xs).toArray⟩) ?_ (KZ _);simp[execOp,ho,ub]
    ·exact hl.elim
   ·rename_i t0 hls1 hls2;unfold Ky at hl;split at hl
    ·rename_i b d vK;split at hl
     ·rename_i zS;have e1:P.underlying t1=some .string:=Bw hc hta hls1 hg1;have e2:P.underlying t2=some (.slice t0):=(Bw hc ht hls2 hg2).1;have e0:=Nb hc zS;have hx:a.eval x=.string ⟨b.toArray⟩:=h1.1;have ub:=Go.Lib.run_convert_string_bytes (P:=P) W.w t1 t2 t0 ⟨b.toArray⟩ e1 e2 e0;have hold:∀k,k<W.w.heap.size->(Go.Lib.bytesWorld W.w t0 ⟨b.toArray⟩).heap[k]?=W.w.heap[k]?:=λk hk=>Go.Lib.bytesWorld_at_old W.w t0 _ k hk
      obtain⟨W',vf,uP⟩:=h.Cd hv [] (hd d vK) (t0:=t0) (w':=Go.Lib.bytesWorld W.w t0 ⟨b.toArray⟩)
       (λk hk=>hold k (hk.elim (λhk=>(h.sep.fz k hk).1) λ⟨q,_,hk⟩=>(h.sep.own q k hk).2.1)) (λk hk _=>hold k ADe) (by rw[Go.Lib.bytesWorld_size];omega) ⟨rfl,rfl,rfl⟩
       (LB W.w t0 b W.fz) OF (λk hk=>by simp at hk;subst hk;exact .inr ⟨AAb _,by rw[Go.Lib.bytesWorld_size];omega⟩)
      have hl:_=ws:=hl;rw[<-hl];refine Bf h vK ?_ vf uP;simp only[execOp,ho,hx,Sem.run_bind];rw[ub];rfl
     ·exact hl.elim
    ·exact hl.elim
   ·exact hl.elim
 ·exact hl.elim
end
end Go.Ev
namespace Go.Ev
section
variable {P:Program}{E:Ck}{s:St}{W:Wd}{o:Oper}{a:Act}{ws:List Wr}{cx:Cx}{v:Nat}{tm:Array Value}
theorem IL(n m:Nat)(os vP:Nat->Is):((List.range (n+m)).flatMap λi=>if i<n then os i else vP (i-n))=(List.range n).flatMap os++(List.range m).flatMap vP:=by
 rw[List.range_add,List.flatMap_append];congr 1
 ·rw[List.flatMap_def,List.flatMap_def];congr 1;refine List.map_congr_left λi hi=>?_;grind
 ·rw[List.flatMap_map,List.flatMap_def,List.flatMap_def];congr 1;refine List.map_congr_left λi hi=>?_;grind
theorem K7(h:AW E s tm W)(hv:Aj s v){t t0 ty:TypeId}{e:Ls}(vT:P.underlying t=some (.slice t0))(uk:Nd P t0 e){d:Nat}(hd:d<tm.size){ux uy:Value}{xs ys:List e.D}{us1 us2:List (Nat×Nat)}{o1:Is}
  (hx:AE e 2 W.w W.fz ux xs o1) (hn1:o1.Nodup) (wu:∀b∈o1,∃r j,(r,j)∈us1/\b∈W.om (.lf r j)) (hy:KE P s W e uy ys us2) (zZ:∀x∈us1,x∉us2) (hlen:xs.length+ys.length<=E8) (t1:TypeId):
  ∃u w',(Builtin.append_ #[t,t] ty #[ux,uy]).run P W.w=.ok u w'/\∃W',W'.w=w'/\AW E (s.app (gone (us1++us2)++ownRow d v t1 e (xs++ys))) (tm.setIfInBounds d u) W':=by
 obtain⟨i,hi,uh,zc,z,hz,yG⟩:=uk.info;have xg:=uk.pos;have vN:xs.length+ys.length<=68719476736:=hlen;obtain⟨A1,c1,hux,hc1,hA1,w8⟩:=hx.LG;obtain⟨A2,c2,g2,os2,huy,hA2,yE,xA,hnd2,yw,hnus2⟩:=hy
 have xM:∀b∈o1,∀i,i<ys.length->b∉os2 i:=by
  intro b hb i hi uZ;obtain⟨r,j,hm,h1⟩:=wu b hb;obtain⟨r',j',vy,vu⟩:=yw i hi b uZ;by_cases he:(r,j)=(r',j')
  ·grind
  ·exact h.sep.A7 (.lf r j) (.lf r' j') (λe=>he No) b h1 vu
 have hfl2:∀b∈(List.range ys.length).flatMap os2,∃i,i<ys.length/\b∈os2 i:=by intro b hb;obtain⟨i,hi,hb⟩:=AAL.1 hb;exact⟨i,AAX.1 hi,hb⟩
 have xd:∀b,(b∈o1\/b∈(List.range ys.length).flatMap os2)->∃r j,(r,j)∈us1++us2/\b∈W.om (.lf r j):=by
  intro b hb;rcases hb with hb|hb
  ·grind
  ·grind
 have uR:∀b,(∃r j,(r,j)∈us1++us2/\b∈W.om (.lf r j))->b<W.w.heap.size:=λb ⟨r,j,_,hb⟩=>(h.sep.own _ b hb).2.1
 have zA:∃news:ADM,news.length=ys.length*e.n/\(∀k,k<ys.length*e.n->news[k]?=g2 k)/\(∀v∈news,v.oneCell'=true)/\
   (Builtin.firstCells i.size ys.length (.slice A2 ys.length c2)).run P W.w=.ok news.toArray W.w/\∀ad,A2=some ad->∀j u,news[j]?=some u->W.w.cell? (ad.add j)=some u:=by
  have ur:=xA.cell
  have wZ:∀ad,A2=some ad->∀j u,(Bo g2 (ys.length*e.n))[j]?=some u->W.w.cell? (ad.add j)=some u:=by
   intro ad wD j u hj;have uR:j<ys.length*e.n:=by have:=(AAK.1 hj).1;rwa[Ab]at this
   rw[CL ur j uR]at hj;obtain⟨hs,hg⟩:=yE ad wD (λh0=>by grind);rw[Ez hs,hg,hj]
  refine⟨Bo g2 (ys.length*e.n),Ab _ _,CL ur,HX ur,?_,wZ⟩;cases hA:A2 with
  |none=>
   have:=hA2 hA;subst this;rw[run_firstCells_none];simp[Bo]
  |some ad=>exact run_firstCells_some W.w i.size ys.length ad ys.length c2 _ (by rw[Ab,uh]) (wZ ad hA)
 obtain⟨news,wa,hng,hn1',hnf,wx⟩:=zA;subst hux;subst huy
 have fresh:∀(os1:Nat->Is)(arr:Array Value)(cap:Nat),xs.length+ys.length<=cap->cap*e.n<=arr.size->C7 e 2 W.w W.fz (λk=>arr[k]?) xs os1->(∀k,k<ys.length*e.n->arr[xs.length*e.n+k]?=g2 k)->
   (∀b∈(List.range xs.length).flatMap os1,b∈o1)->((List.range xs.length).flatMap os1).Nodup->
   ∃W',W'.w=W.w.drew.alloc (.cells arr t0)/\AW E (s.app (gone (us1++us2)++ownRow d v t1 e (xs++ys))) (tm.setIfInBounds d (.slice (some ⟨W.w.heap.size,0,none⟩) (xs.length+ys.length) cap)) W':=by
  intro os1 arr cap vp vR xJ hy1 vS ya;have hold:∀b,b<W.w.heap.size->(W.w.drew.alloc (.cells arr t0)).heap[b]?=W.w.heap[b]?:=λb hb=>Bj W.w.drew _ hb
  have xN:C7 e 2 (W.w.drew.alloc (.cells arr t0)) W.fz (λk=>arr[0+k]?) (xs++ys) λi=>if i<xs.length then os1 i else os2 (i-xs.length):=by
   refine C7.append ?_ ?_
   ·refine C7.congr (g:=λk=>arr[k]?) ?_ λk _=>No
    refine xJ.frame (λb hb=>hold b ?_) λ_ hb=>hb;rcases hb with⟨i,hi,hb⟩|hb
    ·exact uR b (xd b (.inl (vS b (AAL.2 ⟨i,AAX.2 hi,hb⟩))))
    ·exact(h.sep.fz b hb).1
   ·refine C7.congr (g:=g2) ?_ λk hk=>No
    refine xA.frame (λb hb=>hold b ?_) λ_ hb=>hb;rcases hb with⟨i,hi,hb⟩|hb
    ·obtain⟨r,j,hm,h1⟩:=yw i hi b hb;exact(h.sep.own _ b h1).2.1
    ·exact(h.sep.fz b hb).1
  have uX:=Fh (w:=W.w.drew.alloc (.cells arr t0)) (ad:=⟨W.w.heap.size,0,none⟩) (c:=cap) (fr:=(0,0)) (T:=t0) (heap_alloc_new W.w.drew _) rfl J No No xN;rw[ABA,IL]at uX;refine h.Cd hv (us1++us2) hd (t0:=t1) (λb hb=>hold b ?_) (λb hb _=>hold b ADe) No ⟨rfl,rfl,rfl⟩ uX ?_ ?_
  ·rcases hb with hb|⟨k,_,hb⟩
   ·exact(h.sep.fz b hb).1
   ·exact(h.sep.own k b hb).2.1
  ·refine AAc.2 ⟨λuO=>?_,AAY.2 ⟨ya,hnd2,λx hx y hy e=>?_⟩⟩
   ·have:=uR _ (xd _ ((ABG.1 uO).imp (vS _) id));exact absurd this (Nat.lt_irrefl _)
   grind
  ·intro b hb;rcases AAf.1 hb with rfl|hb
   ·exact .inr ⟨AAb _,by show _<(W.w.drew.alloc _).heap.size;rw[BQ];simp⟩
   grind
 cases A1 with
 |none=>
  obtain⟨rfl,rfl⟩:=hA1 rfl;have yF:xs=[]:=AAO J;subst yF;cases ys with
  |nil=>
   refine⟨_,_,D0 t ty t0 i vT hi 0 A2 c2 news hnf,?_⟩;exact h.Cd hv (us1++us2) hd (t0:=t1) (λ_ _=>rfl) (λ_ _ _=>rfl) (AAb _) ⟨rfl,rfl,rfl⟩ Bl AAS (λb hb=>by cases hb)
  |cons y ys=>
   cases A2 with
   |none=>grind
   |some ad2=>
    refine⟨_,_,run_append_nil W.w t ty t0 i z vT hi hz ad2 (y::ys).length c2 news (by rw[wa,uh]) (wx ad2 rfl) OF (by simp at vN ⊢;omega) (AA2 (Nat.mul_le_mul (show _<=68719476736 by simp at vN ⊢;omega) zc) ADP),?_⟩;have vW:=grownCap_ge W.w (y::ys).length 0 t0
    have:=fresh (λ_=>[]) (news.toArray++Builtin.zeroCells z.cells (grownCap W.w (y::ys).length 0 t0-(y::ys).length)) (grownCap W.w (y::ys).length 0 t0) (by simpa using vW)
     (by
      have:(y::ys).length*e.n+(grownCap W.w (y::ys).length 0 t0-(y::ys).length)*e.n=grownCap W.w (y::ys).length 0 t0*e.n:=by rw[<-AAp];congr 1;omega
      simp only[ABO,ABN,wa,Builtin.zeroCells,Array.size_map,Array.size_range,yG,List.length_map,BT];omega) (λi hi=>by simp at hi)
     (by
      intro k hk;rw[<-hng k hk];simp only[List.length_nil,Nat.zero_mul,AAa];rw[AAt (by simpa[wa]using hk)];simp) OF OF
    grind
 |some ad1=>
  obtain⟨arr,T,fr,os1,hs,hh,vD,v8,xJ,zB,_⟩:=w8 ad1 rfl (.inr ADP);have zn:o1=ad1.block::(List.range xs.length).flatMap os1:=zB ADP;have uc:=v8 ADP;clear zB v8 w8;obtain⟨b1,vB,sp1⟩:=ad1;dsimp only at hs hh vD xJ zn;subst hs;have ya:(b1::(List.range xs.length).flatMap os1).Nodup:=zn▸hn1;by_cases vp:xs.length+ys.length<=c1
  ·
   have hmul:(xs.length+ys.length)*e.n<=c1*e.n:=AAo _ vp;rw[AAp]at hmul;obtain⟨w',wc,uf⟩:=Ec (P:=P) (o:=vB+xs.length*e.n) news hh uc (by rw[wa];omega) hn1';have wZ:(⟨b1,vB,none⟩:Addr).add (xs.length*i.size)=⟨b1,vB+xs.length*e.n,none⟩:=by rw[uh];exact CU _ _ _
   refine⟨_,_,EK t ty t0 i vT hi ⟨b1,vB,none⟩ xs.length c1 A2 ys.length c2 news hnf vp (by rw[wZ];exact wc),?_⟩;have wH:b1∈o1:=by rw[zn];simp
   have ud:=Ce news (vB+xs.length*e.n) arr (by rw[wa];omega)
   have xN:C7 e 2 w' W.fz (λk=>(B7 news (vB+xs.length*e.n) arr)[vB+k]?) (xs++ys) λi=>if i<xs.length then os1 i else os2 (i-xs.length):=by
    refine C7.append ?_ ?_
    ·refine C7.congr (g:=λk=>arr[vB+k]?) ?_ λk hk=>?_
     ·refine xJ.frame (λb hb=>uf.CY b ?_) λ_ hb=>hb
      rintro rfl
      rcases hb with⟨i,hi,hb⟩|hb
      ·exact(AAc.1 ya).1 (AAL.2 ⟨i,AAX.2 hi,hb⟩)
      ·obtain⟨r,j,_,h1⟩:=wu b wH;exact(h.sep.own _ b h1).1 hb
     ·rw[ud,AAQ J]
    ·refine C7.congr (g:=g2) ?_ λk hk=>?_
     ·refine xA.frame (λb hb=>uf.CY b ?_) λ_ hb=>hb
      rintro rfl
      rcases hb with⟨i,hi,hb⟩|hb
      ·exact xM b wH i hi hb
      ·obtain⟨r,j,_,h1⟩:=wu b wH;exact(h.sep.own _ b h1).1 hb
     ·rw[<-hng k hk,ud,AAP (by rw[wa];omega)];congr 1;omega
   have uX:=Fh (w:=w') (ad:=⟨b1,vB,none⟩) (c:=c1) uf.here rfl (by rw[Aq];exact uc) (by rw[Aq];exact vD) (by simpa using vp) xN;rw[ABA,IL]at uX;refine h.Cd hv (us1++us2) hd (t0:=t1) (λb hb=>uf.CY b ?_) (λb hb xz=>uf.CY b ?_) (by rw[uf.size];exact AAb _) uf.rest uX ?_ ?_
   ·rintro rfl
    obtain⟨r,j,hm,h1⟩:=wu b wH;rcases hb with hb|⟨k,hk,hb⟩
    ·exact(h.sep.own _ b h1).1 hb
    ·by_cases hkk:k=.lf r j
     ·subst hkk;exact hk.2 (AAU _ hm)
     ·exact h.sep.A7 k _ hkk b hb h1
   ·rintro rfl
    obtain⟨r,j,hm,h1⟩:=wu b wH;rcases(h.sep.own _ b h1).2.2 with h2|h2
    ·omega
    ·exact xz h2
   ·refine AAc.2 ⟨λuO=>?_,AAY.2 ⟨(AAc.1 ya).2,hnd2,λx hx y hy e=>?_⟩⟩
    ·rcases ABG.1 uO with uO|uO
     ·exact(AAc.1 ya).1 uO
     ·obtain⟨i,hi,hb⟩:=hfl2 _ uO;exact xM _ wH i hi hb
    ·subst e;obtain⟨i,hi,hb⟩:=hfl2 x hy;exact xM x (by rw[zn];exact AAM _ hx) i hi hb
   grind
  ·
   cases A2 with
   |none=>grind
   |some ad2=>
    have xu:=xJ.cell;have hg1:=CL xu
    have holds:∀j u,(Bo (λk=>arr[vB+k]?) (xs.length*e.n))[j]?=some u->W.w.cell? ((⟨b1,vB,none⟩:Addr).add j)=some u:=by
     intro j u hj;have uR:j<xs.length*e.n:=by have:=(AAK.1 hj).1;rwa[Ab]at this
     rw[hg1 j uR]at hj;rw[CU];simp only[World.cell?,hh];simpa using hj
    refine⟨_,_,run_append_grow W.w t ty t0 i z vT hi hz ⟨b1,vB,none⟩ xs.length c1 (Bo (λk=>arr[vB+k]?) (xs.length*e.n)) (by rw[Ab,uh]) holds ad2 ys.length c2 news (by rw[wa,uh]) (wx ad2 rfl) J J
     (growslice_fits J (AA2 (Nat.mul_le_mul vN zc) ADP)),?_⟩
    have vW:=grownCap_ge W.w (xs.length+ys.length) c1 t0;refine fresh os1 _ _ vW ?_ ?_ ?_ (λb hb=>by grind) (AAc.1 ya).2
    ·have:xs.length*e.n+ys.length*e.n+(grownCap W.w (xs.length+ys.length) c1 t0-(xs.length+ys.length))*e.n=grownCap W.w (xs.length+ys.length) c1 t0*e.n:=by rw[<-AAp,<-AAp];congr 1;omega
     simp only[ABO,ABN,wa,Ab,Builtin.zeroCells,Array.size_map,Array.size_range,yG,List.length_map,BT];omega
    ·refine C7.congr xJ λk hk=>?_;grind
    ·intro k hk;rw[<-hng k hk];rw[AAt (by simp[Ab,wa];omega),Array.getElem?_append_right (by simp[Ab])];simp[Ab]
end
end Go.Ev
namespace Go.Ev
theorem Ha:∀(vs:ADM)(off n:Nat)(arr:Array Value),(vs.zipIdx n).foldl (λcs (p:Value×Nat)=>cs.setIfInBounds (off+p.2) p.1) arr=B7 vs (off+n) arr
 | [],_,_,_=>rfl
 |v::vs,off,n,arr=>by rw[List.zipIdx_cons,List.foldl_cons,Ha vs off (n+1)];rfl
theorem IS{place:Nat->Option (Nat×Nat)}{cells:Array Value}{i:Nat}{v:Value}{rest:List (Nat×Value)}{off size:Nat}(hp:place i=some (off,size))(hs:v.cells.size=size)(hl:off+size<=cells.size):
  Instr.fill place cells ((i,v)::rest)=Instr.fill place (B7 v.cells.toList off cells) rest:=by
 have h1:(v.cells.zipIdx.foldl (λcs (x:Value×Nat)=>match x with|(c,j)=>cs.setIfInBounds (off+j) c) cells)=B7 v.cells.toList off cells:=by rw[<-Array.foldl_toList,Array.toList_zipIdx];exact Ha _ off 0 cells
 simp only[Instr.fill,hp];rw[AAQ (by simp[hs];omega)];rw[<-h1]
theorem Fg{α β:Type}{f:α->Option β}:∀ {l:List α} {r:List β},l.mapM f=some r->∀(i:Nat)(x:α),l[i]?=some x->∃y,f x=some y/\r[i]?=some y
 | [],r,h,i,x,hx=>by simp at hx
 |a::l,r,h,i,x,hx=>by
  simp only[List.mapM_cons,Option.bind_eq_bind,Option.pure_def]at h;cases ha:f a with
  |none=>simp[ha]at h
  |some b=>
   cases hr:l.mapM f with
   |none=>simp[ha,hr]at h
   |some r'=>
    simp[ha,hr]at h;subst h;cases i with
    |zero=>simp at hx;subst hx;exact⟨b,ha,rfl⟩
    |succ i=>obtain⟨y,h1,h2⟩:=Fg hr i x (by simpa using hx);exact⟨y,h1,ADj⟩
theorem IB:∀(as:List LA)(ls:List LA)(j:Nat),(EP ls j as).length=ls.length
 | [],_,_=>rfl
 |b::as,ls,j=>by rw[EP,IB as,CG]
theorem IA:∀(as:List LA)(ls:List LA)(o:Nat),o+as.length<=ls.length->∀k,(EP ls o as)[k]?=if o<=k/\k<o+as.length then as[k-o]? else ls[k]?
 | [],ls,o,h,k=>by rw[EP,AAQ OF]
 |v::r,ls,o,h,k=>by
  simp only[ABD]at h;rw[EP,IA r _ (o+1) (by rw[CG];omega) k,CH,List.getElem?_set];by_cases h1:k=o
  ·subst h1;rw[AAQ J,AAP rfl,AAP J,AAP OF];simp
  ·by_cases h2:o+1<=k/\k<o+1+r.length
   ·rw[AAP h2,AAP ADJ];obtain⟨j,rfl⟩:∃j,k=o+1+j:=⟨k-(o+1),J⟩;rw[show o+1+j-(o+1)=j by omega,show o+1+j-o=j+1 by omega];rfl
   ·rw[AAQ h2,AAQ (λe=>h1 e.symm),AAQ ADJ]
section
variable {P:Program}{E:Ck}{s:St}{W:Wd}{o:Oper}{a:Act}{ws:List Wr}{cx:Cx}{v:Nat}
theorem NM(h:AW E s a.tmps W){b:LA}{u:Value}(hu:AR s W b u)(hs:s.sure b=true):u.oneCell'=true:=by
 cases b with
 |sc l x=>exact L.FC l hu
 |CA=>rw[show u=_ from hu];rfl
 |I8=>rw[show u=_ from hu];rfl
 |Ds e x off=>obtain⟨ad,_,_,_,_,hv,_⟩:=hu;rw[hv];rfl
 |fn f=>rw[show u=_ from hu];rfl
 |ptr r j AB=>
  simp only[St.sure,AAJ,AAT]at hs;rw[hu hs.1 hs.2];rfl
 |ref c=>
  simp only[St.sure]at hs;split at hs
  ·rename_i AB gen t e xs d uM;simp only[AAJ,AAd,AAT]at hs;obtain⟨uT,hp⟩:=hs;subst uT;have hp:c.p=[]\/gen=c.gen:=hp.imp (λh=>by cases hq:c.p<;>simp_all[isNil]) id;obtain⟨h',e',uv,hn⟩:=hu gen _ _ _ _ uM hp;obtain⟨u',uY,uW⟩:=(h.roots c.r).row uM;rw[uv]at uY;injection uY with uY;subst uY
   obtain⟨d',ys,o',hr,_⟩:=MI c.p uW hn;exact L.FC (.sl 0 e') hr
  ·cases hs
 |Dy c lo hi=>
  simp only[St.sure]at hs;split at hs
  ·rename_i AB gen t e xs d uM;simp only[AAJ,AAd,AAT]at hs;obtain⟨uT,hp⟩:=hs;subst uT;have hp:c.p=[]\/gen=c.gen:=hp.imp (λh=>by cases hq:c.p<;>simp_all[isNil]) id;obtain⟨h',e',A,n,k,uv,hn,_,_,hv⟩:=hu gen _ _ _ _ uM hp;rw[hv];rfl
  ·cases hs
 |Ba c=>obtain⟨ad,hv⟩:=Gv hu hs;rw[hv];rfl
 |_=>cases hs
theorem Kd(h:AW E s a.tmps W){g:Bool}{as:List LA}{u:Value}(hu:Ey s W g as u)(hs:(g||as.all s.sure)=true):u.cells.size=as.length/\∀(j:Nat)(b:LA),as[j]?=some b->∃y,u.cells[j]?=some y/\AR s W b y:=by
 refine Il hu λhg=>?_;subst hg;cases as with
 |nil=>exact hu.elim
 |cons b bs=>cases bs with
  |cons=>exact hu.elim
  |nil=>exact cells_one (NM h hu (by simpa using hs))
def II(s:St)(W:Wd)(ls:List LA)(cells:Array Value):Prop:=cells.size=ls.length/\∀(j:Nat)(b:LA),ls[j]?=some b->∃u,cells[j]?=some u/\AR s W b u
theorem II.DL{ls as:List LA}{cells:Array Value}{u:Value}{off:Nat}(hb:II s W ls cells)(hl:off+as.length<=ls.length)(hu:u.cells.size=as.length/\∀(j:Nat)(b:LA),as[j]?=some b->∃y,u.cells[j]?=some y/\AR s W b y):
  II s W (EP ls off as) (B7 u.cells.toList off cells):=by
 refine⟨by rw[Aq,IB,hb.1],λj b hj=>?_⟩;rw[IA _ _ _ hl]at hj;rw[Ce _ _ _ (by rw[hb.1];simp[hu.1];omega)];by_cases hc:off<=j/\j<off+as.length
 ·rw[AAP hc]at hj;rw[AAP (by simp[hu.1];omega)];obtain⟨y,hy,vH⟩:=hu.2 _ b hj;exact⟨y,ADf,vH⟩
 ·rw[AAQ hc]at hj;rw[AAQ (by simp[hu.1];omega)];exact hb.2 j b hj
theorem Je(hc:Db P cx)(h:AW E s a.tmps W){fs:List (Nat×TypeId)}{place:Nat->Option (Nat×Nat)}(wg:∀(i off:Nat)(t:TypeId),fs[i]?=some (off,t)->∃inf,P.info? t=some inf/\place i=some (off,inf.size)):
  ∀(parts:List (Nat×Operand)) {ls ye:List LA} {cells:Array Value},II s W ls cells->HU cx s fs parts ls=some ye->∃xK,Instr.fill place cells (parts.map λp=>(p.1,a.eval p.2))=some xK/\II s W ye xK
 | [],ls,ye,cells,hb,hl=>by
  injection hl with hl;subst hl
  exact⟨cells,rfl,hb⟩
 |(i,x)::ps,ls,ye,cells,hb,hl=>by
  simp only[HU]at hl;have h1:=A6 h x;generalize s.Ar x=p at hl h1;split at hl
  ·rename_i g as off t wP;split at hl
   ·rename_i tf htf;split at hl
    ·rename_i uU;rw[Fi]at wP;obtain⟨inf,zi,hp⟩:=wg i off t wP;obtain⟨inf',yL,uh,_⟩:=(hc t tf htf).info;rw[zi]at yL;injection yL with yL;subst yL
     rw[AAJ,AAJ,AAT,AAe]at uU;obtain⟨⟨hlen,xT⟩,hsure⟩:=uU;have hu:=Kd h h1 hsure;have uZ:=hb.DL (off:=off) J hu;obtain⟨xK,hf,hb''⟩:=Je hc h wg ps uZ hl;refine⟨xK,?_,hb''⟩;rw[ABE,IS hp (by rw[hu.1,hlen,uh]) (by rw[hb.1,uh];exact xT)];exact hf
    ·cases hl
   ·cases hl
  ·cases hl
theorem Li(l:L):AR s W (zeroOf l) (Bu l):=by
 cases l with
 |int k=>exact⟨rfl,rfl⟩
 |bool=>exact⟨rfl,rfl⟩
 |str=>exact⟨rfl,rfl⟩
 |sl t e=>exact rfl
theorem MP(hc:Db P cx)(h:AW E s a.tmps W){t:TypeId}{parts:Array (Nat×Operand)}(ho:o.op=.build t parts)(hl:(AA cx v o s).leads ws):BS P E o a W.w (s.app ws):=by
 simp only[AA,ho]at hl;split at hl
 ·rename_i ty ht;split at hl
  ·rename_i ls vx;rw[AK hl];split at vx
   ·rename_i wR;obtain⟨fs,wP,zg,pl,wg⟩:=(hc t ty ht).agg wR;obtain⟨i,hi,uh,z,hz,yG,_⟩:=(hc t ty ht).info
    have hplace:∀(i off:Nat)(t':TypeId),ty.fs[i]?=some (off,t')->∃inf,P.info? t'=some inf/\pl.toArray[i]?=some (off,inf.size):=by
     intro i off t' hq;rw[<-zg,AAZ]at hq;cases hf:fs.toList[i]? with
     |none=>rw[hf]at hq;cases hq
     |some f=>
      rw[hf]at hq;simp only[AA0,Option.some.injEq,Prod.mk.injEq]at hq;obtain⟨rfl,rfl⟩:=hq;obtain⟨y,h1,h2⟩:=Fg wg i f hf;cases zi:P.info? f.type with
      |none=>rw[zi]at h1;cases h1
      |some inf=>rw[zi]at h1;injection h1 with h1;subst h1;exact⟨inf,rfl,ADj⟩
    have hz0:II s W (ty.ls.kinds.map zeroOf) z.cells:=by
     refine⟨by rw[yG];simp,λj b hj=>?_⟩;rw[AAZ]at hj;cases hk:ty.ls.kinds[j]? with
     |none=>rw[hk]at hj;cases hj
     |some l=>rw[hk]at hj;injection hj with hj;subst hj;exact⟨Bu l,by rw[yG];simp[hk],Li l⟩
    obtain⟨cells,hf,hb⟩:=Je hc h hplace parts.toList hz0 vx;refine AP h (u:=.agg cells) ?_ ⟨cells,rfl,hb.1,hb.2⟩
    have hbuilt:P.built t (parts.map λ(i,x)=>(i,a.eval x)).toList=some cells:=by unfold Program.built;rw[hi,wP];simp only[hz,wg];rw[ABP];exact hf
    unfold execOp;simp only[ho,Sem.run_bind,run_build W.w t _ cells hbuilt,Result.andThen_ok];rfl
   ·cases vx
  ·exact hl.elim
 ·exact hl.elim
end
end Go.Ev
namespace Go.Ev
theorem DU:∀(ls:Ls) {d:Nat} {w:World} {fz:Nat->Prop} {g:Nat->Option Value} {x:ls.D} {os:Nat->Is},
  (∀(j:Nat)(lv:Lv),(unpack ls x)[j]?=some lv->∃u,g j=some u/\lv.l.rd d w fz u lv.x (os j))->ls.rd d w fz g x ((List.range ls.n).flatMap os)
 | .nil,_,_,_,_,_,_,_=>by simp only[Ls.rd,Ls.n];rfl
 | .one l,_,w,fz,g,x,os,h=>by simp only[Ls.rd,Ls.n];obtain⟨u,hu,hr⟩:=h 0 ⟨l,x⟩ rfl;grind
 | .cons l ls,_,w,fz,g,x,os,h=>by simp only[Ls.rd,Ls.n];obtain⟨u,hu,hr⟩:=h 0 ⟨l,x.1⟩ rfl;have ih:=DU ls (g:=λj=>g (j+1)) (os:=λj=>os (j+1)) λj lv hj=>h (j+1) lv (by simpa[unpack]using hj);refine⟨u,os 0,_,hu,hr,ih,?_⟩;rw[Nat.add_comm,List.range_add,List.flatMap_append,List.flatMap_map];grind
def E2(b:LA):Option Lv:=match b with
 | .arr _ _ t e xs 2=>some ⟨.sl t e,xs⟩
 | .sc l x=>if Bg l then none else some ⟨l,x⟩
 |_=>none
section
variable {P:Program}{E:Ck}{s:St}{W:Wd}{o:Oper}{a:Act}{ws:List Wr}{cx:Cx}{v:Nat}
theorem IN{b:LA}{u:Value}{oo:Is}{us:List (Nat×Nat)}(ht:Ip s W v b u oo us){lv:Lv}(hb:E2 b=some lv):lv.l.rd 2 W.w W.fz u lv.x oo:=by
 unfold E2 at hb;split at hb
 ·injection hb with hb;subst hb
  exact ht.2.2.2.2.2
 ·split at hb
  ·cases hb
  ·rename_i l x hs;injection hb with hb;subst hb
   obtain⟨h1,h2,_⟩:=ht.2.2.2;subst h1;exact(L.AY l No h2).1
 ·cases hb
def A8(g:Bool)(u:Value):Nat->Option Value:=λj=>match g with
 |true=>u.cells[j]?
 |false=>if j=0 then some u else none
theorem Cb{g:Bool}{as:List LA}{u:Value}(hu:Ey s W g as u)(j:Nat)(b:LA)(hj:as[j]?=some b):∃y,A8 g u j=some y/\AR s W b y:=by
 cases g with
 |true=>obtain⟨cs,w7,_,ud⟩:=hu;obtain⟨y,hy,vH⟩:=ud j b hj;exact⟨y,by simp only[A8,w7];exact hy,vH⟩
 |false=>
  cases as with
  |nil=>exact hu.elim
  |cons b' bs=>cases bs with
   |cons=>exact hu.elim
   |nil=>cases j with
    |zero=>simp at hj;subst hj;exact⟨u,by simp[A8],hu⟩
    |succ j=>simp at hj
theorem Ca{g:Bool}{as:List LA}{u:Value}(hu:Ey s W g as u)(h1:∀(j:Nat)(b:LA),as[j]?=some b->∃y,A8 g u j=some y/\y.oneCell'=true):u.cells.size=as.length/\∀j,j<as.length->u.cells[j]?=A8 g u j:=by
 cases g with
 |true=>obtain⟨cs,w7,uh,_⟩:=hu;subst w7;exact⟨uh,λj _=>rfl⟩
 |false=>
  cases as with
  |nil=>exact hu.elim
  |cons b' bs=>cases bs with
   |cons=>exact hu.elim
   |nil=>
    obtain⟨y,hy,vQ⟩:=h1 0 b' rfl;simp[A8]at hy;subst hy;rw[cells_one vQ];refine⟨rfl,λj hj=>?_⟩;have:j=0:=ADW
    subst this;simp[A8]
structure Mo(P:Program)(s:St)(W:Wd)(a:Act)(e:Ls)(ps:List (Nat×Operand))(n:Nat)(ys:List e.D)(us:List (Nat×Nat))(os:Nat->Is):Prop where
 len:ys.length=ps.length
 nodup:us.Nodup
 Ow:∀i j,i≠j->∀b∈os i,b∉os j
 O3:∀i,(os i).Nodup
 O7:∀i,ys.length<=i->os i=[]
 OH:∀i,∀b∈os i,∃r j,(r,j)∈us/\b∈W.om (.lf r j)
 el:∀m (hm:m<ys.length),∃x,ps[m]?=some (n+m,x)/\(a.eval x).cells.size=e.n/\e.rd 2 W.w W.fz (λj=>(a.eval x).cells[j]?) ys[m] (os m)
theorem Dw{os:Nat->Is}(hn:∀i,(os i).Nodup)(hd:∀i j,i≠j->∀b∈os i,b∉os j):∀n,((List.range n).flatMap os).Nodup
 |0=>OF
 |n+1=>by rw[List.range_succ,List.flatMap_append];refine AAY.2 ⟨Dw hn hd n,by simpa using hn n,λx hx y hy e=>?_⟩;grind
theorem HN(h:AW E s a.tmps W)(hv:Aj s v){e:Ls}{β:Type}{z:β}:∀(ps:List (Nat×Operand)) (n:Nat) {k:List e.D->List (Nat×Nat)->Step β},(CR cx s v e ps n k).leads z->
  ∃ys us os,(k ys us).leads z/\Mo P s W a e ps n ys us os
 | [],n,k,hl=>⟨[],[],λ_=>[],hl,rfl,AAS,(λ_ _ _ b hb=>by cases hb),λ_=>AAS,λ_ _=>rfl,(λ_ b hb=>by cases hb),λm hm=>by simp at hm⟩
 |(i,x)::ps,n,k,hl=>by
  simp only[CR]at hl;split at hl
  ·rename_i hi;have hi:i=n:=ADR
   subst hi;have h1:=A6 h x;have wQ:=Fj hv x;generalize s.Ar x=p at hl h1 wQ;split at hl
   ·rename_i g as;split at hl
    ·rename_i xF;obtain⟨vs,hl,vX,yk,w4⟩:=FR h (g:=A8 g (a.eval x)) (λj b hj=>Cb h1 j b hj) hl;split at hl
     ·rename_i y hy;obtain⟨ys,us,os,hl,ug⟩:=HN h hv ps (i+1) hl;have xI:=Ay e vs y hy;have hen:as.length=e.n:=by rw[<-vX,<-xI,CT]
      have uq:=Ca h1 λj b hj=>by
       have uR:j<vs.length:=by rw[vX];exact(AAK.1 hj).1
       obtain⟨u,hu,hr⟩:=w4 j vs[j] (AAI uR);exact⟨u,hu,L.FC _ hr⟩
      have uW:e.rd 0 W.w (Seen W (as.flatMap LA.roots)) (A8 g (a.eval x)) y []:=Cl e λj lv hj=>No
      have hrd2:=(Ls.AY e xF uW (d':=2) (w':=W.w) (uQ:=W.fz)).1;refine⟨y::ys,us,λm=>match m with|0=>[]|m+1=>os m,hl,by simp[ug.len],ug.nodup,?_,?_,?_,?_,?_⟩
      ·intro i j zN b hb;cases i with
       |zero=>cases hb
       |succ i=>cases j with
        |zero=>simp
        |succ j=>exact ug.Ow i j (λe=>zN (by rw[e])) b hb
      ·intro i;cases i with
       |zero=>grind
       |succ i=>exact ug.O3 i
      ·intro i hi;cases i with
       |zero=>simp at hi
       |succ i=>exact ug.O7 i No
      ·intro i b hb;cases i with
       |zero=>cases hb
       |succ i=>exact ug.OH i b hb
      ·intro m hm;cases m with
       |zero=>exact⟨x,rfl,J,Ls.BP e hrd2 λj hj=>uq.2 j J⟩
       |succ m=>
        obtain⟨x',h1,h2,h3⟩:=ug.el m ADV;grind
     ·exact hl.elim
    ·obtain⟨bs,vs,os0,hl,wI,yI,hvnd,_,hdis0,hbig0,wT⟩:=EO (v:=v) h (g:=A8 g (a.eval x)) (λj b hj=>⟨λuO=>wQ (AAL.2 ⟨b,AAN hj,uO⟩),Cb h1 j b hj⟩) hl;split at hl
     ·rename_i lvs xQ;have xQ:bs.mapM E2=some lvs:=xQ;split at hl
      ·rename_i y hy;obtain⟨ys,us,os,hl,ug⟩:=HN h hv ps (i+1) hl;split at hl
       ·rename_i vY
        have xt:∀x∈vs,x∉us:=by intro x hx hx';have:=AAW.1 vY x hx;simp at this;exact this hx'
        have xI:=Ay e lvs y hy
        have hlen:lvs.length=bs.length:=by
         have:∀ {l:List LA} {r:List Lv},l.mapM E2=some r->r.length=l.length:=by
          intro l
          induction l with
          |nil=>grind
          |cons b l ih=>
           intro r hr;simp only[List.mapM_cons,Option.bind_eq_bind,Option.pure_def]at hr;cases hb:E2 b with
           |none=>grind
           |some c=>
            cases vI:l.mapM E2 with
            |none=>grind
            |some r'=>grind
         exact this xQ
        have hen:as.length=e.n:=by rw[<-wI,<-hlen,<-xI,CT]
        have uq:=Ca h1 λj b hj=>by
         have uR:j<bs.length:=by rw[wI];exact(AAK.1 hj).1
         obtain⟨u,hu,hr⟩:=wT j bs[j] (AAI uR);exact⟨u,hu,hr.1⟩
        have uW:e.rd 2 W.w W.fz (A8 g (a.eval x)) y ((List.range e.n).flatMap os0):=DU e λj lv hj=>by
         rw[xI]at hj;have uR:j<bs.length:=by rw[<-hlen];exact(AAK.1 hj).1
         obtain⟨y',xB,xX⟩:=Fg xQ j bs[j] (AAI uR);rw[hj]at xX;injection xX with xX;subst xX
         obtain⟨u,hu,ht⟩:=wT j bs[j] (AAI uR);exact⟨u,hu,IN ht xB⟩
        have hnod0:∀j,(os0 j).Nodup:=by
         intro j;by_cases hj:j<bs.length
         ·obtain⟨u,_,ht⟩:=wT j bs[j] (AAI hj);exact ht.2.1
         ·grind
        have hfrom0:∀b∈(List.range e.n).flatMap os0,∃r j,(r,j)∈vs/\b∈W.om (.lf r j):=by
         intro b hb;obtain⟨j,hj,hb⟩:=AAL.1 hb;have hj:j<bs.length:=by rw[wI,hen];exact AAX.1 hj
         obtain⟨u,_,ht⟩:=wT j bs[j] (AAI hj);exact ht.2.2.1 b hb
        have xM:∀i,∀b∈(List.range e.n).flatMap os0,b∉os i:=by
         intro i b hb uZ;obtain⟨r,j,hm,h1⟩:=hfrom0 b hb;obtain⟨r',j',vy,vu⟩:=ug.OH i b uZ;by_cases he:(r,j)=(r',j')
         ·grind
         ·exact h.sep.A7 (.lf r j) (.lf r' j') (λe=>he No) b h1 vu
        refine⟨y::ys,vs++us,λm=>match m with|0=>(List.range e.n).flatMap os0|m+1=>os m,hl,by simp[ug.len],?_,?_,?_,?_,?_,?_⟩
        ·exact AAY.2 ⟨hvnd,ug.nodup,λx hx y hy e=>xt x hx (e▸hy)⟩
        ·intro i j zN b hb;cases i with
         |zero=>grind
         |succ i=>cases j with
          |zero=>grind
          |succ j=>exact ug.Ow i j (λe=>zN (by rw[e])) b hb
        ·intro i;cases i with
         |zero=>exact Dw hnod0 hdis0 e.n
         |succ i=>exact ug.O3 i
        ·intro i hi;cases i with
         |zero=>simp at hi
         |succ i=>exact ug.O7 i No
        ·intro i b hb;cases i with
         |zero=>grind
         |succ i=>obtain⟨r,j,hm,h1⟩:=ug.OH i b hb;grind
        ·intro m hm;cases m with
         |zero=>exact⟨x,rfl,J,Ls.BP e uW λj hj=>uq.2 j J⟩
         |succ m=>
          obtain⟨x',h1,h2,h3⟩:=ug.el m ADV;grind
       ·exact hl.elim
      ·exact hl.elim
     ·exact hl.elim
   ·exact hl.elim
  ·exact hl.elim
theorem HV{e:Ls}(f:Operand->Value):∀(ps:List (Nat×Operand)) (n:Nat) (arr:Array Value),(∀m x i,ps[m]?=some (i,x)->i=n+m/\(f x).cells.size=e.n)->(n+ps.length)*e.n<=arr.size->
  ∃vn,Instr.fill (λi=>some (i*e.n,e.n)) arr (ps.map λp=>(p.1,f p.2))=some vn/\vn.size=arr.size/\(∀k,k<n*e.n->vn[k]?=arr[k]?)/\∀m i x,ps[m]?=some (i,x)->∀j,j<e.n->vn[(n+m)*e.n+j]?=(f x).cells[j]?
 | [],n,arr,h,hs=>⟨arr,rfl,rfl,λ_ _=>rfl,λm i x hm=>by simp at hm⟩
 |(i,x)::ps,n,arr,h,hs=>by
  obtain⟨hi,uh⟩:=h 0 x i rfl;simp only[AAx]at hi;subst hi;have zR:(i+(ps.length+1))*e.n<=arr.size:=by simpa using hs
  have vD:i*e.n+e.n<=arr.size:=by have h2:(i+1)*e.n<=(i+(ps.length+1))*e.n:=AAo _ J;rw[AAp,ABM]at h2;omega
  have ud:=Ce (f x).cells.toList (i*e.n) arr No
  obtain⟨vn,hf,vR,hlow,uk⟩:=HV f ps (i+1) (B7 (f x).cells.toList (i*e.n) arr) (λm y j hm=>by
   obtain⟨h1,h2⟩:=h (m+1) y j No;exact⟨J,h2⟩) (by rw[Aq,show i+1+ps.length=i+(ps.length+1) by omega];exact zR)
  refine⟨vn,?_,by rw[vR,Aq],?_,?_⟩
  ·rw[ABE,IS (off:=i*e.n) (size:=e.n) rfl uh vD];exact hf
  ·grind
  ·intro m j y hm q hq;cases m with
   |zero=>
    grind
   |succ m=>
    grind
theorem H2{P:Program}{w:World}{t t0:TypeId}{i:TypeInfo}{z:Value}{len:Nat}{parts:Array (Nat×Value)}{arr:Array Value}(ht:P.underlying t=some (.slice t0))(hi:P.info? t0=some i)(hz:i.zero=some z)
  (hlen:len*i.size<=16777216) (hf:Instr.fill (λj=>some (j*i.size,i.size)) (madeCells z.cells (len*i.size)) parts.toList=some arr):
  (Instr.buildSlice t len parts).run P w=.ok (.slice (some ⟨w.heap.size,0,none⟩) len len) (w.alloc (.cells arr t0)):=by
 have n1:¬(16777216<len*i.size):=J
 by_cases hn:len*i.size=0
 ·rw[hn]at hf;have h0:madeCells z.cells 0 = #[]:=by simp[madeCells]
  rw[h0]at hf;simp[Instr.buildSlice,run_underlying ht,sizeOf,typeInfo,hi,n1,hn,hf,newRow,Array.range_zero']
 ·unfold madeCells at hf;simp[Instr.buildSlice,run_underlying ht,sizeOf,typeInfo,zeroValue,hi,hz,n1,hn,hf,newRow]
end
end Go.Ev
namespace Go.Ev
theorem JH{s:St}{r:Nat}(h:(s.root r).box=true):r<s.ro.length:=by
 rcases AAq r s.ro.length with uR|vW
 ·exact uR
 ·have:s.root r=dead:=Au _ vW;rw[this]at h;cases h
theorem I5{s:St}{r j AB gen:Nat}{t:TypeId}{e:Ls}{xs:List e.D}{d:Nat}(h:s.leaf r j=.arr AB gen t e xs d):r<s.ro.length/\j<(s.root r).ls.length:=by
 constructor
 ·rcases AAq r s.ro.length with uR|vW
  ·exact uR
  ·have:s.root r=dead:=Au _ vW;unfold St.leaf at h;rw[this]at h;cases j<;>cases h
 ·rcases AAq j (s.root r).ls.length with uR|vW
  ·exact uR
  ·unfold St.leaf at h;rw[Au _ vW]at h;cases h
theorem Du(r:Nat):∀(bs:List LA)(j:Nat)(s:St),(bs=[]\/r<s.ro.length)->j+bs.length<=(s.root r).ls.length->JS s (s.app (A3 r j bs))/\
  ∀r' j',(s.app (A3 r j bs)).leaf r' j'=if r'=r/\j<=j'/\j'<j+bs.length then nth .bad bs (j'-j)else s.leaf r' j'
 | [],j,s,hr,hj=>⟨⟨rfl,rfl,λ_=>⟨rfl,rfl,rfl⟩⟩,λr' j'=>by rw[AAQ OF];rfl⟩
 |b::bs,j,s,hr,hj=>by
  simp only[ABD]at hj;have hr:r<s.ro.length:=hr.resolve_left OF;have h1:=BY s r j b;obtain⟨h2,h3⟩:=Du r bs (j+1) (s.AG (.leaf r j b)) (by rw[h1.len];exact .inr hr) (by rw[(h1.box r).2.2];omega);refine⟨⟨h2.sl.trans h1.sl,h2.len.trans h1.len,λx=>⟨(h2.box x).1.trans (h1.box x).1,(h2.box x).2.1.trans (h1.box x).2.1,(h2.box x).2.2.trans (h1.box x).2.2⟩⟩,λr' j'=>?_⟩;show((s.AG (.leaf r j b)).app (A3 r (j+1) bs)).leaf r' j'=_;rw[h3,Fc];by_cases yP:r'=r
  ·subst yP;by_cases hjj:j'=j
   ·subst hjj;rw[AAQ J,AAP ⟨rfl,rfl,hr,J⟩,AAP ⟨rfl,J,OF⟩];simp[nth]
   ·by_cases uO:j+1<=j'/\j'<j+1+bs.length
    ·rw[AAP ⟨rfl,uO⟩,AAP ⟨rfl,J,ADJ⟩];obtain⟨k,rfl⟩:∃k,j'=j+1+k:=⟨j'-(j+1),J⟩;rw[show j+1+k-(j+1)=k by omega,show j+1+k-j=k+1 by omega];rfl
    ·rw[AAQ (λhh=>uO hh.2),AAQ (λhh=>hjj hh.2.1.symm),AAQ (λhh=>uO (by simp at hh;omega))]
  grind
section
variable {P:Program}{E:Ck}{s:St}{W:Wd}{o:Oper}{a:Act}{ws:List Wr}{cx:Cx}{v:Nat}{tm:Array Value}
theorem LA.Ee(hv:Aj s v)(r j:Nat):(s.leaf r j).B6=true\/v∉(s.leaf r j).AF:=hv.2.1 r j
theorem AW.J9(h:AW E s tm W)(hv:Aj s v){r j:Nat}(vC:(s.root r).box=true){us:List (Nat×Nat)}{bs:List LA}{os:Nat->Is}{cells:ADM}(hlen:cells.length=bs.length)(vD:j+bs.length<=(s.root r).ls.length)
  (wT:∀(i:Nat)(b:LA),bs[i]?=some b->∃u,cells[i]?=some u/\Ip s W v b u (os i) us) (vU:∀i j,i≠j->∀b∈os i,b∉os j) (wi:∀i,bs.length<=i->os i=[])
  {arr:Array Value} {T:TypeId} {fr:Nat×Nat} (za:W.w.heap[W.bk r]?=some (.cells arr T fr)) {w':World} (uf:NR W.w w' (W.bk r) (B7 cells j arr) T fr):
  ∃W',W'.w=w'/\AW E (s.app (gone us++A3 r j bs)) tm W':=by
 have hr:r<s.ro.length:=JH vC;obtain⟨_,xD⟩:=h.roots r;rw[AAP vC]at xD;obtain⟨xU,arr0,T0,fr0,hh,uc,uh,uv⟩:=xD;rw[za]at hh;injection hh with hh;injection hh with e1 e2 e3;subst e1;subst e2;subst e3
 have ud:=Ce cells j arr J
 have uj:∀b,(W.fz b\/∃k,k≠.blk r/\b∈W.om k)->b≠W.bk r:=by
  rintro b hb rfl
  have h0:W.bk r∈W.om (.blk r):=by rw[xU];simp
  rcases hb with hb|⟨k,hk,hb⟩
  ·exact(h.sep.own _ _ h0).1 hb
  ·exact h.sep.A7 k _ hk _ hb h0
 have hw:∀b,(W.fz b\/∃k,k≠.blk r/\b∈W.om k)->w'.heap[b]?=W.w.heap[b]?:=λb hb=>uf.CY b (uj b hb);obtain⟨ve,y8⟩:=De s us;rw[A5];generalize w8:s.app (gone us)=s1 at ve y8;obtain⟨u1,uz⟩:=Du r bs j s1 (by rw[ve.len];exact .inr hr) (by rw[(ve.box r).2.2];exact vD);generalize yE:s1.app (A3 r j bs)=s' at u1 uz;have wE:s'.sl=s.sl:=u1.sl.trans ve.sl
 have yp:∀r,(s'.root r).box=(s.root r).box/\(s'.root r).AB=(s.root r).AB/\(s'.root r).ls.length=(s.root r).ls.length:=λr=>
  ⟨(u1.box r).1.trans (ve.box r).1,(u1.box r).2.1.trans (ve.box r).2.1,(u1.box r).2.2.trans (ve.box r).2.2⟩
 have uM:∀r' j',s'.leaf r' j'=if r'=r/\j<=j'/\j'<j+bs.length then nth .bad bs (j'-j)else if(r',j')∈us then .bad else s.leaf r' j':=λr' j'=>No
 have hrol:s'.ro.length=s.ro.length:=u1.len.trans ve.len;clear y8 uz ve w8 yE
 let W':Wd:={
  w:=w'
  fz:=W.fz
  cv:=λr' j'=>if r'=r then(B7 cells j arr)[j']? else W.cv r' j'
  bk:=W.bk
  om:=λk=>match k with
   | .lf r' j'=>if r'=r/\j<=j'/\j'<j+bs.length then os (j'-j)else if(r',j')∈us then []else W.om (.lf r' j')
   |k=>W.om k }
 have vb:∀i,∀b∈os i,∃r' j',(r',j')∈us/\b∈W.om (.lf r' j'):=by
  intro i b hb;by_cases hi:i<bs.length
  ·obtain⟨u,_,ht⟩:=wT i bs[i] (AAI hi);exact ht.2.2.1 b hb
  ·grind
 have xf:∀i,i<bs.length->∃u,cells[i]?=some u/\Ip s W v (nth .bad bs i) u (os i) us:=by intro i hi;have:=wT i bs[i] (AAI hi);rw[Ad,AAI hi];exact this
 have hcv':∀r' j',¬(r'=r/\j<=j'/\j'<j+bs.length)->W'.cv r' j'=W.cv r' j':=by
  intro r' j' hn;by_cases yP:r'=r
  ·grind
  ·grind
 have um:Eg v s s' W W':={
  fz:=λb hb=>hb
  Lj:=λb hb=>hw b (.inl hb)
  leaf:=by
   intro r' j' AB gen t e xs d hl uV;rw[uM]at hl;by_cases uO:r'=r/\j<=j'/\j'<j+bs.length
   ·rw[AAP uO]at hl;obtain⟨u,_,ht⟩:=xf (j'-j) J;rw[hl]at ht;exact absurd ht.2.2.2.1 uV
   ·rw[AAQ uO]at hl;by_cases hm:(r',j')∈us
    ·grind
    ·rw[AAQ hm]at hl;refine⟨hcv' r' j' uO,gen,t,xs,d,hl,λ_=>⟨rfl,λp h' e' u' hc hn=>?_⟩⟩;obtain⟨u0,vm,uW⟩:=(h.roots r').row hl;rw[hc]at vm;injection vm with vm;subst vm
     exact BN p uW hn λb hb=>hw b (hb.elim (λhb=>.inr ⟨.lf r' j',OF,hb⟩) .inl)
  box:=λr' hb uV=>⟨(yp r').1▸hb,(yp r').2.1.symm,rfl⟩ }
 have wV:Sep E W':=by
  refine h.sep.IH (λk=>∃r' j',k=.lf r' j'/\((r',j')∈us\/(r'=r/\j<=j'/\j'<j+bs.length))) rfl (by show _<=w'.heap.size;rw[uf.size];omega) ?_ uf.rest ?_ ?_ ?_ ?_
  ·intro b hb xz;refine uf.CY b ?_
   rintro rfl
   have h0:W.bk r∈W.om (.blk r):=by rw[xU];simp
   rcases(h.sep.own _ _ h0).2.2 with h2|h2
   all_goals grind
  ·grind
  ·rintro k ⟨r',j',rfl,hk⟩
   show(if r'=r/\j<=j'/\j'<j+bs.length then os (j'-j)else if(r',j')∈us then []else W.om (.lf r' j')).Nodup;by_cases uO:r'=r/\j<=j'/\j'<j+bs.length
   ·rw[AAP uO];obtain⟨u,_,ht⟩:=xf (j'-j) J;exact ht.2.1
   grind
  ·rintro k k' ⟨r',j',rfl,hk⟩ ⟨r2,j2,rfl,hk2⟩ uV b hb uZ
   have hb:b∈(if r'=r/\j<=j'/\j'<j+bs.length then os (j'-j)else if(r',j')∈us then []else W.om (.lf r' j')):=hb;have uZ:b∈(if r2=r/\j<=j2/\j2<j+bs.length then os (j2-j)else if(r2,j2)∈us then []else W.om (.lf r2 j2)):=uZ;by_cases uO:r'=r/\j<=j'/\j'<j+bs.length
   ·rw[AAP uO]at hb;by_cases zh:r2=r/\j<=j2/\j2<j+bs.length
    ·rw[AAP zh]at uZ;exact vU (j'-j) (j2-j) (λe=>uV (by rw[uO.1,zh.1,show j'=j2 by omega])) b hb uZ
    ·rw[AAQ zh,AAP (hk2.resolve_right zh)]at uZ;cases uZ
   grind
  ·grind
 refine⟨W',rfl,h.IH hv um wV (by rw[wE,h.DS]) ?_ (λt=>.inl ⟨by show nth _ s'.sl t=_;rw[wE];rfl,rfl⟩) ?_⟩
 ·rw[hrol,h.Bb]
 ·intro r';obtain⟨h1,h2⟩:=h.roots r';refine⟨λj'=>?_,?_⟩
  ·show Aa s' W' (s'.leaf r' j') (W'.cv r' j') (W'.om (.lf r' j'));have hom':W'.om (.lf r' j')=if r'=r/\j<=j'/\j'<j+bs.length then os (j'-j)else if(r',j')∈us then []else W.om (.lf r' j'):=rfl
   rw[uM,hom'];by_cases uO:r'=r/\j<=j'/\j'<j+bs.length
   ·rw[AAP uO,AAP uO];obtain⟨u,hu,ht⟩:=xf (j'-j) J
    have hcvv:W'.cv r' j'=some u:=by show(if r'=r then _ else _)=_;grind
    rw[hcvv];obtain⟨_,_,_,ht⟩:=ht;generalize nth LA.bad bs (j'-j)=b at ht;unfold Aa;cases b with
    |arr AB gen t e xs dd=>
     obtain⟨_,_,hr⟩:=ht;refine⟨u,rfl,hr.frame (λb hb=>hw b ?_) λb hb=>hb⟩;grind
    |_=>exact⟨ht.1,λu' uY=>by injection uY with uY;subst uY;exact AR.Dh um ht.2.2 ht.2.1⟩
   ·rw[AAQ uO,AAQ uO,hcv' r' j' uO];by_cases hm:(r',j')∈us
    ·rw[AAP hm,AAP hm];exact⟨rfl,λ_ _=>trivial⟩
    ·rw[AAQ hm,AAQ hm];exact Aa.Dh um (LA.Ee hv r' j') (λb hb=>hw b (.inr ⟨.lf r' j',OF,hb⟩)) (h1 j')
  ·rw[(yp r').1];split
   ·rename_i hb;rw[AAP hb]at h2;obtain⟨wb,vn,T',fr',yK,a1,a2,a3⟩:=h2;by_cases yP:r'=r
    ·subst yP;rw[za]at yK;injection yK with yK;injection yK with e1 e2 e3;subst e1;subst e2;subst e3
     exact⟨wb,_,_,_,uf.here,by rw[Aq];exact a1,by rw[Aq,(yp r').2.2];exact a2,λj'=>AAP rfl⟩
    ·refine⟨wb,vn,T',fr',(hw (W.bk r') (.inr ⟨.blk r',by simpa using yP,by rw[wb];simp⟩)).trans yK,a1,by rw[(yp r').2.2];exact a2,λj'=>?_⟩;rw[<-a3 j'];exact AAQ yP
   grind
theorem AW.KX(h:AW E s tm W)(hv:Aj s v){r j AB gen:Nat}{t:TypeId}{e:Ls}{xs vJ:List e.D}{d:Nat}(hl:s.leaf r j=.arr AB gen t e xs d){u:Value}(uv:W.cv r j=some u){w':World}
  (uW:AE e d w' W.fz u vJ (W.om (.lf r j))) (hw:∀b,b∉W.om (.lf r j)->w'.heap[b]?=W.w.heap[b]?) (uh:w'.heap.size=W.w.heap.size) (ug:w'.os=W.w.os/\w'.tape=W.w.tape/\w'.output=W.w.output):
  AW E (s.app [.leaf r j (.arr AB v t e vJ d)]) tm { W with w:=w' }:=by
 obtain⟨hr,hj⟩:=I5 hl;show AW E (s.AG (.leaf r j (.arr AB v t e vJ d))) tm _;have uS:=BY s r j (.arr AB v t e vJ d);have uM:=Fc s r j (.arr AB v t e vJ d);generalize s.AG (.leaf r j (.arr AB v t e vJ d))=s' at uS uM;have wJ:∀b,W.fz b->w'.heap[b]?=W.w.heap[b]?:=λb hb=>hw b λuO=>(h.sep.own _ b uO).1 hb;have hoth:∀k,k≠.lf r j->∀b∈W.om k,w'.heap[b]?=W.w.heap[b]?:=λk hk b hb=>hw b λuO=>h.sep.A7 k _ hk b hb uO
 have um:Eg v s s' W { W with w:=w' }:={
  fz:=λb hb=>hb
  Lj:=wJ
  leaf:=by
   intro r' j' ver' v7 t' e' ys d' wB uV;rw[uM]at wB;by_cases uO:r=r'/\j=j'
   ·grind
   ·rw[AAQ (λhh=>uO ⟨hh.1,hh.2.1⟩)]at wB;refine⟨rfl,v7,t',ys,d',wB,λ_=>⟨rfl,λp h' e2 u' hc hn=>?_⟩⟩;obtain⟨u0,vm,hrd0⟩:=(h.roots r').row wB;rw[hc]at vm;injection vm with vm;subst vm
    exact BN p hrd0 hn λb hb=>hb.elim (λhb=>hoth _ No b hb) (wJ b)
  box:=λr' hb uV=>⟨(uS.box r').1▸hb,(uS.box r').2.1.symm,rfl⟩ }
 have wV:Sep E { W with w:=w' }:={
  nodup:=h.sep.nodup
  A7:=h.sep.A7
  own:=λk b hb=>by obtain⟨a,c,d⟩:=h.sep.own k b hb;grind
  fz:=λb hb=>by obtain⟨a,c⟩:=h.sep.fz b hb;grind
  frame:=λb h1 h2=>(hw b λuO=>by
   rcases(h.sep.own _ b uO).2.2 with h3|h3
   all_goals grind).trans (h.sep.frame b h1 h2)
  size:=by show _<=w'.heap.size;rw[uh];exact h.sep.size
  rest:=⟨ug.1.trans h.sep.rest.1,ug.2.1.trans h.sep.rest.2.1,ug.2.2.trans h.sep.rest.2.2⟩ }
 refine h.IH hv um wV (by rw[uS.sl,h.DS]) (by rw[uS.len,h.Bb]) (λt=>.inl ⟨by show nth _ s'.sl t=_;rw[uS.sl];rfl,rfl⟩) ?_;intro r';obtain⟨h1,h2⟩:=h.roots r';refine⟨λj'=>?_,?_⟩
 ·show Aa s' _ (s'.leaf r' j') (W.cv r' j') (W.om (.lf r' j'));rw[uM];by_cases uO:r=r'/\j=j'
  ·obtain⟨rfl,rfl⟩:=uO;rw[AAP ⟨rfl,rfl,hr,hj⟩];exact⟨u,uv,uW⟩
  ·rw[AAQ (λhh=>uO ⟨hh.1,hh.2.1⟩)];exact Aa.Dh um (LA.Ee hv r' j') (hoth _ No) (h1 j')
 ·rw[(uS.box r').1];split
  ·rename_i hb;rw[AAP hb]at h2;obtain⟨wb,vn,T',fr',yK,a1,a2,a3⟩:=h2;exact⟨wb,vn,T',fr',(hoth (.blk r') OF _ (by rw[wb];simp)).trans yK,a1,by rw[(uS.box r').2.2];exact a2,a3⟩
  grind
end
end Go.Ev
namespace Go.Ev
def Plain(w:World)(fz:Nat->Prop)(vs:List Lv)(cells:ADM):Prop:=
 cells.length=vs.length/\∀(m:Nat)(lv:Lv),vs[m]?=some lv->Bg lv.l=false/\∃u,cells[m]?=some u/\∀d w' uQ,lv.l.rd d w' uQ u lv.x []
theorem DJ{w:World}{fz:Nat->Prop}:∀(e:Ls)(off:Nat)(vs:List Lv)(cells:ADM) {f:e.D->e.D} {d:Nat} {g g':Nat->Option Value} {x:e.D} {o:Is},Bh e off vs=some f->Plain w fz vs cells->
  e.rd d w fz g x o->(∀m,m<e.n->g' m=if off<=m/\m<off+vs.length then cells[m-off]? else g m)->off+vs.length<=e.n/\e.rd d w fz g' (f x) o
 | .nil,off,vs,cells,f,d,g,g',x,o,hf,hp,hr,hg=>by simp[Bh]at hf
 | .one l,off,vs,cells,f,d,g,g',x,o,hf,hp,hr,hg=>by
  simp only[Bh]at hf;split at hf
  ·rename_i v;split at hf
   ·rename_i y hy;injection hf with hf;subst hf
    obtain⟨l',z⟩:=v;obtain⟨e1,e2⟩:=L.AH hy;dsimp only at e1;subst e1;have e2:z=y:=e2;subst e2;obtain⟨yc,u,hu,uY⟩:=hp.2 0 ⟨l',z⟩ rfl;simp only[Ls.rd]at hr ⊢;obtain⟨v0,xp,hr⟩:=hr;have ho:=(L.AY l' yc hr (d':=d) (w':=w) (uQ:=fz)).2;subst ho;refine⟨by simp[Ls.n],u,?_,uY _ _ _⟩;rw[hg 0 (by simp[Ls.n]),AAP OF,<-hu]
   ·cases hf
  ·cases hf
 | .cons l ls,off,vs,cells,f,d,g,g',x,o,hf,hp,hr,hg=>by
  simp only[Bh]at hf;simp only[Ls.rd]at hr ⊢;obtain⟨v0,o1,o2,xp,h1,h2,rfl⟩:=hr;cases off with
  |zero=>
   simp only at hf;split at hf
   ·cases hf
   ·rename_i v;split at hf
    ·rename_i y hy;injection hf with hf;subst hf
     obtain⟨l',z⟩:=v;obtain⟨e1,e2⟩:=L.AH hy;dsimp only at e1;subst e1;have e2:z=y:=e2;subst e2;obtain⟨yc,u,hu,uY⟩:=hp.2 0 ⟨l',z⟩ rfl;have ho:=(L.AY l' yc h1 (d':=d) (w':=w) (uQ:=fz)).2;subst ho;refine⟨by simp[Ls.n]<;>omega,u,[],o2,?_,uY _ _ _,?_,rfl⟩
     ·rw[hg 0 (by simp[Ls.n]<;>omega),AAP OF,<-hu]
     ·exact Ls.BP ls h2 λj hj=>by rw[hg (j+1) (by simp[Ls.n]<;>omega),AAQ OF]
    ·cases hf
   ·rename_i v u0 xY;split at hf
    ·rename_i y f' hy yW;injection hf with hf;subst hf
     obtain⟨l',z⟩:=v;obtain⟨e1,e2⟩:=L.AH hy;dsimp only at e1;subst e1;have e2:z=y:=e2;subst e2;obtain⟨yc,u,hu,uY⟩:=hp.2 0 ⟨l',z⟩ rfl;have ho:=(L.AY l' yc h1 (d':=d) (w':=w) (uQ:=fz)).2;subst ho
     obtain⟨c0,cs,rfl⟩:∃c0 cs,cells=c0::cs:=by
      cases cells with
      |nil=>grind
      |cons c cs=>grind
     obtain⟨ih1,ih2⟩:=DJ ls 0 (u0::xY) cs (g':=λj=>g' (j+1)) yW ⟨by have:=hp.1;grind,λm lv hm=>by
      have:=hp.2 (m+1) lv ADV;grind⟩ h2 (λm hm=>by
       rw[hg (m+1) (by simp[Ls.n]<;>omega)];grind)
     refine⟨by simp[Ls.n]at ih1 ⊢ <;> omega,u,[],o2,?_,uY _ _ _,ih2,rfl⟩;rw[hg 0 (by simp[Ls.n]<;>omega),AAP OF,<-hu]
    ·cases hf
  |succ off=>
   simp only at hf;split at hf
   ·rename_i f' yW;injection hf with hf;subst hf
    obtain⟨ih1,ih2⟩:=DJ ls off vs cells (g':=λj=>g' (j+1)) yW hp h2 (λm hm=>by
     rw[hg (m+1) (by simp[Ls.n]<;>omega)];grind)
    refine⟨by simp[Ls.n]<;>omega,v0,o1,o2,?_,h1,ih2,rfl⟩;rw[hg 0 (by simp[Ls.n]<;>omega),AAQ J];exact xp
   ·cases hf
theorem Jr{w:World}{fz:Nat->Prop}:∀(e:Ls)(j:Nat) {G:(t:TypeId)->(f:Ls)->Option (List f.D->List f.D)} {hh:e.D->e.D} {g:Nat->Option Value} {x:e.D} {o:Is} {t:TypeId} {f:Ls} {h':Value},EH e j G=some hh->
  e.kinds[j]?=some (.sl t f)->e.rd 2 w fz g x o->g j=some h'->∃(fn:List f.D->List f.D) (ys:List f.D) (o':Is),G t f=some fn/\AE f 2 w fz h' ys o'/\(∀b∈o',b∈o)/\(o.Nodup->o'.Nodup)/\
   ∀w',AE f 2 w' fz h' (fn ys) o'->(∀b,b∈o\/fz b->b∉o'->w'.heap[b]?=w.heap[b]?)->(∀b,fz b->b∉o')->o.Nodup->e.rd 2 w' fz g (hh x) o
 | .nil,j,G,hh,g,x,o,t,f,h',hm,hk,hr,hg=>by simp[EH]at hm
 | .one l,j,G,hh,g,x,o,t,f,h',hm,hk,hr,hg=>by
  simp only[EH]at hm;simp only[Ls.rd]at hr;obtain⟨v,hv,hr⟩:=hr;cases j with
  |succ j=>cases hm
  |zero=>
   simp[Ls.kinds]at hk;subst hk;rw[hg]at hv;injection hv with hv;subst hv
   refine⟨hh,x,o,hm,hr,λb hb=>hb,id,λw' vI _ _ _=>?_⟩;simp only[Ls.rd];exact⟨h',hg,vI⟩
 | .cons l ls,j,G,hh,g,x,o,t,f,h',hm,hk,hr,hg=>by
  simp only[EH]at hm;simp only[Ls.rd]at hr;obtain⟨v,o1,o2,hv,h1,h2,rfl⟩:=hr;cases j with
  |zero=>
   simp[Ls.kinds]at hk;subst hk;rw[hg]at hv;injection hv with hv;subst hv
   simp only at hm;split at hm
   ·rename_i fn xw;injection hm with hm;subst hm
    refine⟨fn,x.1,o1,xw,h1,λb hb=>AAU _ hb,λhn=>(AAY.1 hn).1,λw' vI hf hz hn=>?_⟩;simp only[Ls.rd];refine⟨h',o1,o2,hg,vI,Ls.AN ls h2 (λb hb=>hf b (hb.imp (AAR _) id) ?_) (λb hb=>hb),rfl⟩;grind
   ·cases hm
  |succ j=>
   simp only at hm;split at hm
   ·rename_i w5 yK;injection hm with hm;subst hm
    obtain⟨fn,ys,o',a1,a2,a3,a4,a5⟩:=Jr ls j yK (by simpa[Ls.kinds]using hk) h2 (show(λj=>g (j+1)) j=_ from hg);refine⟨fn,ys,o',a1,a2,λb hb=>AAR _ (a3 b hb),λhn=>a4 (AAY.1 hn).2.1,λw' vI hf hz hn=>?_⟩;simp only[Ls.rd];refine⟨v,o1,o2,hv,L.AN l h1 (λb hb=>hf b (hb.imp (AAU _) id) ?_) (λb hb=>hb),a5 w' vI (λb hb yN=>hf b (hb.imp (AAR _) id) yN) hz (AAY.1 hn).2.1,rfl⟩;grind
   ·cases hm
theorem Ep:∀(e:Ls),(∀l∈e.kinds,Bg l=false)->B1 e=true
 | .nil,_=>rfl
 | .one l,h=>by simp[B1,h l (by simp[Ls.kinds])]
 | .cons l ls,h=>by simp[B1,h l (by simp[Ls.kinds]),Ep ls λl hl=>h l (by simp[Ls.kinds,hl])]
theorem E9{α:Type}(xs:List α)(i:Nat)(f:α->α)(m:Nat)(hm:m<(xs.modify i f).length):(xs.modify i f)[m]=if i=m then f (xs[m]'(by grind))else xs[m]'(by grind):=No
theorem Kr{e:Ls}{d:Nat}{w:World}{fz:Nat->Prop}{a:Addr}{n k:Nat}{xs:List e.D}{o:Is}(hr:AE e d w fz (.slice (some a) n k) xs o)(hd:0<d)(hn:o.Nodup)(hz:∀b∈o,¬fz b){i:Nat}(hi:i<n)
  {off:Nat} {cells:ADM} {F:e.D->e.D} (vD:off+cells.length<=e.n)
  (hF:∀g g' x oo,e.rd (dec d) w fz g x oo->(∀m,m<e.n->g' m=if off<=m/\m<off+cells.length then cells[m-off]? else g m)->e.rd (dec d) w fz g' (F x) oo):
  a.spot=none/\∃arr T fr,w.heap[a.block]?=some (.cells arr T fr)/\(∀j,j<arr.size->¬(fr.1<=j/\j<fr.2))/\a.off+(i*e.n+off)+cells.length<=arr.size/\a.block∈o/\
   ∀w',NR w w' a.block (B7 cells (a.off+(i*e.n+off)) arr) T fr->AE e d w' fz (.slice (some a) n k) (xs.modify i F) o:=by
 obtain⟨A,c,hv,hc,_,vF⟩:=hr.LG;injection hv with hA hl hk
 subst hA;subst hl;subst hk;obtain⟨arr,T,fr,os,hs,hh,uh,uc,uk,ho,_⟩:=vF a rfl (.inr hd);have ho:=ho hd;have uc:=uc hd
 have hmul:i*e.n+e.n<=k*e.n:=by have:(i+1)*e.n<=k*e.n:=AAo _ J;rw[AAp,ABM]at this;omega
 have wj:a.off+(i*e.n+off)+cells.length<=arr.size:=J
 refine⟨hs,arr,T,fr,hh,uc,wj,by rw[ho];simp,λw' uf=>?_⟩;have ud:=Ce cells (a.off+(i*e.n+off)) arr wj;have hd':decide (0<d)=true:=by simpa using hd
 refine⟨some a,k,OF,ADc,?_⟩;refine .inr ⟨λq=>(B7 cells (a.off+(i*e.n+off)) arr)[a.off+q]?,os,⟨hs,_,T,fr,uf.here,by rw[Aq];exact uh,λ_=>by rw[Aq];exact uc,λ_=>rfl⟩,λm hm=>?_,?_⟩
 ·have vy:m<xs.length:=ADV
  have zm:a.block∉os m:=by intro uO;rw[ho]at hn;exact(AAc.1 hn).1 (AAL.2 ⟨m,AAX.2 vy,uO⟩)
  rw[E9]
  have wA:∀ {g x},e.rd (dec d) w fz g x (os m)->e.rd (dec d) w' fz g x (os m):=λh=>Ls.AN e h (λb hb=>uf.CY b (by
   rintro rfl
   rcases hb with hb|hb
   ·exact zm hb
   ·exact hz _ (by rw[ho];simp) hb)) λ_ hb=>hb
  by_cases wK:i=m
  ·subst wK;rw[AAP rfl];refine wA (hF _ _ _ _ (uk i vy) λq hq=>?_);show(B7 cells (a.off+(i*e.n+off)) arr)[a.off+(i*e.n+q)]?=_;rw[ud];by_cases hc:off<=q/\q<off+cells.length
   ·rw[AAP J,AAP hc];congr 1;omega
   ·rw[AAQ J,AAQ hc]
  ·rw[AAQ wK];refine wA (Ls.BP e (uk m vy) λq hq=>?_);show(B7 cells (a.off+(i*e.n+off)) arr)[a.off+(m*e.n+q)]?=_;rw[ud,AAQ];intro hc;rcases ABH wK with h1|h1
   ·have:(i+1)*e.n<=m*e.n:=AAo _ h1;rw[AAp,ABM]at this;omega
   ·have:(m+1)*e.n<=i*e.n:=AAo _ h1;rw[AAp,ABM]at this;omega
 grind
theorem KW{w:World}{fz:Nat->Prop}{e:Ls}{vs:List Lv}{y:e.D}{cells:ADM}(hy:pack e vs=some y)(hp:Plain w fz vs cells){g:Nat->Option Value}(hg:∀m,m<e.n->g m=cells[m]?):
  B1 e=true/\vs.length=e.n/\∀d w' uQ,e.rd d w' uQ g y []:=by
 have xI:=Ay e vs y hy;have hlen:vs.length=e.n:=by rw[<-xI,CT]
 have zg:B1 e=true:=Ep e λl hl=>by rw[<-Dx e y,xI]at hl;obtain⟨lv,hm,rfl⟩:=AAs.1 hl;obtain⟨m,hm⟩:=AAr hm;exact(hp.2 m lv hm).1
 refine⟨zg,hlen,λd w' uQ=>?_⟩
 have:e.rd 0 w' uQ g y []:=Cl e λj lv hj=>by
  rw[xI]at hj;have uR:j<e.n:=by rw[<-hlen];exact(AAK.1 hj).1
  obtain⟨_,u,hu,hr⟩:=hp.2 j lv hj;grind
 exact(Ls.AY e zg this).1
theorem FF{α:Type}:∀(xs:List α)(i:Nat)(y:α),DL xs i y=xs.modify i λ_=>y
 | [],i,y=>by cases i<;>simp[DL]
 |x::xs,0,y=>by simp[DL]
 |x::xs,i+1,y=>by simp[DL,FF xs i y]
theorem H5{x:Nat×Nat}{p:List (Nat×Nat)}(hp:p≠[]){q:List (Nat×Nat)}{i off:Nat}(h:Ai (x::p)=some (q,i,off)):∃q',q=x::q'/\Ai p=some (q',i,off):=by
 cases p with
 |nil=>grind
 |cons y r=>
  simp only[Ai]at h;grind
theorem CB{os:Nat->Is}:∀ {l:Is},(l.flatMap os).Nodup->∀ {i j:Nat},i∈l->j∈l->i≠j->∀b∈os i,b∉os j
 | [],_,i,j,hi,_,_=>by cases hi
 |x::l,h,i,j,hi,hj,uV=>by
  rw[AAm]at h;obtain⟨h1,h2,h3⟩:=AAY.1 h;intro b hb uZ;rcases AAf.1 hi with vw|vw
  ·grind
  ·rcases AAf.1 hj with hj'|hj'
   ·grind
   ·exact CB h2 vw hj' uV b hb uZ
theorem CC{os:Nat->Is}:∀ {l:Is},(l.flatMap os).Nodup->∀ {i:Nat},i∈l->(os i).Nodup
 | [],_,i,hi=>by cases hi
 |x::l,h,i,hi=>No
theorem Kk{vs:List Lv}{cells:ADM}{w:World}{fz:Nat->Prop}(hp:Plain w fz vs cells){i off:Nat}{e':Ls}{a:Addr}{n k:Nat}(hi:i<n):∀(p q:List (Nat×Nat)) {e:Ls} {d:Nat} {h:Value} {xs:List e.D} {o:Is} {f:List e.D->List e.D},
  I6 vs p e=some f->AE e d w fz h xs o->o.Nodup->(∀b∈o,¬fz b)->0<d->(p.length<=1\/d=2)->Ai p=some (q,i,off)->JL w q e h e' (.slice (some a) n k)->
  a.spot=none/\∃arr T fr,w.heap[a.block]?=some (.cells arr T fr)/\(∀j,j<arr.size->¬(fr.1<=j/\j<fr.2))/\a.off+(i*e'.n+off)+cells.length<=arr.size/\a.block∈o/\
   ∀w',NR w w' a.block (B7 cells (a.off+(i*e'.n+off)) arr) T fr->AE e d w' fz h (f xs) o
 | [],q,e,d,h,xs,o,f,hm,hr,hn,hz,hd,wg,hs,wv=>by simp[I6]at hm
 | [(i0,j0)],q,e,d,h,xs,o,f,hm,hr,hn,hz,hd,wg,hs,wv=>by
  simp only[Ai,Option.some.injEq,Prod.mk.injEq]at hs;obtain⟨rfl,rfl,rfl⟩:=hs;obtain⟨rfl,rfl⟩:=wv;simp only[I6]at hm;split at hm
  ·rename_i y hy;injection hm with hm;subst hm
   split at hy
   ·rename_i hc;simp only[AAJ,AAT]at hc;obtain⟨rfl,hlen⟩:=hc
    have:=Kr (F:=λ_=>y) (off:=0) (cells:=cells) hr hd hn hz hi (by rw[hp.1,hlen];omega) (λg g' x oo hx hg=>by
     obtain⟨zg,_,vY⟩:=KW hy hp (g:=g') λm hm=>by rw[hg m hm,AAP (by rw[hp.1,hlen];omega)];simp
     have:=(Ls.AY e' zg hx (d':=0) (w':=w) (uQ:=fz)).2;grind)
    simpa only[FF]using this
   ·cases hy
  ·split at hm
   ·rename_i f' yW;injection hm with hm;subst hm
    have hlen:∀g x oo,e'.rd (dec d) w fz g x oo->j0+vs.length<=e'.n:=λg x oo hx=>(DJ e' j0 vs cells (g':=λm=>if j0<=m/\m<j0+vs.length then cells[m-j0]? else g m) yW hp hx λm _=>rfl).1;obtain⟨A,c,hv,hc,_,vF⟩:=hr.LG;injection hv with hA hl hk
    subst hA;subst hl;subst hk;obtain⟨arr,T,fr,os,_,_,_,_,uk,_,_⟩:=vF a rfl (.inr hd);have vD:=hlen _ _ _ (uk i0 hi);exact Kr (F:=f') (off:=j0) (cells:=cells) hr hd hn hz hi (by rw[hp.1];exact vD) (λg g' x oo hx hg=>(DJ e' j0 vs cells yW hp hx λm hm=>by rw[hg m hm,hp.1]).2)
   ·cases hm
 |(i0,j0)::p0::ps,q,e,d,h,xs,o,f,hm,hr,hn,hz,hd,wg,hs,wv=>by
  have hd2:d=2:=wg.resolve_left OF;subst hd2;obtain⟨q',rfl,zR⟩:=H5 OF hs;simp only[I6]at hm;split at hm
  ·rename_i hh hhh;injection hm with hm;subst hm
   obtain⟨a0,len,c,t,ff,h',rfl,hs0,yh,hk,ur,hnav'⟩:=wv;obtain⟨A,cc,hv,hc,_,vF⟩:=hr.LG;injection hv with hA hl vh
   subst hA;subst hl;subst vh;obtain⟨arr,T,fr,os,_,hhp,uh,uc,uk,ho,_⟩:=vF a0 rfl (.inr hd);have ho:=ho hd;have uc:=uc hd
   have hcell':arr[a0.off+(i0*e.n+j0)]?=some h':=by simp only[World.cell?,at_,hhp]at ur;simpa using ur
   have vd:=hn;rw[ho]at vd
   have hosn:(os i0).Nodup:=by exact CC (AAc.1 vd).2 (AAX.2 yh)
   have vS:∀m,m<xs.length->∀b∈os m,b∈o:=λm hm b hb=>by rw[ho];exact AAM _ (AAL.2 ⟨m,AAX.2 hm,hb⟩)
   have vU:∀m,m<xs.length->m≠i0->∀b∈os i0,b∉os m:=by intro m hm uV b hb uZ;have h3:=(AAc.1 vd).2;have:=CB h3 (AAX.2 yh) (AAX.2 hm) (λe=>uV e.symm) b hb;exact this uZ
   obtain⟨fn,ys,o',xw,uX,vb,hond,xa⟩:=Jr e j0 hhh hk (uk i0 yh) hcell';obtain⟨xH,arr2,T2,fr2,hh2,w6,wj,uO,hput2⟩:=Kk hp hi (p0::ps) q' xw uX (hond hosn) (λb hb=>hz b (vS i0 yh b (vb b hb))) hd (.inr rfl) zR hnav';refine⟨xH,arr2,T2,fr2,hh2,w6,wj,vS i0 yh _ (vb _ uO),λw' uf=>?_⟩;have xk:=hput2 w' uf;have hne0:a0.block≠a.block:=λe=>(AAc.1 vd).1 (AAL.2 ⟨i0,AAX.2 yh,by rw[e];exact vb _ uO⟩);refine⟨some a0,c,OF,ADc,.inr ⟨λqq=>arr[a0.off+qq]?,os,⟨hs0,arr,T,fr,(uf.CY _ hne0).trans hhp,uh,λ_=>uc,λ_=>rfl⟩,λm hm=>?_,?_⟩⟩
   ·have vy:m<xs.length:=ADV
    rw[E9];by_cases wK:i0=m
    ·subst wK;rw[AAP rfl];refine xa w' xk (λb hb yN=>uf.CY b (λe=>yN (e▸uO))) (λb hb uZ=>hz b (vS i0 yh b (vb b uZ)) hb) hosn
    ·rw[AAQ wK];refine Ls.AN e (uk m vy) (λb hb=>uf.CY b ?_) λ_ hb=>hb
     rintro rfl
     rcases hb with hb|hb
     ·exact vU m vy (λe=>wK e.symm) _ (vb _ uO) hb
     ·exact hz _ (vS i0 yh _ (vb _ uO)) hb
   grind
  ·cases hm
end Go.Ev
namespace Go.Ev
def Ge(w:World)(fz:Nat->Prop)(g:Bool)(ls:List (L×Nat))(u:Value)(vs:List Lv)(own:Nat->Is):Prop:=
 vs.map (·.l)=ls.map (·.1)/\(match g with
  |true=>∃cs:Array Value,u=.agg cs/\cs.size=ls.length
  |false=>ls.length=1)/\∀(j:Nat)(p:L×Nat)(lv:Lv),ls[j]?=some p->vs[j]?=some lv->∃y,A8 g u j=some y/\lv.l.rd p.2 w fz y lv.x (own j)
def Mn(w:World)(fz:Nat->Prop)(ls:List (L×Nat))(u:Value)(vs:List Lv)(blk:Nat)(own:Nat->Is):Prop:=
 u=.pointer (some ⟨blk,0,none⟩)/\vs.map (·.l)=ls.map (·.1)/\∃(arr:Array Value) (T:TypeId) (fr:Nat×Nat),w.heap[blk]?=some (.cells arr T fr)/\(∀j,j<arr.size->¬(fr.1<=j/\j<fr.2))/\arr.size=ls.length/\
  ∀(j:Nat)(p:L×Nat)(lv:Lv),ls[j]?=some p->vs[j]?=some lv->∃y,arr[j]?=some y/\lv.l.rd p.2 w fz y lv.x (own j)
def Mp(w:World)(fz:Nat->Prop)(pm:PM)(u:Value)(vs:List Lv)(blk:Nat)(own:Nat->Is):Prop:=match pm with
 | .val g ls=>Ge w fz g (ls.map λl=>(l,0)) u vs λ_=>[]
 | .box ls=>Mn w fz ls u vs blk own
 | .row g ls=>Ge w fz g ls u vs own/\∀(j:Nat)(p:L×Nat),ls[j]?=some p->Bg p.1=true->p.2=4->A8 g u j=some (.slice none 0 0)
 | .fn f=>u=.func (.func f) #[] #[]/\vs=[]
def JQ(w:World)(fz:Nat->Prop)(pm:PM)(u:Value)(vs:List Lv)(blk:Nat)(own:Nat->Is):Prop:=match pm with
 | .val _ _=>vs=[]
 | .box ls=>Mn w fz ls u vs blk own
 | .row g ls=>Ge w fz g ls u vs own
 | .fn _=>vs=[]
def D4(w:World)(fz:Nat->Prop)(om:Nat->Is):List (Bool×List (L×Nat))->ADM->List (List Lv)->Nat->Prop
 | [],[],[],_=>True
 |(g,ls)::rs,u::us,vs::uN,off=>Ge w fz g ls u vs (λj=>om (off+j))/\D4 w fz om rs us uN (off+ls.length)
 |_,_,_,_=>False
structure Di(ps:List PM)(w:World)(fz:Nat->Prop)(args:ADM)(uN:List (List Lv))(bk:Nat->Nat)(om:Key->Is):Prop where
 len:args.length=ps.length
 Bb:uN.length=ps.length
 each:∀(i:Nat)(pm:PM)(u:Value)(vs:List Lv),ps[i]?=some pm->args[i]?=some u->uN[i]?=some vs->Mp w fz pm u vs (bk i) λj=>om (.lf i j)
 blk:∀i,om (.blk i)=match ps[i]? with
  |some (.box _)=>[bk i]
  |_=>[]
 none:∀i,(∀ls,ps[i]?≠some (.box ls))->(∀g ls,ps[i]?≠some (.row g ls))->∀j,om (.lf i j)=[]
 box:∀i ls,ps[i]?=some (.box ls)->∀j,ls.length<=j->om (.lf i j)=[]
 row:∀i g ls,ps[i]?=some (.row g ls)->∀j,ls.length<=j->om (.lf i j)=[]
 fl:∀k,om (.fl k)=[]
 nodup:∀k,(om k).Nodup
 A7:∀k k',k≠k'->∀b∈om k,b∉om k'
 own:∀k,∀b∈om k,¬fz b/\b<w.heap.size
 fz:∀b,fz b->b<w.heap.size
def KY:ADM->Value
 | [u]=>u
 |us=>.tuple us.toArray
structure FH(g:Sm)(w:World)(fz:Nat->Prop)(args:ADM)(bk:Nat->Nat)(om:Key->Is)(z:g.outs.D)(r:Value)(w':World)(uQ:Nat->Prop)(vG:Key->Is)(rv:ADM)(vsR vsP:List (List Lv)):Prop where
 outs:unpack g.outs z=vsR.flatten++vsP.flatten
 res:r=KY rv
 J1:D4 w' uQ (λk=>vG (.fl k)) g.rs rv vsR 0
 len:vsP.length=g.ps.length
 each:∀(i:Nat)(pm:PM)(u:Value)(vs:List Lv),g.ps[i]?=some pm->args[i]?=some u->vsP[i]?=some vs->JQ w' uQ pm u vs (bk i) λj=>vG (.lf i j)
 blk:∀i,vG (.blk i)=om (.blk i)
 nodup:∀k,(vG k).Nodup
 A7:∀k k',k≠k'->∀b∈vG k,b∉vG k'
 own:∀k,∀b∈vG k,¬uQ b/\b<w'.heap.size/\(w.heap.size<=b\/∃k0,b∈om k0)
 fz:∀b,uQ b->b<w'.heap.size/\(fz b\/w.heap.size<=b\/∃k0,b∈om k0)
 frame:∀b,b<w.heap.size->(∀k,b∉om k)->w'.heap[b]?=w.heap[b]?
 size:w.heap.size<=w'.heap.size
 rest:w'.os=w.os/\w'.tape=w.tape/\w'.output=w.output
 kept:∀(i:Nat) (ls:List (L×Nat)) (j:Nat) (p:L×Nat),g.ps[i]?=some (.box ls)->ls[j]?=some p->p.2=3->w'.cell? ⟨bk i,j,none⟩=w.cell? ⟨bk i,j,none⟩
structure Ll(g:Sm)(w:World)(fz:Nat->Prop)(z:g.outs.D)(r:Value)(w':World)(uQ:Nat->Prop)(b:Nat):Prop where
 box:Mn w' uQ g.Gg r (unpack g.outs z) b λ_=>[]
 new:w.heap.size<=b/\b<w'.heap.size/\¬uQ b
 fz:∀x,uQ x->x<w'.heap.size/\(fz x\/w.heap.size<=x)
 frame:∀x,x<w.heap.size->w'.heap[x]?=w.heap[x]?
 size:w.heap.size<=w'.heap.size
 rest:w'.os=w.os/\w'.tape=w.tape/\w'.output=w.output
def Ov(P:Program)(T:List (String×Array Value))(w:World)(io:Nat->Prop):Prop:=∀x∈T,w.var? P x.1=some x.2/\∃g,P.globalNamed x.1=some g/\¬io g/\g<w.heap.size
def JO(P:Program)(T:List (String×Array Value))(f:FuncId)(g:Ln):Prop:=
 ∀(args:ADM)(w:World)(fz:Nat->Prop) (uN:List (List Lv)) (bk:Nat->Nat) (om:Key->Is) (x:g.s.ins.D) (z:g.s.outs.D),Ov P T w (λb=>∃k,b∈om k)->Di g.s.ps w fz args uN bk om->pack g.s.ins uN.flatten=some x->g.f x=some z->
  Calls P f args.toArray w λen w'=>match g.s.mk? with
   |false=>∃r uQ vG rv vsR vsP,en=.returned r/\FH g.s w fz args bk om z r w' uQ vG rv vsR vsP
   |true=>∃r uQ b,en=.returned r/\Ll g.s w fz z r w' uQ b
def GF(w:World)(fz:Nat->Prop)(ls:List L)(u:Value)(vs:List Lv):Prop:=
 ∃(b:Nat) (arr:Array Value) (T:TypeId) (fr:Nat×Nat),u=.pointer (some ⟨b,0,none⟩)/\fz b/\w.heap[b]?=some (.cells arr T fr)/\arr.size=ls.length/\vs.map (·.l)=ls/\∀(j:Nat)(lv:Lv),vs[j]?=some lv->∃y,arr[j]?=some y/\lv.l.rd 0 w fz y lv.x []
def Dj(w:World)(fz:Nat->Prop):List (List L)->ADM->List Lv->Prop
 | [],[],vs=>vs=[]
 |ls::bs,u::us,vs=>∃x y,vs=x++y/\GF w fz ls u x/\Dj w fz bs us y
 |_,_,_=>False
def Kf(w:World)(fz:Nat->Prop)(rowv:Value):KC->Value->List Lv->Prop
 | .box ls,u,vs=>GF w fz ls u vs
 | .D2 g bs,u,vs=>∃(b:Nat) (T:TypeId) (fr:Nat×Nat) (lb:Array Value),u=.pointer (some ⟨b,0,none⟩)/\fz b/\w.heap[b]?=some (.cells #[.func (.func g) #[] lb] T fr)/\Dj w fz bs lb.toList vs
 | .row,u,vs=>vs=[]/\∃(b:Nat) (T:TypeId) (fr:Nat×Nat),u=.pointer (some ⟨b,0,none⟩)/\fz b/\w.heap[b]?=some (.cells #[rowv] T fr)
def D3(w:World)(fz:Nat->Prop)(rowv:Value):List KC->ADM->List Lv->Prop
 | [],[],vs=>vs=[]
 |c::cs,u::us,vs=>∃x y,vs=x++y/\Kf w fz rowv c u x/\D3 w fz rowv cs us y
 |_,_,_=>False
def Nf(P:Program)(g:FuncId)(σ:OC):Prop:=
 ∀(w:World)(fz:Nat->Prop)(us:ADM)(vs:List Lv) (y:(Ej (σ.Iv.flatMap KC.kinds)).D) (blk off n c:Nat) (G:Nat->Int),D3 w fz (.slice (some ⟨blk,off,none⟩) n c) σ.Iv us vs->pack (Ej (σ.Iv.flatMap KC.kinds)) vs=some y->
  (∀t,t<n->w.cell? ⟨blk,off+t,none⟩=some (.int .i64 (G t)))->n<=20->∀i j:Nat,i<n->j<n->∀b,σ.lt y (G i) (G j)=some b->
  Calls P g (#[.int .i64 i,.int .i64 j]++us.toArray) w λe w'=>e=.returned (.bool b)/\∃q os,w'=Go.Sort.grow (w.drewN q) os
structure Lo(P:Program)(f:FuncId)(t:TypeId):Prop where
 many:∀(α:Type) [Inhabited α] (enc:α->Value),(∀x,(enc x).oneCell'=true)->∀(lt:α->α->Bool)(g:Nat)(lb:Array Value),(∀args w,(callFunc g args).run P w=.ok (.enter g args) w)->∀(blk off c:Nat)(d:Array α),2<=d.size->d.size<=20->∀(w:World),
  (∀(m:Nat)(os:Array Obj)(dk:Array α),dk.size=d.size->∀i j:Nat,i<d.size->j<d.size->
   Calls P g (#[.int .i64 i,.int .i64 j]++lb) (Go.Sort.grow (Go.Sort.putRow enc (Go.Sort.ahead w m) blk off dk) os) λe w'=>e=.returned (.bool (lt dk[i]! dk[j]!))/\∃q vP,w'=Go.Sort.grow ((Go.Sort.grow (Go.Sort.putRow enc (Go.Sort.ahead w m) blk off dk) os).drewN q) vP)->
  Go.Sort.Holds enc w blk off d->blk<w.heap.size->
  Calls P f #[.iface t (.slice (some ⟨blk,off,none⟩) d.size c),.func (.func g) #[] lb] w λe w'=>e=.returned (.tuple #[])/\∃n os,w'=Go.Sort.grow (Go.Sort.putRow enc (Go.Sort.ahead w n) blk off (Go.Sort.insertionSort lt d 0 d.size)) os
 NP:∀(p:Option Addr)(n c:Nat),n<=1->∀(lf:Fn)(la lb:Array Value)(w:World),Calls P f #[.iface t (.slice p n c),.func lf la lb] w λe w'=>e=.returned (.tuple #[])/\∃os,w'=Go.Sort.grow w os
 body : ∃ (fn : Func) (c : Code), P.funcs[f]? = some fn /\ fn.body = some c /\ (fn.name == "runtime.NumGoroutine") = false
structure Lp(P:Program)(f g:FuncId)(σ:OC):Prop where
 sort:Lo P f σ.t
 less:Nf P g σ
 enters:∀args w,(callFunc g args).run P w=.ok (.enter g args) w
def IJ (P : Program) (T : List (String × Array Value)) (env : FuncId -> Option Ln) : Prop := ∀ f g, env f = some g -> JO P T f g /\ ∃ (fn : Func) (c : Code), P.funcs[f]? = some fn /\ fn.body = some c /\ (fn.name == "runtime.NumGoroutine") = false
structure JN(P:Program)(T:List (String×Array Value))(env:Env):Prop where
 fns:IJ P T env.fn
 Oc:∀f g σ,env.PC f g=some σ->Lp P f g σ
 Nr:Lk P env
def C8(P:Program)(E:Ck)(env:Env):Prop:=JN P E.NO env/\∀x∈E.NO,E.w0.var? P x.1=some x.2/\∃g,P.globalNamed x.1=some g/\¬E.io g/\g<E.base
theorem C8.O9{P:Program}{E:Ck}{env:Env}(h:C8 P E env){W:Wd}(hs:Sep E W){om:Key->Is}(ho:∀k,∀b∈om k,∃k',b∈W.om k'):Ov P E.NO W.w (λb=>∃k,b∈om k):=by
 intro x hx;obtain⟨h1,g,h2,h3,h4⟩:=h.2 x hx;have hg:W.w.heap[g]?=E.w0.heap[g]?:=hs.frame g h4 h3;refine⟨?_,g,h2,?_,by have:=hs.size;omega⟩
 ·unfold World.var? at h1 ⊢;grind
 ·rintro ⟨k,hb⟩
  obtain⟨k',hb⟩:=ho k g hb;rcases(hs.own k' g hb).2.2 with h5|h5
  all_goals grind
section
variable {P:Program}{E:Ck}{s s':St}{W W':Wd}{v:Nat}{tm:Array Value}
theorem AW.MH(h:AW E s tm W)(hv:Aj s v)(uS:JS s s')(chk:Nat->Nat->Prop)(chb:Nat->Prop)
  (hl:∀r j,¬chk r j->s'.leaf r j=s.leaf r j) (uv:∀r,¬chb r->∀j,W'.cv r j=W.cv r j) (hcb:∀r j,chb r->chk r j) (yf:∀r,W'.bk r=W.bk r)
  (xU:∀r j,¬chk r j->W'.om (.lf r j)=W.om (.lf r j)) (homb:∀r,W'.om (.blk r)=W.om (.blk r))
  (hw:∀b,(W.fz b\/(∃r,¬chb r/\b∈W.om (.blk r))\/∃r j,¬chk r j/\b∈W.om (.lf r j))->W'.w.heap[b]?=W.w.heap[b]?) (wJ:∀b,W.fz b->W'.fz b)
  (uM:∀(r j AB gen:Nat)(t:TypeId)(e:Ls)(xs:List e.D)(d:Nat),chk r j->s'.leaf r j=.arr AB gen t e xs d->AB≠v->W'.cv r j=W.cv r j/\∃gen0 t0 xs0 d0,s.leaf r j=.arr AB gen0 t0 e xs0 d0/\(gen≠v->gen=gen0/\W'.w=W.w))
  (wV:Sep E W') (vH:Eg v s s' W W'->∀r j,chk r j->Aa s' W' (s'.leaf r j) (W'.cv r j) (W'.om (.lf r j)))
  (vC:∀r,chb r->(s.root r).box=true->∃(arr:Array Value) (T:TypeId) (fr:Nat×Nat),W'.w.heap[W.bk r]?=some (.cells arr T fr)/\(∀j,j<arr.size->¬(fr.1<=j/\j<fr.2))/\arr.size=(s.root r).ls.length/\∀j,W'.cv r j=arr[j]?):AW E s' tm W':=by
 have um:Eg v s s' W W':={
  fz:=wJ
  Lj:=λb hb=>hw b (.inl hb)
  leaf:=by
   intro r j AB gen t e xs d yj uV;by_cases hc:chk r j
   ·grind
   ·rw[hl r j hc]at yj;refine⟨uv r (λhb=>hc (hcb r j hb)) j,gen,t,xs,d,yj,λ_=>⟨rfl,λp h' e' u' vL hn=>?_⟩⟩;obtain⟨u0,vm,uW⟩:=(h.roots r).row yj;rw[vL]at vm;injection vm with vm;subst vm
    exact BN p uW hn λb hb=>hw b (hb.elim (λhb=>.inr (.inr ⟨r,j,hc,hb⟩)) .inl)
  box:=λr hb uV=>⟨(uS.box r).1▸hb,(uS.box r).2.1.symm,yf r⟩ }
 refine h.IH hv um wV (by rw[uS.sl,h.DS]) (by rw[uS.len,h.Bb]) (λt=>.inl ⟨by show nth _ s'.sl t=_;rw[uS.sl];rfl,rfl⟩) ?_;intro r;obtain⟨h1,h2⟩:=h.roots r;refine⟨λj=>?_,?_⟩
 ·show Aa s' W' (s'.leaf r j) (W'.cv r j) (W'.om (.lf r j));by_cases hc:chk r j
  ·grind
  ·rw[hl r j hc,uv r (λhb=>hc (hcb r j hb)) j,xU r j hc];exact Aa.Dh um (LA.Ee hv r j) (λb hb=>hw b (.inr (.inr ⟨r,j,hc,hb⟩))) (h1 j)
 ·rw[(uS.box r).1,homb,yf];split
  ·rename_i hb;rw[AAP hb]at h2;obtain⟨wb,vn,T',fr',yK,a1,a2,a3⟩:=h2;refine⟨wb,?_⟩;by_cases hc:chb r
   ·obtain⟨arr,T,fr,q1,q2,q3,q4⟩:=vC r hc hb;exact⟨arr,T,fr,q1,q2,by rw[q3,(uS.box r).2.2],q4⟩
   ·exact⟨vn,T',fr',(hw _ (.inr (.inl ⟨r,hc,by rw[wb];simp⟩))).trans yK,a1,by rw[(uS.box r).2.2];exact a2,λj=>(uv r hc j).trans (a3 j)⟩
  grind
structure Up where
 r:Nat
 lo:Nat
 news:List LA
def ER(us:List Up):List Wr:=us.flatMap λu=>A3 u.r u.lo u.news
theorem IC:∀(us:List Up)(s:St),(∀u∈us,(u.news=[]\/u.r<s.ro.length)/\u.lo+u.news.length<=(s.root u.r).ls.length)->JS s (s.app (ER us))/\
  ∀r j,(s.app (ER us)).leaf r j=us.foldl (λa u=>if r=u.r/\u.lo<=j/\j<u.lo+u.news.length then nth .bad u.news (j-u.lo)else a) (s.leaf r j)
 | [],s,h=>⟨⟨rfl,rfl,λ_=>⟨rfl,rfl,rfl⟩⟩,λr j=>rfl⟩
 |u::us,s,h=>by
  obtain⟨hr,hf⟩:=h u OF;obtain⟨h1,h2⟩:=Du u.r u.news u.lo s hr hf
  obtain⟨h3,h4⟩:=IC us (s.app (A3 u.r u.lo u.news)) λx hx=>by
   obtain⟨q1,q2⟩:=h x (AAM _ hx);exact⟨by rw[h1.len];exact q1,by rw[(h1.box x.r).2.2];exact q2⟩
  have he:s.app (ER (u::us))=(s.app (A3 u.r u.lo u.news)).app (ER us):=by show s.app (A3 u.r u.lo u.news++ER us)=_;rw[A5]
  rw[he];refine⟨⟨h3.sl.trans h1.sl,h3.len.trans h1.len,λx=>⟨(h3.box x).1.trans (h1.box x).1,(h3.box x).2.1.trans (h1.box x).2.1,(h3.box x).2.2.trans (h1.box x).2.2⟩⟩,λr j=>?_⟩;grind
end
end Go.Ev
namespace Go.Ev
theorem B0.uniq{α:Type}{n:Nat}{R R':(Nat->Option Value)->α->Is->Prop}{own:Bool}{w:World}{fz uQ:Nat->Prop}{v:Value}{xs vJ:List α}{o o':Is}
  (h:B0 n R own w fz v xs o) (h':B0 n R' own w uQ v vJ o') (hr:∀g x y p q,R g x p->R' g y q->x=y/\p=q):xs=vJ/\o=o':=by
 obtain⟨A,c,hv,hc,h⟩:=h;obtain⟨A',c',wY,vL,h'⟩:=h';rw[hv]at wY;injection wY with e1 e2 e3
 subst e1;subst e3;cases A with
 |none=>
  have z1:xs=[]:=AAO (by have:=h.1;omega);grind
 |some a=>
  by_cases hc0:c=0
  ·have z1:xs=[]:=AAO J;have z2:vJ=[]:=AAO J;subst z1;subst z2;refine⟨rfl,?_⟩;cases own with
   |true=>
    grind
   |false=>
    grind
  ·rcases h with⟨_,h,_⟩|⟨g,os,uX,uk,ho⟩
   ·omega
   rcases h' with⟨_,h,_⟩|⟨g',vP,xk,hel',wb⟩
   ·omega
   have yg:g=g':=by funext j;rw[<-uX.cell j,<-xk.cell j]
   subst yg;have hlen:xs.length=vJ.length:=e2;have xA:∀i (h1:i<xs.length) (h2:i<vJ.length),xs[i]=vJ[i]/\os i=vP i:=λi h1 h2=>hr _ _ _ _ _ (uk i h1) (hel' i h2);have hxs:xs=vJ:=List.ext_getElem hlen λi h1 h2=>(xA i h1 h2).1;refine⟨hxs,?_⟩;cases own with
   |true=>
    have ho:o=a.block::(List.range xs.length).flatMap os:=ho;have wb:o'=a.block::(List.range vJ.length).flatMap vP:=wb;rw[ho,wb,<-hlen];congr 1
    have:∀(l:Is),(∀i∈l,i<xs.length)->l.flatMap os=l.flatMap vP:=by
     intro l
     induction l with
     |nil=>intro _;rfl
     |cons i l ih=>
      intro hi;rw[AAm,AAm,ih λk hk=>hi k (AAM _ hk),(xA i (hi i AAk) (hlen▸hi i AAk)).2]
    grind
   |false=>grind
mutual
theorem L.Ea:∀(l:L) {d:Nat} {w:World} {fz uQ:Nat->Prop} {v:Value} {x y:l.D} {o p:Is},l.rd d w fz v x o->l.rd d w uQ v y p->x=y/\o=p
 | .int _,_,_,_,_,_,_,_,_,_,h,h'=>by
  have:=h.1.symm.trans h'.1;injection this with _ e
  exact⟨e,h.2.trans h'.2.symm⟩
 | .bool,_,_,_,_,_,_,_,_,_,h,h'=>by
  have:=h.1.symm.trans h'.1;injection this with e
  exact⟨e,h.2.trans h'.2.symm⟩
 | .str,_,_,_,_,_,x,y,_,_,h,h'=>by
  have:=h.1.symm.trans h'.1;injection this with e
  have e2:List.toArray (show ADD from x)=List.toArray (show ADD from y):=by injection e
  have e3:(show ADD from x)=(show ADD from y):=by have:=congrArg Array.toList e2;simpa using this
  exact⟨e3,h.2.trans h'.2.symm⟩
 | .sl _ e,d,w,fz,uQ,v,x,y,o,p,h,h'=>by rw[L.Hu]at h h';exact B0.uniq h h' λg a b q r h1 h2=>Ls.Ea e h1 h2
theorem Ls.Ea:∀(ls:Ls) {d:Nat} {w:World} {fz uQ:Nat->Prop} {g:Nat->Option Value} {x y:ls.D} {o p:Is},ls.rd d w fz g x o->ls.rd d w uQ g y p->x=y/\o=p
 | .nil,_,_,_,_,_,x,y,_,_,h,h'=>⟨by cases x;cases y;rfl,by rw[show _=_ from h,show _=_ from h']⟩
 | .one l,_,_,_,_,_,_,_,_,_,h,h'=>by
  simp only[Ls.rd]at h h';obtain⟨v,hv,h⟩:=h;obtain⟨v',wY,h'⟩:=h';rw[hv]at wY;injection wY with wY;subst wY
  exact L.Ea l h h'
 | .cons l ls,_,_,_,_,_,x,y,_,_,h,h'=>by
  simp only[Ls.rd]at h h';obtain⟨v,o1,o2,hv,h1,h2,rfl⟩:=h;obtain⟨v',p1,p2,wY,vu,w5,rfl⟩:=h';rw[hv]at wY;injection wY with wY;subst wY
  obtain⟨a1,a2⟩:=L.Ea l h1 vu;obtain⟨b1,b2⟩:=Ls.Ea ls h2 w5;exact⟨Prod.ext a1 b1,by rw[a2,b2]⟩
end
theorem AE.uniq{e:Ls}{d:Nat}{w:World}{fz uQ:Nat->Prop}{v:Value}{xs ys:List e.D}{o p:Is}(h:AE e d w fz v xs o)(h':AE e d w uQ v ys p):xs=ys/\o=p:=
 L.Ea (.sl 0 e) h h'
def Nc(o p o' q:Is):Prop:=q.Nodup/\∀b∈q,b∈o'\/(b∈o/\b∉p)
structure NS(w w':World)(fz uQ:Nat->Prop)(o p o':Is):Prop where
 nd:o'.Nodup
 new:∀b∈o',b∈o->b∈p
 rest:∀b,(b∈o/\b∉p)\/fz b->w'.heap[b]?=w.heap[b]?
 fz:∀b,fz b->uQ b
theorem Hj{G:(t:TypeId)->(f:Ls)->Option (List f.D->List f.D)}{d:Nat}{w:World}{fz:Nat->Prop}:∀(e:Ls)(j:Nat) {F:e.D->e.D} {g:Nat->Option Value} {x:e.D} {o:Is} {t:TypeId} {f:Ls} {h:Value},
  EH e j G=some F->e.kinds[j]?=some (.sl t f)->e.rd d w fz g x o->g j=some h->o.Nodup->
  ∃fn ys p,G t f=some fn/\AE f d w fz h ys p/\(∀b∈p,b∈o)/\p.Nodup/\∀w' uQ o',AE f d w' uQ h (fn ys) o'->NS w w' fz uQ o p o'->∃q,e.rd d w' uQ g (F x) q/\Nc o p o' q
 | .nil,j,F,g,x,o,t,f,h,hm,hk,hr,hg,hn=>by simp[Ls.kinds]at hk
 | .one l,j+1,F,g,x,o,t,f,h,hm,hk,hr,hg,hn=>by simp[Ls.kinds]at hk
 | .one l,0,F,g,x,o,t,f,h,hm,hk,hr,hg,hn=>by
  simp[Ls.kinds]at hk;subst hk;simp only[Ls.rd]at hr;obtain⟨v,hv,hr⟩:=hr;rw[hg]at hv;injection hv with hv;subst hv
  simp only[EH]at hm;exact⟨F,x,o,hm,hr,λb hb=>hb,hn,λw' uQ o' vI hs=>⟨o',⟨h,hg,vI⟩,hs.nd,λb hb=>.inl hb⟩⟩
 | .cons l ls,0,F,g,x,o,t,f,h,hm,hk,hr,hg,hn=>by
  simp[Ls.kinds]at hk;subst hk;simp only[Ls.rd]at hr;obtain⟨v,o1,o2,hv,hr,zG,rfl⟩:=hr;rw[hg]at hv;injection hv with hv;subst hv
  simp only[EH]at hm;split at hm
  ·rename_i fn xw;injection hm with hm;subst hm
   obtain⟨n1,n2,n3⟩:=AAY.1 hn;refine⟨fn,x.1,o1,xw,hr,λb hb=>AAU _ hb,n1,λw' uQ o' vI hs=>⟨o'++o2,⟨h,o',o2,hg,vI,?_,rfl⟩,?_,?_⟩⟩
   ·exact Ls.AN ls zG (λb hb=>hs.rest b (hb.imp (λhb=>⟨AAR _ hb,λuZ=>n3 b uZ b hb rfl⟩) id)) hs.fz
   ·refine AAY.2 ⟨hs.nd,n2,λb hb c hc e=>?_⟩;subst e;exact n3 b (hs.new b hb (AAR _ hc)) b hc rfl
   grind
  ·cases hm
 | .cons l ls,j+1,F,g,x,o,t,f,h,hm,hk,hr,hg,hn=>by
  simp only[Ls.rd]at hr;obtain⟨v,o1,o2,hv,hr,zG,rfl⟩:=hr;simp only[EH]at hm;split at hm
  ·rename_i F2 hF;injection hm with hm;subst hm
   obtain⟨n1,n2,n3⟩:=AAY.1 hn;obtain⟨fn,ys,p,h1,h2,h3,h4,h5⟩:=Hj ls j (g:=λj=>g (j+1)) hF (by simpa[Ls.kinds]using hk) zG hg n2;refine⟨fn,ys,p,h1,h2,λb hb=>AAR _ (h3 b hb),h4,λw' uQ o' vI hs=>?_⟩;obtain⟨q,hq,hq1,hq2⟩:=h5 w' uQ o' vI ⟨hs.nd,λb hb uZ=>hs.new b hb (AAR _ uZ),λb hb=>hs.rest b (hb.imp (λhb=>⟨AAR _ hb.1,hb.2⟩) id),hs.fz⟩;have yO:∀b∈o1,b∉p:=λb hb hp=>n3 b hb b (h3 b hp) rfl;refine⟨o1++q,⟨v,o1,q,hv,?_,hq,rfl⟩,?_,?_⟩
   ·exact L.AN l hr (λb hb=>hs.rest b (hb.imp (λhb=>⟨AAU _ hb,yO b hb⟩) id)) hs.fz
   ·refine AAY.2 ⟨n1,hq1,λb hb c hc e=>?_⟩;subst e;rcases hq2 b hc with h6|h6
    ·exact yO b hb (hs.new b h6 (AAU _ hb))
    ·exact n3 b hb b h6.1 rfl
   grind
  ·cases hm
theorem E3{os:Nat->Is}:∀ {l:Is},l.Nodup->(∀i∈l,(os i).Nodup)->(∀i∈l,∀j∈l,i≠j->∀b∈os i,b∉os j)->(l.flatMap os).Nodup
 | [],_,_,_=>OF
 |x::l,h,h1,h2=>by obtain⟨hx,hl⟩:=AAc.1 h;rw[AAm];refine AAY.2 ⟨h1 x AAk,E3 hl (λi hi=>h1 i (AAM _ hi)) (λi hi j hj=>h2 i (AAM _ hi) j (AAM _ hj)),λb hb c hc e=>?_⟩;grind
theorem OW{G:(t:TypeId)->(f:Ls)->Option (List f.D->List f.D)}{w:World}{fz:Nat->Prop}:∀(p:List (Nat×Nat)) {t:TypeId} {e:Ls} {d:Nat} {h:Value} {xs:List e.D} {o:Is} {e':Ls} {v:Value} {F:List e.D->List e.D},
  Jq G p t e=some F->AE e d w fz h xs o->JL w p e h e' v->(p≠[]->d=2)->o.Nodup->
  ∃t' fn ys po,G t' e'=some fn/\AE e' d w fz v ys po/\(∀b∈po,b∈o)/\po.Nodup/\∀w' uQ o',AE e' d w' uQ v (fn ys) o'->NS w w' fz uQ o po o'->∃q,AE e d w' uQ h (F xs) q/\Nc o po o' q
 | [],t,e,d,h,xs,o,e',v,F,hm,hr,hn,hp,vd=>by obtain⟨rfl,rfl⟩:=hn;exact⟨t,F,xs,o,hm,hr,λb hb=>hb,vd,λw' uQ o' vI hs=>⟨o',vI,hs.nd,λb hb=>.inl hb⟩⟩
 |(i,j)::p,t,e,d,h,xs,o,e',v,F,hm,hr,hn,hp,vd=>by
  have hd:d=2:=hp OF;subst hd;obtain⟨a,len,c,t',f,h',rfl,hs,hi,hk,hc,hn⟩:=hn;obtain⟨A,cc,hv,hle,yP⟩:=hr;injection hv with hA hl hcc
  subst hA;subst hl;subst hcc;rcases yP with⟨h0,_⟩|⟨g,os,uX,uk,ho⟩
  ·simp at h0
  have ho:o=a.block::(List.range xs.length).flatMap os:=ho;have uk:∀i (h:i<xs.length),e.rd 2 w fz (λj=>g (i*e.n+j)) xs[i] (os i):=uk;simp only[Jq]at hm;split at hm
  ·rename_i H hH;injection hm with hm;subst hm
   rw[ho]at vd;obtain⟨nb,nf⟩:=AAc.1 vd;have vQ:∀m,m<xs.length->(os m).Nodup:=λm hm=>CC nf (AAX.2 hm);have vU:∀m,m<xs.length->∀k,k<xs.length->m≠k->∀b∈os m,b∉os k:=λm hm k hk uV=>CB nf (AAX.2 hm) (AAX.2 hk) uV;have uj:∀m,m<xs.length->a.block∉os m:=λm hm hb=>nb (AAL.2 ⟨m,AAX.2 hm,hb⟩);have hg:g (i*e.n+j)=some h':=by rw[<-uX.cell];exact hc
   obtain⟨fn,ys,po,h1,h2,h3,h4,h5⟩:=Hj e j hH hk (uk i hi) hg (vQ i hi);obtain⟨t2,fn2,zs,po2,g1,g2,g3,g4,g5⟩:=OW p h1 h2 hn (λ_=>rfl) h4;have uO:∀m,m<xs.length->∀b∈os m,b∈o:=λm hm b hb=>by rw[ho];exact AAM _ (AAL.2 ⟨m,AAX.2 hm,hb⟩)
   refine⟨t2,fn2,zs,po2,g1,g2,λb hb=>uO i hi b (h3 b (g3 b hb)),g4,λw' uQ o' vI wc=>?_⟩;obtain⟨q1,hq1,wH,hb1'⟩:=g5 w' uQ o' vI ⟨wc.nd,λb hb uZ=>wc.new b hb (uO i hi b (h3 b uZ)),λb hb=>wc.rest b (hb.imp (λhb=>⟨uO i hi b (h3 b hb.1),hb.2⟩) id),wc.fz⟩;have zE:∀b∈po2,b∈os i:=λb hb=>h3 b (g3 b hb)
   obtain⟨q2,hq2,w6,hb2'⟩:=h5 w' uQ q1 hq1 ⟨wH,λb hb uZ=>by
     rcases hb1' b hb with h6|h6
     ·exact g3 b (wc.new b h6 (uO i hi b uZ))
     ·exact h6.1,λb hb=>wc.rest b (hb.imp (λhb=>⟨uO i hi b hb.1,λh7=>hb.2 (g3 b h7)⟩) id),wc.fz⟩
   have hq2o:∀b∈q2,b∈o'\/(b∈os i/\b∉po2):=by
    intro b hb;rcases hb2' b hb with h6|h6
    ·rcases hb1' b h6 with h7|h7
     ·exact .inl h7
     ·exact .inr ⟨h3 b h7.1,h7.2⟩
    ·exact .inr ⟨h6.1,λh7=>h6.2 (g3 b h7)⟩
   let vP:Nat->Is:=λm=>if m=i then q2 else os m
   have xk:Row w' a (c*e.n) true g:=uX.frame (wc.rest _ (.inl ⟨by rw[ho];simp,λh7=>uj i hi (zE _ h7)⟩));have hlen:(xs.modify i H).length=xs.length:=OF
   refine⟨a.block::(List.range xs.length).flatMap vP,⟨some a,c,OF,by simpa using hle,.inr ⟨g,vP,xk,λm hm=>?_,?_⟩⟩,?_,?_⟩
   ·have vy:m<xs.length:=ADV
    show e.rd 2 w' uQ _ (xs.modify i H)[m] (vP m);rw[List.getElem_modify];by_cases wK:i=m
    ·subst wK;rw[AAP rfl,show vP i=q2 from AAP rfl];exact hq2
    ·rw[AAQ wK,show vP m=os m from AAQ λe=>wK e.symm];exact Ls.AN e (uk m vy) (λb hb=>wc.rest b (hb.imp (λhb=>⟨uO m vy b hb,λh7=>vU m vy i hi (λe=>wK e.symm) b hb (zE b h7)⟩) id)) wc.fz
   ·show a.block::(List.range xs.length).flatMap vP=a.block::(List.range (xs.modify i H).length).flatMap vP;rw[hlen]
   ·refine AAc.2 ⟨λhb=>?_,E3 List.nodup_range (λm hm=>?_) (λm hm k hk uV b hb uZ=>?_)⟩
    ·obtain⟨m,hm,hb⟩:=AAL.1 hb;have hm:=AAX.1 hm;by_cases wK:m=i
     ·subst wK;rw[show vP m=q2 from AAP rfl]at hb;rcases hq2o _ hb with h6|h6
      ·exact uj m hm (zE _ (wc.new _ h6 (by rw[ho];simp)))
      ·exact uj m hm h6.1
     ·rw[show vP m=os m from AAQ wK]at hb;exact uj m hm hb
    ·have hm:=AAX.1 hm;by_cases wK:m=i
     ·rw[show vP m=q2 from AAP wK];exact w6
     ·rw[show vP m=os m from AAQ wK];exact vQ m hm
    ·have hm:=AAX.1 hm;have hk:=AAX.1 hk;by_cases wK:m=i
     ·have hki:k≠i:=λe=>uV (wK.trans e.symm);rw[show vP m=q2 from AAP wK]at hb;rw[show vP k=os k from AAQ hki]at uZ;rcases hq2o b hb with h6|h6
      ·exact vU k hk i hi hki b uZ (zE b (wc.new b h6 (uO k hk b uZ)))
      ·exact vU k hk i hi hki b uZ h6.1
     ·rw[show vP m=os m from AAQ wK]at hb;by_cases hki:k=i
      ·rw[show vP k=q2 from AAP hki]at uZ;rcases hq2o b uZ with h6|h6
       ·exact vU m hm i hi wK b hb (zE b (wc.new b h6 (uO m hm b hb)))
       ·exact vU m hm i hi wK b hb h6.1
      ·rw[show vP k=os k from AAQ hki]at uZ;exact vU m hm k hk uV b hb uZ
   grind
  ·cases hm
theorem IY{β:Type}{d:Nat}{w:World}{fz:Nat->Prop}{k:(t:TypeId)->(f:Ls)->List f.D->Step β}{t:β}:∀(e:Ls)(j:Nat) {g:Nat->Option Value} {x:e.D} {o:Is} {t':TypeId} {f:Ls} {h:Value},
  (I4 e j x k).leads t->e.rd d w fz g x o->e.kinds[j]?=some (.sl t' f)->g j=some h->o.Nodup->∃(ys:List f.D) (o':Is),(k t' f ys).leads t/\AE f d w fz h ys o'/\(∀b∈o',b∈o)/\o'.Nodup
 | .nil,j,_,_,_,_,_,_,hl,_,_,_,_=>hl.elim
 | .one l,0,g,x,o,t',f,h,hl,hr,hk,hg,hn=>by
  simp only[Ls.rd]at hr;obtain⟨v,hv,hr⟩:=hr;simp[Ls.kinds]at hk;subst hk;rw[hg]at hv;injection hv with hv;subst hv
  exact⟨x,o,hl,hr,λb hb=>hb,hn⟩
 | .one _,_+1,_,_,_,_,_,_,hl,_,_,_,_=>hl.elim
 | .cons l ls,0,g,x,o,t',f,h,hl,hr,hk,hg,hn=>by
  simp only[Ls.rd]at hr;obtain⟨v,o1,o2,hv,hr,zG,rfl⟩:=hr;simp[Ls.kinds]at hk;subst hk;rw[hg]at hv;injection hv with hv;subst hv
  exact⟨x.1,o1,hl,hr,λb hb=>AAU _ hb,(AAY.1 hn).1⟩
 | .cons l ls,j+1,g,x,o,t',f,h,hl,hr,hk,hg,hn=>by simp only[Ls.rd]at hr;obtain⟨v,o1,o2,hv,hr,zG,rfl⟩:=hr;obtain⟨ys,o',a,b,c,d⟩:=IY ls j (g:=λj=>g (j+1)) hl zG (by simpa[Ls.kinds]using hk) hg (AAY.1 hn).2.1;grind
theorem Jk{β:Type}{w:World}{fz:Nat->Prop}{k:(t:TypeId)->(e:Ls)->List e.D->Nat->Step β}{z:β}:∀(p:List (Nat×Nat)) {t0:TypeId} {e:Ls} {xs:List e.D} {d:Nat} {h:Value} {o:Is} {e':Ls} {v:Value},
  (OT k p t0 e xs d).leads z->AE e d w fz h xs o->JL w p e h e' v->(p≠[]->d=2)->o.Nodup->∃(t':TypeId) (ys:List e'.D) (o':Is),(k t' e' ys d).leads z/\AE e' d w fz v ys o'/\(∀b∈o',b∈o)/\o'.Nodup
 | [],t0,e,xs,d,h,o,e',v,hl,hr,hn,hp,vd=>by obtain⟨rfl,rfl⟩:=hn;exact⟨t0,xs,o,hl,hr,λb hb=>hb,vd⟩
 |(i,j)::p,t0,e,xs,d,h,o,e',v,hl,hr,hn,hp,vd=>by
  have hd:d=2:=hp OF;subst hd;obtain⟨a,len,c,t',f,h',rfl,hs,hi,hk,hc,hn⟩:=hn;obtain⟨A,cc,hv,hle,yP⟩:=hr;injection hv with hA wB hcc
  subst hA;subst wB;subst hcc;rcases yP with⟨h0,_⟩|⟨g,os,uX,uk,ho⟩
  ·simp at h0
  have ho:o=a.block::(List.range xs.length).flatMap os:=ho;have uk:∀i (h:i<xs.length),e.rd 2 w fz (λj=>g (i*e.n+j)) xs[i] (os i):=uk;obtain⟨x,hx,hl⟩:=hl;rw[AAI hi]at hx;injection hx with hx;subst hx
  have hg:g (i*e.n+j)=some h':=by rw[<-uX.cell];exact hc
  rw[ho]at vd;obtain⟨nb,nf⟩:=AAc.1 vd;obtain⟨ys,o',hl,uW,vS,hnd'⟩:=IY e j hl (uk i hi) hk hg (CC nf (AAX.2 hi));obtain⟨t2,zs,o2,hl,hz,yE,hn2⟩:=Jk p hl uW hn (λ_=>rfl) hnd';exact⟨t2,zs,o2,hl,hz,λb hb=>No,hn2⟩
end Go.Ev
namespace Go.Ev
def GH(ovs:Nat->Is)(o:Is):Prop:=(∀m,(ovs m).Nodup)/\(∀m m',m≠m'->∀b∈ovs m,b∉ovs m')/\∀m,∀b∈ovs m,b∉o
theorem GH.sub{ovs:Nat->Is}{o o':Is}(h:GH ovs o)(hs:∀b∈o',b∈o):GH ovs o':=⟨h.1,h.2.1,λm b hb uZ=>h.2.2 m b hb (hs b uZ)⟩
theorem Cn{w:World}{fz:Nat->Prop}{d:Nat}{ovs:Nat->Is}:∀(e:Ls)(off:Nat)(vs:List Lv)(cells:ADM)(sh:Nat) {f:e.D->e.D} {g g':Nat->Option Value} {x:e.D} {o:Is},Bh e off vs=some f->cells.length=vs.length->
  (∀(m:Nat)(lv:Lv),vs[m]?=some lv->∃u,cells[m]?=some u/\lv.l.rd d w fz u lv.x (ovs (sh+m)))->e.rd d w fz g x o->(∀m,m<e.n->g' m=if off<=m/\m<off+vs.length then cells[m-off]? else g m)->
  off+vs.length<=e.n/\∃o',e.rd d w fz g' (f x) o'/\(∀b∈o',b∈o\/∃m,sh<=m/\b∈ovs m)/\(o.Nodup->GH ovs o->o'.Nodup)
 | .nil,off,vs,cells,sh,f,g,g',x,o,hf,hl,hp,hr,hg=>by simp[Bh]at hf
 | .one l,off,vs,cells,sh,f,g,g',x,o,hf,hl,hp,hr,hg=>by
  simp only[Bh]at hf;split at hf
  ·rename_i v;split at hf
   ·rename_i y hy;injection hf with hf;subst hf
    obtain⟨l',z⟩:=v;obtain⟨e1,e2⟩:=L.AH hy;dsimp only at e1;subst e1;have e2:z=y:=e2;subst e2;obtain⟨u,hu,uY⟩:=hp 0 ⟨l',z⟩ rfl;refine⟨by simp[Ls.n],ovs sh,?_,λb hb=>.inr ⟨sh,AAb _,hb⟩,λ_ hn=>hn.1 sh⟩;simp only[Ls.rd];refine⟨u,?_,J⟩;rw[hg 0 (by simp[Ls.n]),AAP OF,<-hu]
   ·cases hf
  ·cases hf
 | .cons l ls,off,vs,cells,sh,f,g,g',x,o,hf,hl,hp,hr,hg=>by
  simp only[Bh]at hf;simp only[Ls.rd]at hr;obtain⟨v0,o1,o2,xp,h1,h2,rfl⟩:=hr;cases off with
  |zero=>
   simp only at hf;split at hf
   ·cases hf
   ·rename_i v;split at hf
    ·rename_i y hy;injection hf with hf;subst hf
     obtain⟨l',z⟩:=v;obtain⟨e1,e2⟩:=L.AH hy;dsimp only at e1;subst e1;have e2:z=y:=e2;subst e2;obtain⟨u,hu,uY⟩:=hp 0 ⟨l',z⟩ rfl;refine⟨by simp[Ls.n]<;>omega,ovs sh++o2,?_,λb hb=>?_,λhn hk=>?_⟩
     ·simp only[Ls.rd];refine⟨u,ovs sh,o2,?_,J,Ls.BP ls h2 λj hj=>by rw[hg (j+1) (by simp[Ls.n]<;>omega),AAQ OF],rfl⟩;rw[hg 0 (by simp[Ls.n]<;>omega),AAP OF,<-hu]
     ·grind
     ·refine AAY.2 ⟨hk.1 sh,(AAY.1 hn).2.1,λa ha b hb e=>?_⟩;subst e;exact hk.2.2 sh a ha (AAR _ hb)
    ·cases hf
   ·rename_i v u0 xY;split at hf
    ·rename_i y f' hy yW;injection hf with hf;subst hf
     obtain⟨l',z⟩:=v;obtain⟨e1,e2⟩:=L.AH hy;dsimp only at e1;subst e1;have e2:z=y:=e2;subst e2;obtain⟨u,hu,uY⟩:=hp 0 ⟨l',z⟩ rfl
     obtain⟨c0,cs,rfl⟩:∃c0 cs,cells=c0::cs:=by
      cases cells with
      |nil=>simp at hl
      |cons c cs=>grind
     obtain⟨ih1,o',ih2,ih3,ih4⟩:=Cn ls 0 (u0::xY) cs (sh+1) (g':=λj=>g' (j+1)) yW No (λm lv hm=>by
       have:=hp (m+1) lv No;rw[show sh+(m+1)=sh+1+m by omega]at this;simpa using this) h2 (λm hm=>by
       rw[hg (m+1) (by simp[Ls.n]<;>omega)];grind)
     refine⟨by simp[Ls.n]at ih1 ⊢ <;> omega,ovs sh++o',?_,λb hb=>?_,λhn hk=>?_⟩
     ·simp only[Ls.rd];refine⟨u,ovs sh,o',?_,J,ih2,rfl⟩;rw[hg 0 (by simp[Ls.n]<;>omega),AAP OF,<-hu]
     ·grind
     ·refine AAY.2 ⟨hk.1 sh,ih4 (AAY.1 hn).2.1 (hk.sub λb hb=>AAR _ hb),λa ha b hb e=>?_⟩;subst e;rcases ih3 a hb with hb|⟨m,hm,hb⟩
      ·exact hk.2.2 sh a ha (AAR _ hb)
      ·exact hk.2.1 sh m J a ha hb
    ·cases hf
  |succ off=>
   simp only at hf;split at hf
   ·rename_i f' yW;injection hf with hf;subst hf
    obtain⟨ih1,o',ih2,ih3,ih4⟩:=Cn ls off vs cells sh (g':=λj=>g' (j+1)) yW hl hp h2 (λm hm=>by
     rw[hg (m+1) (by simp[Ls.n]<;>omega)];grind)
    refine⟨by simp[Ls.n]<;>omega,o1++o',?_,λb hb=>?_,λhn hk=>?_⟩
    ·simp only[Ls.rd];refine⟨v0,o1,o',?_,h1,ih2,rfl⟩;rw[hg 0 (by simp[Ls.n]<;>omega),AAQ J];exact xp
    ·grind
    ·refine AAY.2 ⟨(AAY.1 hn).1,ih4 (AAY.1 hn).2.1 (hk.sub λb hb=>AAR _ hb),λa ha b hb e=>?_⟩;subst e;rcases ih3 a hb with hb|⟨m,_,hb⟩
     ·grind
     ·exact hk.2.2 m a hb (AAU _ ha)
   ·cases hf
theorem Kq{e:Ls}{w:World}{fz:Nat->Prop}{a:Addr}{n k:Nat}{xs:List e.D}{o:Is}(hr:AE e 2 w fz (.slice (some a) n k) xs o)(hn:o.Nodup)(hz:∀b∈o,¬fz b){i:Nat}(hi:i<n)
  {off:Nat} {cells:ADM} {F:e.D->e.D} {ovs:Nat->Is} (hk:GH ovs o) (hkz:∀m,∀b∈ovs m,¬fz b) (vD:off+cells.length<=e.n)
  (hF:∀g g' x oo,e.rd 2 w fz g x oo->(∀m,m<e.n->g' m=if off<=m/\m<off+cells.length then cells[m-off]? else g m)->∃o',e.rd 2 w fz g' (F x) o'/\(∀b∈o',b∈oo\/∃m,b∈ovs m)/\(oo.Nodup->GH ovs oo->o'.Nodup)):
  a.spot=none/\∃arr T fr,w.heap[a.block]?=some (.cells arr T fr)/\(∀j,j<arr.size->¬(fr.1<=j/\j<fr.2))/\a.off+(i*e.n+off)+cells.length<=arr.size/\a.block∈o/\
   ∃o',o'.Nodup/\(∀b∈o',b∈o\/∃m,b∈ovs m)/\∀w',NR w w' a.block (B7 cells (a.off+(i*e.n+off)) arr) T fr->AE e 2 w' fz (.slice (some a) n k) (xs.modify i F) o':=by
 obtain⟨A,c,hv,hc,_,vF⟩:=hr.LG;injection hv with hA hl vh
 subst hA;subst hl;subst vh;obtain⟨arr,T,fr,os,hs,hh,uh,uc,uk,ho,_⟩:=vF a rfl (.inr J);have ho:=ho J;have uc:=uc J
 have hmul:i*e.n+e.n<=k*e.n:=by have:(i+1)*e.n<=k*e.n:=AAo _ J;rw[AAp,ABM]at this;omega
 have wj:a.off+(i*e.n+off)+cells.length<=arr.size:=J
 have uO:a.block∈o:=by rw[ho];simp
 have ud:=Ce cells (a.off+(i*e.n+off)) arr wj;have vd:=hn;rw[ho]at vd;obtain⟨yN,hnf⟩:=AAc.1 vd;have vb:∀m,m<xs.length->∀b∈os m,b∈o:=λm hm b hb=>No
 obtain⟨oi,uW,vS,zm⟩:=hF _ (λq=>(B7 cells (a.off+(i*e.n+off)) arr)[a.off+(i*e.n+q)]?) _ _ (uk i hi) (λq hq=>by
  show(B7 cells (a.off+(i*e.n+off)) arr)[a.off+(i*e.n+q)]?=_;rw[ud];by_cases hc:off<=q/\q<off+cells.length
  ·rw[AAP J,AAP hc];congr 1;omega
  grind)
 have zm:=zm (CC hnf (AAX.2 hi)) (hk.sub (vb i hi))
 let vP:Nat->Is:=λm=>if m=i then oi else os m
 have hos':∀m,m<xs.length->∀b∈vP m,b∈os m\/∃q,b∈ovs q:=by
  intro m hm b hb;simp only[vP]at hb;split at hb
  ·grind
  ·exact .inl hb
 have hnoblk:∀m,m<xs.length->a.block∉vP m:=by
  intro m hm hb;rcases hos' m hm _ hb with hb|⟨q,hb⟩
  ·grind
  ·exact hk.2.2 q _ hb uO
 refine⟨hs,arr,T,fr,hh,uc,wj,uO,a.block::(List.range xs.length).flatMap vP,?_,?_,λw' uf=>?_⟩
 ·refine AAc.2 ⟨λhb=>?_,E3 List.nodup_range (λm hm=>?_) λm hm m' vy uV b hb uZ=>?_⟩
  ·grind
  ·grind
  ·have hd:=CB hnf hm vy uV;simp only[vP]at hb uZ;split at hb
   ·rename_i e1;split at uZ
    ·omega
    ·subst e1;rcases vS b hb with hb|⟨q,hb⟩
     ·grind
     ·exact hk.2.2 q b hb (vb m' (AAX.1 vy) b uZ)
   ·split at uZ
    ·rename_i e2;subst e2;rcases vS b uZ with uZ|⟨q,uZ⟩
     ·exact hd b hb uZ
     ·exact hk.2.2 q b uZ (vb m (AAX.1 hm) b hb)
    grind
 ·grind
 ·refine⟨some a,k,OF,ADc,?_⟩;refine .inr ⟨λq=>(B7 cells (a.off+(i*e.n+off)) arr)[a.off+q]?,vP,⟨hs,_,T,fr,uf.here,by rw[Aq];exact uh,λ_=>by rw[Aq];exact uc,λ_=>rfl⟩,λm hm=>?_,?_⟩
  ·have vy:m<xs.length:=ADV
   rw[E9]
   have wA:∀ {g x},e.rd 2 w fz g x (vP m)->e.rd 2 w' fz g x (vP m):=λh=>Ls.AN e h (λb hb=>uf.CY b (by
    rintro rfl
    rcases hb with hb|hb
    ·exact hnoblk m vy hb
    ·exact hz _ uO hb)) λ_ hb=>hb
   by_cases wK:i=m
   ·subst wK;rw[AAP rfl];refine wA ?_;have:vP i=oi:=by simp[vP]
    rw[this];exact uW
   ·rw[AAQ wK];have:vP m=os m:=by simp only[vP];rw[AAQ (λe=>wK e.symm)]
    refine wA ?_;rw[this];refine Ls.BP e (uk m vy) λq hq=>?_;show(B7 cells (a.off+(i*e.n+off)) arr)[a.off+(m*e.n+q)]?=_;rw[ud,AAQ];intro hc;rcases ABH wK with h1|h1
    ·have:(i+1)*e.n<=m*e.n:=AAo _ h1;rw[AAp,ABM]at this;omega
    ·have:(m+1)*e.n<=i*e.n:=AAo _ h1;rw[AAp,ABM]at this;omega
  grind
theorem MG{vs:List Lv}{cells:ADM}{w:World}{fz:Nat->Prop}{ovs:Nat->Is}(hl:cells.length=vs.length)(hp:∀(m:Nat)(lv:Lv),vs[m]?=some lv->∃u,cells[m]?=some u/\lv.l.rd 2 w fz u lv.x (ovs m))(wi:∀m,vs.length<=m->ovs m=[])
  {i off:Nat} {e:Ls} {a:Addr} {n k:Nat} (hi:i<n) {xs:List e.D} {o:Is} {f:List e.D->List e.D} (hm:I6 vs [(i,off)] e=some f) (hr:AE e 2 w fz (.slice (some a) n k) xs o) (hn:o.Nodup) (hz:∀b∈o,¬fz b) (hk:GH ovs o) (hkz:∀m,∀b∈ovs m,¬fz b):
  a.spot=none/\∃arr T fr,w.heap[a.block]?=some (.cells arr T fr)/\(∀j,j<arr.size->¬(fr.1<=j/\j<fr.2))/\a.off+(i*e.n+off)+cells.length<=arr.size/\a.block∈o/\
   ∃o',o'.Nodup/\(∀b∈o',b∈o\/∃m,b∈ovs m)/\∀w',NR w w' a.block (B7 cells (a.off+(i*e.n+off)) arr) T fr->AE e 2 w' fz (.slice (some a) n k) (f xs) o':=by
 simp only[I6]at hm;split at hm
 ·rename_i y hy;injection hm with hm;subst hm
  split at hy
  ·rename_i hc;simp only[AAJ,AAT]at hc;obtain⟨rfl,hlen⟩:=hc;have xI:=Ay e vs y hy
   have:=Kq (F:=λ_=>y) (off:=0) (cells:=cells) (ovs:=ovs) hr hn hz hi hk hkz J (λg g' x oo hx hg=>⟨_,DU e (os:=ovs) (λj lv hj=>by
     grind),λb hb=>by
     grind,λ_ hk=>Dw hk.1 hk.2.1 _⟩)
   simpa only[FF]using this
  ·cases hy
 ·split at hm
  ·rename_i f' yW;injection hm with hm;subst hm
   have hp':∀(m:Nat)(lv:Lv),vs[m]?=some lv->∃u,cells[m]?=some u/\lv.l.rd 2 w fz u lv.x (ovs (0+m)):=λm lv hm=>No
   obtain⟨A,c,hv,hc,_,vF⟩:=hr.LG;injection hv with hA wB vh
   subst hA;subst wB;subst vh;obtain⟨arr,T,fr,os,_,_,_,_,uk,_,_⟩:=vF a rfl (.inr J);have vD:=(Cn e off vs cells 0 (g':=λm=>if off<=m/\m<off+vs.length then cells[m-off]? else _) yW hl hp' (uk i hi) λm _=>rfl).1
   exact Kq (F:=f') (off:=off) (cells:=cells) (ovs:=ovs) hr hn hz hi hk hkz J (λg g' x oo hx hg=>by
    obtain⟨_,o',q1,q2,q3⟩:=Cn e off vs cells 0 (g':=g') (ovs:=ovs) yW hl hp' hx λm hm=>by rw[hg m hm,hl]
    grind)
  ·cases hm
section
variable {P:Program}{E:Ck}{s:St}{W:Wd}{v:Nat}{tm:Array Value}
def IP(W:Wd)(w':World)(r j:Nat)(o':Is)(us:List (Nat×Nat)):Wd:=
 { W with w:=w',om:=λk=>match k with
   | .lf a b=>if a=r/\b=j then o' else if(a,b)∈us then []else W.om (.lf a b)
   |k=>W.om k }
theorem AW.Ld(h:AW E s tm W)(hv:Aj s v){r j AB gen:Nat}{t:TypeId}{e:Ls}{xs vJ:List e.D}(hl:s.leaf r j=.arr AB gen t e xs 2){u:Value}(uv:W.cv r j=some u){us:List (Nat×Nat)}(hus:(r,j)∉us)
  {w':World} {blk:Nat} (uj:blk∈W.om (.lf r j)) (hw:∀b,b≠blk->w'.heap[b]?=W.w.heap[b]?) (uh:w'.heap.size=W.w.heap.size) (ug:w'.os=W.w.os/\w'.tape=W.w.tape/\w'.output=W.w.output)
  {o':Is} (vd:o'.Nodup) (va:∀b∈o',b∈W.om (.lf r j)\/∃a c,(a,c)∈us/\b∈W.om (.lf a c)) (uW:AE e 2 w' W.fz u vJ o'):
  AW E (s.app (gone us++[.leaf r j (.arr AB v t e vJ 2)])) tm (IP W w' r j o' us):=by
 obtain⟨hr,hj⟩:=I5 hl;rw[A5];show AW E ((s.app (gone us)).AG (.leaf r j (.arr AB v t e vJ 2))) tm _;obtain⟨w8,wX⟩:=De s us;have yE:=BY (s.app (gone us)) r j (.arr AB v t e vJ 2);have zj:=Fc (s.app (gone us)) r j (.arr AB v t e vJ 2);generalize (s.app (gone us)).AG (.leaf r j (.arr AB v t e vJ 2))=s' at yE zj;have uS:JS s s':=⟨yE.sl.trans w8.sl,yE.len.trans w8.len,λx=>⟨(yE.box x).1.trans (w8.box x).1,(yE.box x).2.1.trans (w8.box x).2.1,(yE.box x).2.2.trans (w8.box x).2.2⟩⟩
 have uM:∀a b,s'.leaf a b=if a=r/\b=j then .arr AB v t e vJ 2 else if(a,b)∈us then .bad else s.leaf a b:=by
  intro a b;rw[zj,wX];by_cases hc:a=r/\b=j
  ·obtain⟨rfl,rfl⟩:=hc;rw[AAP ⟨rfl,rfl,by rw[w8.len];exact hr,by rw[(w8.box a).2.2];exact hj⟩,AAP ⟨rfl,rfl⟩]
  ·grind
 have yA:∀k,∀b∈W.om k,k≠.lf r j->b≠blk:=λk b hb hk e=>h.sep.A7 k _ hk b hb (e▸uj);have wJ:∀b,W.fz b->b≠blk:=λb hb e=>(h.sep.own _ _ uj).1 (e▸hb);refine h.MH (W':=IP W w' r j o' us) hv uS (λa b=>(a=r/\b=j)\/(a,b)∈us) (λ_=>False) (λa b hc=>?_) (λ_ _ _=>rfl) (λ_ _ hh=>hh.elim) (λ_=>rfl) (λa b hc=>?_) (λ_=>rfl) (λb hb=>?_) (λb hb=>hb) ?_ ?_ (λ_ a b hc=>?_) (λ_ hh=>hh.elim)
 ·grind
 ·show(if a=r/\b=j then o' else if(a,b)∈us then []else W.om (.lf a b))=_;grind
 ·refine hw b ?_;grind
 ·intro a b AB gen t e xs d hc hl uV;refine⟨rfl,?_⟩;grind
 ·refine h.sep.IH (W':=IP W w' r j o' us) (λk=>match k with
   | .lf a b=>(a=r/\b=j)\/(a,b)∈us
   |_=>False) rfl (by show _<=w'.heap.size;omega) (λb h1 h2=>hw b λe=>?_) ug (λk hk=>?_) (λk hk=>?_) (λk k' hk vh uV b hb uZ=>?_) λk hk b hb=>?_
  ·have:=(h.sep.own _ _ uj).2.2;grind
  ·cases k with
   |lf a b=>
    show(if a=r/\b=j then o' else if(a,b)∈us then []else W.om (.lf a b))=_;grind
   |_=>rfl
  ·cases k with
   |lf a b=>
    show(if a=r/\b=j then o' else if(a,b)∈us then []else W.om (.lf a b)).Nodup;grind
   |_=>exact hk.elim
  ·have one:∀k:Key,(match k with | .lf a b=>(a=r/\b=j)\/(a,b)∈us|_=>False)->∀b∈(IP W w' r j o' us).om k,k=.lf r j:=by
    intro k hk b hb;cases k with
    |lf a c=>
     have hb:b∈(if a=r/\c=j then o' else if(a,c)∈us then []else W.om (.lf a c)):=hb;split at hb
     ·rename_i hh;obtain⟨rfl,rfl⟩:=hh;rfl
     ·rename_i hh;rw[AAP (hk.resolve_left hh)]at hb;cases hb
    |_=>exact hk.elim
   grind
  ·cases k with
   |lf a c=>
    have hb:b∈(if a=r/\c=j then o' else if(a,c)∈us then []else W.om (.lf a c)):=hb;grind
   |_=>exact hk.elim
 ·show Aa s' (IP W w' r j o' us) (s'.leaf a b) (W.cv a b) (if a=r/\b=j then o' else if(a,b)∈us then []else W.om (.lf a b));rw[uM];by_cases hh:a=r/\b=j
  ·rw[AAP hh,AAP hh];obtain⟨rfl,rfl⟩:=hh;exact⟨u,uv,uW⟩
  ·rw[AAQ hh,AAQ hh,AAP (hc.resolve_left hh),AAP (hc.resolve_left hh)];exact⟨rfl,λ_ _=>trivial⟩
end
end Go.Ev
namespace Go.Ev
section
variable {P:Program}
theorem NV{t t0 ty:TypeId}{e:Ls}(vT:P.underlying t=some (.slice t0))(uk:Nd P t0 e)(hf:B1 e=true){w:World}{fz fz2:Nat->Prop}(wJ:∀b,fz b->b<w.heap.size){ux uy:Value}{xs ys:List e.D}{o1:Is}
  (hx:AE e 2 w fz ux xs o1) (hy:AE e 0 w fz2 uy ys []) (hlen:xs.length+ys.length<=E8):
  ∃u w',(Builtin.append_ #[t,t] ty #[ux,uy]).run P w=.ok u w'/\(w'.os=w.os/\w'.tape=w.tape/\w'.output=w.output)/\w.heap.size<=w'.heap.size/\(∀b,b<w.heap.size->b∉o1->w'.heap[b]?=w.heap[b]?)/\
   AE e 2 w' fz ux xs o1/\∃o',AE e 2 w' fz u (xs++ys) o'/\∀b∈o',b∈o1\/(w.heap.size<=b/\b<w'.heap.size):=by
 obtain⟨i,hi,uh,zc,z,hz,yG⟩:=uk.info;have xg:=uk.pos;have vN:xs.length+ys.length<=68719476736:=hlen;have hdep:=hx.dep
 have wL:∃A c g,uy=.slice A ys.length c/\(A=none->ys=[])/\(∀ad,A=some ad->ys≠[]->ad.spot=none/\∀k,w.cell? (at_ ad k)=g k)/\C7 e 2 w fz g ys λ_=>[]:=by
  obtain⟨A,c,hv,hc,hn,vF⟩:=hy.LG;cases A with
  |none=>
   have:ys=[]:=AAO No;subst this;exact⟨none,c,λ_=>none,hv,λ_=>rfl,(λad wD _=>by cases wD),(λi hi=>by simp at hi)⟩
  |some ad=>
   by_cases hc0:c=0
   ·have:ys=[]:=AAO J;subst this;exact⟨some ad,c,λ_=>none,hv,λ_=>rfl,(λad wD uV=>absurd rfl uV),(λi hi=>by simp at hi)⟩
   obtain⟨arr,T,fr,os,hs,hh,_,_,uk,_,_⟩:=vF ad rfl (.inl J);refine⟨some ad,c,_,hv,(λhA=>by cases hA),?_,C7.flat hf uk 2 w fz⟩;intro ad' wD _;injection wD with wD;subst wD
   exact⟨hs,λk=>by simp[World.cell?,at_,hh]⟩
 obtain⟨A1,c1,hux,hc1,hA1,w8⟩:=hx.LG;obtain⟨A2,c2,g2,huy,hA2,yE,xA⟩:=wL
 have zA:∃news:ADM,news.length=ys.length*e.n/\(∀k,k<ys.length*e.n->news[k]?=g2 k)/\(∀v∈news,v.oneCell'=true)/\
   (Builtin.firstCells i.size ys.length (.slice A2 ys.length c2)).run P w=.ok news.toArray w/\∀ad,A2=some ad->∀j u,news[j]?=some u->w.cell? (ad.add j)=some u:=by
  have ur:=xA.cell
  have wZ:∀ad,A2=some ad->∀j u,(Bo g2 (ys.length*e.n))[j]?=some u->w.cell? (ad.add j)=some u:=by
   intro ad wD j u hj;have uR:j<ys.length*e.n:=by have:=(AAK.1 hj).1;rwa[Ab]at this
   rw[CL ur j uR]at hj;obtain⟨hs,hg⟩:=yE ad wD (λh0=>by grind);rw[Ez hs,hg,hj]
  refine⟨Bo g2 (ys.length*e.n),Ab _ _,CL ur,HX ur,?_,wZ⟩;cases hA:A2 with
  |none=>
   have:=hA2 hA;subst this;rw[run_firstCells_none];simp[Bo]
  |some ad=>exact run_firstCells_some w i.size ys.length ad ys.length c2 _ (by rw[Ab,uh]) (wZ ad hA)
 obtain⟨news,wa,hng,hn1',hnf,wx⟩:=zA
 have fresh:∀(arr:Array Value)(cap:Nat),xs.length+ys.length<=cap->cap*e.n<=arr.size->C7 e 2 w fz (λk=>arr[k]?) xs (λ_=>[])->(∀k,k<ys.length*e.n->arr[xs.length*e.n+k]?=g2 k)->
   AE e 2 (w.drew.alloc (.cells arr t0)) fz ux xs o1/\(∀b,b<w.heap.size->b∉o1->(w.drew.alloc (.cells arr t0)).heap[b]?=w.heap[b]?)/\w.heap.size<=(w.drew.alloc (.cells arr t0)).heap.size/\
   ∃o',AE e 2 (w.drew.alloc (.cells arr t0)) fz (.slice (some ⟨w.heap.size,0,none⟩) (xs.length+ys.length) cap) (xs++ys) o'/\∀b∈o',b∈o1\/(w.heap.size<=b/\b<(w.drew.alloc (.cells arr t0)).heap.size):=by
  intro arr cap vp vR xJ hy1;have hold:∀b,b<w.heap.size->(w.drew.alloc (.cells arr t0)).heap[b]?=w.heap[b]?:=λb hb=>Bj w.drew _ hb;refine⟨hx.frame (λb hb=>hold b (hb.elim (hdep b) (wJ b))) λ_ hb=>hb,λb hb _=>hold b hb,No,?_⟩
  have xN:C7 e 2 (w.drew.alloc (.cells arr t0)) fz (λk=>arr[0+k]?) (xs++ys) λi=>if i<xs.length then []else []:=by
   refine C7.append (os:=λ_=>[]) (vP:=λ_=>[]) ?_ ?_
   ·exact C7.congr (g:=λk=>arr[k]?) (xJ.flat hf 2 _ fz) λk _=>No
   ·exact C7.congr (g:=g2) (xA.flat hf 2 _ fz) λk hk=>No
  have uX:=Fh (w:=w.drew.alloc (.cells arr t0)) (ad:=⟨w.heap.size,0,none⟩) (c:=cap) (fr:=(0,0)) (T:=t0) (heap_alloc_new w.drew _) rfl J No No xN;rw[ABA]at uX;refine⟨_,uX,λb hb=>?_⟩;rcases AAf.1 hb with rfl|hb
  ·exact .inr ⟨AAb _,by rw[BQ];exact Nat.lt_succ_self _⟩
  ·grind
 subst hux;subst huy;cases A1 with
 |none=>
  obtain⟨rfl,rfl⟩:=hA1 rfl;have yF:xs=[]:=AAO J;subst yF;cases ys with
  |nil=>exact⟨_,_,D0 t ty t0 i vT hi 0 A2 c2 news hnf,⟨rfl,rfl,rfl⟩,AAb _,λ_ _ _=>rfl,hx,[],Bl,λb hb=>by cases hb⟩
  |cons y ys=>
   cases A2 with
   |none=>grind
   |some ad2=>
    have vW:=grownCap_ge w (y::ys).length 0 t0
    obtain⟨f1,f2,f3,o',f4,f5⟩:=fresh (news.toArray++Builtin.zeroCells z.cells (grownCap w (y::ys).length 0 t0-(y::ys).length)) (grownCap w (y::ys).length 0 t0) (by simpa using vW)
     (by
      have:(y::ys).length*e.n+(grownCap w (y::ys).length 0 t0-(y::ys).length)*e.n=grownCap w (y::ys).length 0 t0*e.n:=by rw[<-AAp];congr 1;omega
      simp only[ABO,ABN,wa,Builtin.zeroCells,Array.size_map,Array.size_range,yG,List.length_map,BT];omega) (λi hi=>by simp at hi)
     (by
      intro k hk;rw[<-hng k hk];simp only[List.length_nil,Nat.zero_mul,AAa];rw[AAt (by simpa[wa]using hk)];simp)
    refine⟨_,_,run_append_nil w t ty t0 i z vT hi hz ad2 (y::ys).length c2 news (by rw[wa,uh]) (wx ad2 rfl) OF (by simp at vN ⊢;omega) (AA2 (Nat.mul_le_mul (show _<=68719476736 by simp at vN ⊢;omega) zc) ADP),⟨rfl,rfl,rfl⟩,f3,f2,f1,o',?_,f5⟩;grind
 |some ad1=>
  obtain⟨arr,T,fr,os1,hs,hh,vD,v8,xJ,zB,_⟩:=w8 ad1 rfl (.inr ADP);have zn:o1=ad1.block::(List.range xs.length).flatMap os1:=zB ADP;have uc:=v8 ADP;clear zB v8 w8;obtain⟨b1,vB,sp1⟩:=ad1;dsimp only at hs hh vD xJ zn;subst hs;have wH:b1∈o1:=by rw[zn];simp
  by_cases vp:xs.length+ys.length<=c1
  ·
   have hmul:(xs.length+ys.length)*e.n<=c1*e.n:=AAo _ vp;rw[AAp]at hmul;obtain⟨w',wc,uf⟩:=Ec (P:=P) (o:=vB+xs.length*e.n) news hh uc (by rw[wa];omega) hn1';have wZ:(⟨b1,vB,none⟩:Addr).add (xs.length*i.size)=⟨b1,vB+xs.length*e.n,none⟩:=by rw[uh];exact CU _ _ _
   have ud:=Ce news (vB+xs.length*e.n) arr (by rw[wa];omega)
   have zo:C7 e 2 w' fz (λk=>(B7 news (vB+xs.length*e.n) arr)[vB+k]?) xs os1:=by intro i hi;refine Ls.BP e (Ls.AY e hf (xJ i hi) (d':=2) (w':=w') (uQ:=fz)).1 λj hj=>?_;have uR:=KP hi hj;show(B7 news (vB+xs.length*e.n) arr)[vB+(i*e.n+j)]?=_;rw[ud,AAQ J]
   have xN:C7 e 2 w' fz (λk=>(B7 news (vB+xs.length*e.n) arr)[vB+k]?) (xs++ys) λi=>if i<xs.length then os1 i else []:=by refine C7.append (vP:=λ_=>[]) zo ?_;refine C7.congr (g:=g2) (xA.flat hf 2 w' fz) λk hk=>?_;rw[<-hng k hk,ud,AAP (by rw[wa];omega)];congr 1;omega
   have uX:=Fh (w:=w') (ad:=⟨b1,vB,none⟩) (c:=c1) uf.here rfl (by rw[Aq];exact uc) (by rw[Aq];exact vD) (by simpa using vp) xN;have hrow0:=Fh (w:=w') (ad:=⟨b1,vB,none⟩) (c:=c1) uf.here rfl (by rw[Aq];exact uc) (by rw[Aq];exact vD) hc1 zo;rw[ABA]at uX;refine⟨_,_,EK t ty t0 i vT hi ⟨b1,vB,none⟩ xs.length c1 A2 ys.length c2 news hnf vp (by rw[wZ];exact wc),uf.rest,by rw[uf.size];exact AAb _,λb hb hn=>uf.CY b λe=>hn (e▸wH),by rw[zn];exact hrow0,_,uX,λb hb=>?_⟩;grind
  ·
   cases A2 with
   |none=>grind
   |some ad2=>
    have xu:=xJ.cell;have hg1:=CL xu
    have holds:∀j u,(Bo (λk=>arr[vB+k]?) (xs.length*e.n))[j]?=some u->w.cell? ((⟨b1,vB,none⟩:Addr).add j)=some u:=by
     intro j u hj;have uR:j<xs.length*e.n:=by have:=(AAK.1 hj).1;rwa[Ab]at this
     rw[hg1 j uR]at hj;rw[CU];simp only[World.cell?,hh];simpa using hj
    have vW:=grownCap_ge w (xs.length+ys.length) c1 t0
    obtain⟨f1,f2,f3,o',f4,f5⟩:=fresh (((Bo (λk=>arr[vB+k]?) (xs.length*e.n)).toArray++news.toArray)++Builtin.zeroCells z.cells (grownCap w (xs.length+ys.length) c1 t0-(xs.length+ys.length))) (grownCap w (xs.length+ys.length) c1 t0) vW
     (by
      have:xs.length*e.n+ys.length*e.n+(grownCap w (xs.length+ys.length) c1 t0-(xs.length+ys.length))*e.n=grownCap w (xs.length+ys.length) c1 t0*e.n:=by rw[<-AAp,<-AAp];congr 1;omega
      simp only[ABO,ABN,wa,Ab,Builtin.zeroCells,Array.size_map,Array.size_range,yG,List.length_map,BT];omega)
     (C7.congr (xJ.flat hf 2 w fz) λk hk=>by
      grind)
     (by
      intro k hk;rw[<-hng k hk];rw[AAt (by simp[Ab,wa];omega),Array.getElem?_append_right (by simp[Ab])];simp[Ab])
    exact⟨_,_,run_append_grow w t ty t0 i z vT hi hz ⟨b1,vB,none⟩ xs.length c1 (Bo (λk=>arr[vB+k]?) (xs.length*e.n)) (by rw[Ab,uh]) holds ad2 ys.length c2 news (by rw[wa,uh]) (wx ad2 rfl) J J
     (growslice_fits J (AA2 (Nat.mul_le_mul vN zc) ADP)),⟨rfl,rfl,rfl⟩,f3,f2,f1,o',f4,f5⟩
end
section
variable {P:Program}{E:Ck}{s:St}{W:Wd}{o:Oper}{a:Act}{ws:List Wr}{cx:Cx}{v:Nat}{tm:Array Value}
theorem LP(hc:Db P cx)(h:AW E s a.tmps W)(hv:Aj s v){c:Call}(ho:o.op=.call c)(hb:c.callee=.builtin .append)(hd:∀d,o.dst=some d->d<a.tmps.size)(hl:(AA cx v o s).leads ws):BS P E o a W.w (s.app ws):=by
 simp only[AA,ho,hb]at hl;split at hl
 ·rename_i x y t1 t2 ty d hx ht wO vK;split at hl
  ·rename_i t e vx;split at hl
   ·rename_i uU;simp only[AAJ,AAT]at uU;obtain⟨rfl,uX⟩:=uU;obtain⟨t0,vT,uk⟩:=Fa hc uX;have uw:c.args = #[x,y]:=No
    have yo:c.argTypes = #[t1,t1]:=No
    obtain⟨cal,args,ats⟩:=c;dsimp only at hb uw yo;subst hb;subst uw;subst yo
    have fin:∀ {xs ys:List e.D} {us1 us2:List (Nat×Nat)} {o1:Is},AE e 2 W.w W.fz (a.eval x) xs o1->o1.Nodup->(∀b∈o1,∃r j,(r,j)∈us1/\b∈W.om (.lf r j))->KE P s W e (a.eval y) ys us2->
      (∀x∈us1,x∉us2)->xs.length+ys.length<=E8->ws=gone (us1++us2)++ownRow d v t e (xs++ys)->BS P E o a W.w (s.app ws):=by
     intro xs ys us1 us2 o1 h1 h2 h3 h4 h5 h6 h7;obtain⟨u,w',ub,W',vf,uP⟩:=K7 h hv (ty:=o.type) vT uk (hd d vK) h1 h2 h3 h4 h5 h6 t;rw[h7];refine Bf h vK ?_ vf uP;simp[execOp,ho,resolve,invoke,builtin,ub]
    have h1:=Ac h x;have h2:=Ac h y;have wQ:=Ib hv x;generalize s.Af x=p at hl h1 wQ;unfold Cv at hl;split at hl
    ·obtain⟨ys,us,hl,wL⟩:=I7 h h2 hl;rcases Ah hl with⟨hb,hl⟩|⟨_,hl⟩
     ·have hl:_=ws:=hl;rw[show a.eval x=.slice none 0 0 from h1]at fin;exact fin (xs:=[]) (us1:=[]) Bl AAS (λb hb=>by cases hb) wL (λx hx=>by cases hx) No hl.symm
     ·exact hl.elim
    ·rename_i c;split at hl
     ·rename_i AB gen t' e' xs dd uM;split at hl
      ·rename_i uU;simp only[AAJ,AAT,AAV]at uU;obtain⟨⟨⟨uT,hp⟩,zD⟩,hdd⟩:=uU;subst uT;subst hdd;have hp:c.p=[]:=by cases hq:c.p<;>simp_all[isNil]
       split at hl
       ·rename_i ys0 hys;obtain⟨q1,q2⟩:=L.AH hys;cases q1;have q2:xs=ys0:=q2;subst q2;obtain⟨h',e',uv,hn⟩:=h1 gen _ _ _ _ uM (.inl hp);rw[hp]at hn;obtain⟨rfl,rfl⟩:=hn;obtain⟨u',uY,uW⟩:=(h.roots c.r).row uM;rw[uv]at uY;injection uY with uY;rw[<-uY]at uW
        obtain⟨ys,us,hl,wL⟩:=I7 h h2 hl;split at hl
        ·exact hl.elim
        ·rename_i yb;rcases Ah hl with⟨hb,hl⟩|⟨_,hl⟩
         ·have hl:_=ws:=hl;exact fin (us1:=[(c.r,c.j)]) uW (h.sep.nodup _) (λb hb=>⟨c.r,c.j,OF,hb⟩) wL (λx hx=>by grind) (AAu hb) hl.symm
         ·exact hl.elim
       ·exact hl.elim
      ·exact hl.elim
     ·exact hl.elim
    ·rename_i c lo hi;split at hl
     ·rename_i AB gen t' e' xs dd uM;split at hl
      ·rename_i uU;simp only[AAJ,AAT,AAV]at uU;obtain⟨⟨⟨⟨uT,hp⟩,zD⟩,hdd⟩,xF⟩:=uU;subst uT;subst hdd;have hp:c.p=[]:=by cases hq:c.p<;>simp_all[isNil]
       split at hl
       ·rename_i ys0 hys;obtain⟨q1,q2⟩:=L.AH hys;cases q1;have q2:xs=ys0:=q2;subst q2;obtain⟨h',e',A,n,k0,uv,hn,l1,l2,xo⟩:=h1 gen _ _ _ _ uM (.inl hp);rw[hp]at hn;obtain⟨rfl,rfl⟩:=hn;obtain⟨u',uY,uW⟩:=(h.roots c.r).row uM;rw[uv]at uY;injection uY with uY;rw[<-uY]at uW
        obtain⟨o',r1,r2,r3⟩:=B0.sub uW l1 l2;obtain⟨ys,us,hl,wL⟩:=I7 h h2 hl;split at hl
        ·exact hl.elim
        ·rename_i yb;rcases Ah hl with⟨hb,hl⟩|⟨_,hl⟩
         ·have hl:_=ws:=hl;refine fin (us1:=[(c.r,c.j)]) (by rw[xo];exact r1) (r3 (h.sep.nodup _)) (λb hb=>⟨c.r,c.j,OF,r2 b hb⟩) wL (λx hx=>by grind) (AAu hb) hl.symm
         ·exact hl.elim
       ·exact hl.elim
      ·exact hl.elim
     ·exact hl.elim
    ·exact hl.elim
   ·exact hl.elim
  ·exact hl.elim
 ·exact hl.elim
theorem IG(hc:Db P cx)(h:AW E s a.tmps W)(hv:Aj s v){t:TypeId}{len:Nat}{parts:Array (Nat×Operand)}(ho:o.op=.buildSlice t len parts)(hd:∀d,o.dst=some d->d<a.tmps.size)(hl:(AA cx v o s).leads ws):BS P E o a W.w (s.app ws):=by
 simp only[AA,ho]at hl;split at hl
 ·rename_i ty d ht vK;split at hl
  ·exact hl.elim
  ·rename_i wR;split at hl
   ·rename_i t' e vx;split at hl
    ·rename_i uU;simp only[AAJ,AAT,AAe]at uU;obtain⟨hlen,hsmall⟩:=uU;obtain⟨vT,uk⟩:=(Bw hc ht vx No:GG P t (.sl t' e));obtain⟨i,hi,uh,zc,z,hz,yG⟩:=uk.info;obtain⟨ys,us,os,hl,zf⟩:=HN (P:=P) h hv _ _ hl;split at hl
     ·have hl:_=ws:=hl;have hyl:ys.length=len:=by rw[zf.len,hlen];simp
      have hparts:∀(m:Nat)(x:Operand)(i:Nat),parts.toList[m]?=some (i,x)->i=0+m/\(a.eval x).cells.size=e.n:=by
       intro m x i hm;have vy:m<ys.length:=by rw[zf.len];exact(AAK.1 hm).1
       obtain⟨x',h1,h2,_⟩:=zf.el m vy;rw[hm]at h1;injection h1 with h1;injection h1 with h1 vu;subst vu
       exact⟨h1,h2⟩
      obtain⟨arr,hf,zb,_,ud⟩:=HV (e:=e) a.eval parts.toList 0 (madeCells z.cells (len*e.n)) hparts (by rw[size_madeCells,hlen];simp);rw[size_madeCells]at zb;have ub:=H2 (P:=P) (w:=W.w) (t:=t) (len:=len) (parts:=parts.map λ(i,x)=>(i,a.eval x)) (arr:=arr) vT hi hz No (by rw[uh,ABP];exact hf)
      have xN:C7 e 2 (W.w.alloc (.cells arr t')) W.fz (λk=>arr[0+k]?) ys os:=by
       intro m hm;obtain⟨x,h1,h2,h3⟩:=zf.el m hm
       have h4:e.rd 2 (W.w.alloc (.cells arr t')) W.fz (λj=>(a.eval x).cells[j]?) ys[m] (os m):=Ls.AN e h3 (λb hb=>Bj _ _ (by
        rcases hb with hb|hb
        ·obtain⟨r,j,_,h5⟩:=zf.OH m b hb;exact(h.sep.own _ b h5).2.1
        ·exact(h.sep.fz b hb).1)) λ_ hb=>hb
       refine Ls.BP e h4 λj hj=>?_;have:=ud m _ x h1 j hj;simp only[AAa]at this ⊢;exact this
      have uX:=Fh (w:=W.w.alloc (.cells arr t')) (ad:=⟨W.w.heap.size,0,none⟩) (c:=len) (fr:=(0,0)) (T:=t') (heap_alloc_new _ _) rfl J (by simp[zb]) J xN
      obtain⟨W',vf,uP⟩:=h.Cd hv us (hd d vK) (t0:=t') (EM h _) (λb hb _=>Bj _ _ ADe) (by rw[BQ];omega) ⟨rfl,rfl,rfl⟩ uX
       (AAc.2 ⟨λuO=>by
        obtain⟨m,_,hb⟩:=AAL.1 uO;obtain⟨r,j,_,h5⟩:=zf.OH m _ hb;exact absurd (h.sep.own _ _ h5).2.1 (Nat.lt_irrefl _),Dw zf.O3 zf.Ow _⟩)
       (λb hb=>by
        rcases AAf.1 hb with rfl|hb
        ·exact .inr ⟨AAb _,by rw[BQ];grind⟩
        ·obtain⟨m,_,hb⟩:=AAL.1 hb;exact .inl (zf.OH m b hb))
      rw[<-hl];refine Bf h vK ?_ vf uP;rw[hyl];unfold execOp;simp only[ho,Sem.run_bind,ub,Result.andThen_ok];rfl
     ·exact hl.elim
    ·exact hl.elim
   ·exact hl.elim
 ·exact hl.elim
end
end Go.Ev
namespace Go.Ev
section
variable {P:Program}{E:Ck}{s:St}{W:Wd}{o:Oper}{a:Act}{ws:List Wr}{cx:Cx}{v:Nat}{tm:Array Value}
theorem Dt{t:TypeId}{x y:Operand}(ho:o.op=.store t x y)(wk:o.dst=none){ad:Addr}(hx:a.eval x=.pointer (some ad)){i:TypeInfo}(hi:P.info? t=some i)(uh:(a.eval y).cells.size=i.size){W':Wd}
  (ub:(storeCells ad (a.eval y).cells.toList).run P W.w=.ok () W'.w) {s':St} (hr:AW E s' a.tmps W'):BS P E o a W.w s':=by
 intro next Q hn
 have wc:(storeVar t ad (a.eval y)).run P W.w=.ok () W'.w:=by simp[storeVar,sizeOf,typeInfo,hi,uh,ub]
 unfold Oper.wp execOp;simp only[ho,hx,Instr.storeAt,Instr.sureAddr,Sem.run_bind,Sem.run_pure,Result.andThen_ok,wc];show next (a.put o.dst Go.undef) W'.w
 rw[wk];exact hn _ W' rfl hr
theorem Jp{α β:Type}{f:α->Option β}:∀ {l:List α} {r:List β},l.mapM f=some r->r.length=l.length
 | [],r,hr=>No
 |b::l,r,hr=>by
  simp only[List.mapM_cons,Option.bind_eq_bind,Option.pure_def]at hr;cases hb:f b with
  |none=>grind
  |some c=>
   cases vI:l.mapM f with
   |none=>grind
   |some cs=>
    simp[hb,vI]at hr;subst hr;simp[Jp vI]
theorem Gd(hc:Db P cx)(h:AW E s a.tmps W)(hv:Aj s v){t:TypeId}{x y:Operand}(ho:o.op=.store t x y){q:LA}{g:Bool}{as:List LA}{ty:Ty}{fs wt:List Wr}(ht:cx.ty t=some ty)(h1:AR s W q (a.eval x))(h2:BO s W (.v g as) (a.eval y))(wQ:v∉(AV.v g as).AF)
  (hl:(GB cx v s o.dst q ty.ls.kinds as fs).leads wt):∃ws,wt=fs++ws/\BS P E o a W.w (s.app ws):=by
 obtain⟨i,hi,uh,_⟩:=(hc t ty ht).info;unfold GB at hl;unfold St.GC at hl;split at hl
 ·rename_i r j AB;split at hl
  ·rename_i uU;simp only[AAJ,AAT,AAe,BT]at uU;obtain⟨⟨hb,uT⟩,vD⟩:=uU;obtain⟨bs,us,os,hl,wI,yI,vd,xD,vU,wi,wT⟩:=EO (v:=v) h (g:=A8 g (a.eval y)) (λj b hj=>⟨λuO=>wQ (AAL.2 ⟨b,AAN hj,uO⟩),Cb h2 j b hj⟩) hl;rw[BT]at yI;split at hl
   ·rename_i wk;have hl:_=wt:=hl
    have uq:=Ca h2 λj b hj=>by
     have uR:j<bs.length:=by rw[wI];exact(AAK.1 hj).1
     obtain⟨u,hu,hr⟩:=wT j bs[j] (AAI uR);exact⟨u,hu,hr.1⟩
    obtain⟨_,vC⟩:=h.roots r;rw[AAP hb]at vC;obtain⟨_,arr,T,fr,hh,uc,zb,_⟩:=vC
    have vQ:∀u∈(a.eval y).cells.toList,u.oneCell'=true:=by
     intro u hu;obtain⟨m,hm⟩:=AAr hu;have uR:m<bs.length:=by rw[wI,<-uq.1];simpa using(AAK.1 hm).1
     obtain⟨u',uY,hr⟩:=wT m bs[m] (AAI uR);have:=uq.2 m J;rw[uY]at this;have h3:(a.eval y).cells[m]?=some u:=ADV
     rw[this]at h3;injection h3 with h3;subst h3;exact hr.1
    obtain⟨w',ub,uf⟩:=Ec (P:=P) (o:=j) (a.eval y).cells.toList hh uc No vQ
    obtain⟨W',vf,uP⟩:=h.J9 hv (j:=j) hb (us:=us) (bs:=bs) (os:=os) (cells:=(a.eval y).cells.toList) No J
     (λm b hm=>by
      grind) vU (λm hm=>wi m J) hh uf
    refine⟨_,hl.symm,?_⟩;exact Dt ho wk (h1 hb uT) hi J No uP
   ·exact hl.elim
  ·exact hl.elim
 ·rename_i c;split at hl
  ·rename_i vY;obtain⟨vs,hl,vX,yk,w4⟩:=FR h (g:=A8 g (a.eval y)) (λj b hj=>Cb h2 j b hj) hl
   have uq:=Ca h2 λj b hj=>by
    have uR:j<vs.length:=by rw[vX];exact(AAK.1 hj).1
    obtain⟨u,hu,hr⟩:=w4 j vs[j] (AAI uR);exact⟨u,hu,L.FC _ hr⟩
   have hlen:vs.length=ty.ls.n:=by rw[<-BT,<-yk];simp
   have yC:Plain W.w W.fz vs (a.eval y).cells.toList:=by
    refine⟨No,λm lv hm=>?_⟩
    have yc:Bg lv.l=false:=by
     have xR:lv.l∈ty.ls.kinds:=by rw[<-yk];exact AAs.2 ⟨lv,AAN hm,rfl⟩
     simpa using AAW.1 vY _ xR
    obtain⟨u,hu,hr⟩:=w4 m lv hm;refine⟨yc,u,?_,λd w' uQ=>(L.AY lv.l yc hr).1⟩;have uR:m<as.length:=by rw[<-vX];exact(AAK.1 hm).1
    have:=uq.2 m uR;rw[hu]at this;simpa using this
   have vQ:∀u∈(a.eval y).cells.toList,u.oneCell'=true:=by
    intro u hu;obtain⟨m,hm⟩:=AAr hu;have uR:m<vs.length:=by rw[<-yC.1];exact(AAK.1 hm).1
    obtain⟨_,u',uY,hr⟩:=yC.2 m vs[m] (AAI uR);rw[hm]at uY;injection uY with uY;subst uY
    exact L.FC _ (hr 0 W.w W.fz)
   split at hl
   ·rename_i wG wN;split at hl
    ·rename_i wk;have hl:_=wt:=hl;unfold St.J3 at wN;split at wN
     ·rename_i AB gen t0 e0 xs0 d0 uM;split at wN
      ·rename_i uU;simp only[AAJ,AAd,AAT,AAe]at uU;obtain⟨⟨⟨rfl,hg⟩,hd0⟩,wg⟩:=uU;split at wN
       ·rename_i f hf;injection wN with wN
        subst wN;obtain⟨q,i0,off,h',e',ad,n,k,hs,uv,wv,xH,yh,hu⟩:=h1 gen _ _ _ _ uM hg;obtain⟨u',uY,uW⟩:=(h.roots c.r).row uM;rw[uv]at uY;injection uY with uY;subst uY
        have yO:∀b∈W.om (.lf c.r c.j),¬W.fz b:=λb hb=>(h.sep.own _ b hb).1;obtain⟨hsp,arr,T,fr,hh,uc,wj,uO,zF⟩:=Kk yC yh c.p q hf uW (h.sep.nodup _) yO hd0 wg hs wv;obtain⟨w',ub,uf⟩:=Ec (P:=P) (o:=ad.off+(i0*e'.n+off)) (a.eval y).cells.toList hh uc wj vQ;have uP:=h.KX hv uM uv (zF w' uf) (λb hb=>uf.CY b λe=>hb (e▸uO)) uf.size uf.rest;exact⟨_,hl.symm,Dt ho wk hu hi J (W':={ W with w:=w' }) ub uP⟩
       ·cases wN
      ·cases wN
     ·cases wN
    ·exact hl.elim
   ·exact hl.elim
  ·split at hl
   ·rename_i p0 hp0;obtain⟨bs,us,os,hl,wI,yI,vd,xD,vU,wi,wT⟩:=EO (v:=v) h (g:=A8 g (a.eval y)) (λj b hj=>⟨λuO=>wQ (AAL.2 ⟨b,AAN hj,uO⟩),Cb h2 j b hj⟩) hl;rw[BT]at yI;split at hl
    ·rename_i vY;split at hl
     ·rename_i lvs xQ;have xQ:bs.mapM E2=some lvs:=xQ;have hlen:lvs.length=bs.length:=Jp xQ;split at hl
      ·rename_i AB gen t0 e0 xs0 uM;split at hl
       ·rename_i uT;have uT:AB=c.AB:=by simpa using uT
        subst uT;split at hl
        ·rename_i f hf;split at hl
         ·rename_i wk;have hl:_=wt:=hl
          have uq:=Ca h2 λj b hj=>by
           have uR:j<bs.length:=by rw[wI];exact(AAK.1 hj).1
           obtain⟨u,hu,hr⟩:=wT j bs[j] (AAI uR);exact⟨u,hu,hr.1⟩
          have vQ:∀u∈(a.eval y).cells.toList,u.oneCell'=true:=by
           intro u hu;obtain⟨m,hm⟩:=AAr hu;have uR:m<bs.length:=by rw[wI,<-uq.1];simpa using(AAK.1 hm).1
           obtain⟨u',uY,hr⟩:=wT m bs[m] (AAI uR);have:=uq.2 m J;rw[uY]at this;have h3:(a.eval y).cells[m]?=some u:=ADV
           rw[this]at h3;injection h3 with h3;subst h3;exact hr.1
          obtain⟨q,i0,off,h',e',ad,n,k,hs,uv,wv,xH,yh,hu⟩:=h1 gen _ _ _ _ uM (.inl No);rw[hp0]at hs;simp only[Ai,Option.some.injEq,Prod.mk.injEq]at hs;obtain⟨rfl,rfl,rfl⟩:=hs;obtain⟨rfl,rfl⟩:=wv;obtain⟨u',uY,uW⟩:=(h.roots c.r).row uM;rw[uv]at uY;injection uY with uY;subst uY
          have hus:(c.r,c.j)∉us:=λuO=>No
          have xy:∀m,∀b∈os m,∃r j,(r,j)∈us/\b∈W.om (.lf r j):=by
           intro m b hb;by_cases hm:m<bs.length
           ·obtain⟨u,_,ht⟩:=wT m bs[m] (AAI hm);exact ht.2.2.1 b hb
           ·grind
          have hk:GH os (W.om (.lf c.r c.j)):=by
           refine⟨λm=>?_,vU,λm b hb uZ=>?_⟩
           ·by_cases hm:m<bs.length
            ·obtain⟨u,_,ht⟩:=wT m bs[m] (AAI hm);exact ht.2.1
            grind
           ·obtain⟨r,j,uO,w6⟩:=xy m b hb;exact h.sep.A7 (.lf r j) (.lf c.r c.j) (λe=>by grind) b w6 uZ
          have hkz:∀m,∀b∈os m,¬W.fz b:=λm b hb=>by obtain⟨r,j,_,w6⟩:=xy m b hb;exact(h.sep.own _ b w6).1
          have yO:∀b∈W.om (.lf c.r c.j),¬W.fz b:=λb hb=>(h.sep.own _ b hb).1
          have hp:∀(m:Nat)(lv:Lv),lvs[m]?=some lv->∃u,(a.eval y).cells.toList[m]?=some u/\lv.l.rd 2 W.w W.fz u lv.x (os m):=by
           intro m lv hm;have uR:m<bs.length:=by rw[<-hlen];exact(AAK.1 hm).1
           obtain⟨y',xB,xX⟩:=Fg xQ m bs[m] (AAI uR);rw[hm]at xX;injection xX with xX;subst xX
           obtain⟨u,hu2,ht⟩:=wT m bs[m] (AAI uR);have:=uq.2 m J;rw[hu2]at this;exact⟨u,No,IN ht xB⟩
          rw[hp0]at hf;obtain⟨hsp,arr,T,fr,hh,uc,wj,uO,o',hnd',va,zF⟩:=MG No hp (λm hm=>wi m J) yh hf uW (h.sep.nodup _) yO hk hkz;obtain⟨w',ub,uf⟩:=Ec (P:=P) (o:=ad.off+(p0.1*e'.n+p0.2)) (a.eval y).cells.toList hh uc wj vQ;have uP:=h.Ld hv uM uv hus uO (λb hb=>uf.CY b hb) uf.size uf.rest hnd' (λb hb=>(va b hb).imp id λ⟨m,hb⟩=>xy m b hb) (zF w' uf);refine⟨_,hl.symm,?_⟩;exact Dt ho wk hu hi J (W':=IP W w' c.r c.j o' us) ub uP
         ·exact hl.elim
        ·exact hl.elim
       ·exact hl.elim
      ·exact hl.elim
     ·exact hl.elim
    ·exact hl.elim
   ·exact hl.elim
 ·exact hl.elim
end
end Go.Ev
namespace Go.Ev
theorem NJ{s:St}{r:Nat}(h:s.ro.length<=r):(s.root r).ls=[]:=by have:s.root r=dead:=Au _ h;rw[this];rfl
theorem DC(s:St)(r j:Nat):∀(rs:Is)(a:LA),(a=s.leaf r j\/a=A9 (s.leaf r j))->
  (rs.map λr=>(⟨r,0,(s.root r).ls.map A9⟩:Up)).foldl (λa u=>if r=u.r/\u.lo<=j/\j<u.lo+u.news.length then nth .bad u.news (j-u.lo)else a) a=if r∈rs then A9 (s.leaf r j)else a
 | [],a,ha=>OF
 |x::rs,a,ha=>by
  simp only[ABE,List.foldl_cons,List.length_map,AAa,Nat.sub_zero];by_cases hx:r=x
  ·subst hx;rw[AAP AAk]
   have hstep:(if r=r/\0<=j/\j<(s.root r).ls.length then nth .bad ((s.root r).ls.map A9) j else a)=A9 (s.leaf r j)\/(s.leaf r j=.bad/\(if r=r/\0<=j/\j<(s.root r).ls.length then nth .bad ((s.root r).ls.map A9) j else a)=a):=by
    by_cases hj:j<(s.root r).ls.length
    ·left;rw[AAP ⟨rfl,Nat.zero_le _,hj⟩];unfold St.leaf;rw[Ad,Ad,AAZ,AAI hj];rfl
    ·right;exact⟨Au _ (AAy hj),AAQ λhh=>hj hh.2.2⟩
   rcases hstep with h1|⟨h1,h2⟩
   ·rw[h1,DC s r j rs _ (.inr rfl)];split<;>rfl
   ·rw[h2];have zx:a=.bad:=by rcases ha with ha|ha<;>rw[ha,h1]<;>rfl
    rw[DC s r j rs a ha,zx,h1];split<;>rfl
  ·rw[AAQ (λhh=>hx hh.1),DC s r j rs a ha];simp[hx]
section
variable {P:Program}{E:Ck}{s:St}{W:Wd}{v:Nat}{tm:Array Value}{cx:Cx}
theorem GQ:∀ {rs:Is} {ws:List Wr},Ao cx s rs=some ws->ws=ER ((rs.filter λr => !s.Bp r).map λr=>⟨r,0,(s.root r).ls.map A9⟩)
 | [],ws,h=>by injection h with h;exact h.symm
 |r::rs,ws,h=>by
  simp only[Ao]at h;split at h
  ·cases h
  ·split at h
   ·rename_i wG xW;injection h with h;subst h
    rw[GQ xW];unfold C0;cases hs:s.Bp r with
    |true=>grind
    |false=>rw[List.filter_cons_of_pos (by simp[hs])];rfl
   ·cases h
theorem Kc{r:Nat}(h:s.Bp r=true)(j:Nat):A9 (s.leaf r j)=s.leaf r j:=by
 unfold St.leaf;rw[Ad];cases hq:(s.root r).ls[j]? with
 |none=>rfl
 |some a=>
  have:=AAW.1 h a (AAN hq);cases a with
  |arr v g t e xs d=>cases d with
   |zero=>rfl
   |succ d=>cases this
  |_=>rfl
structure JP(s s':St)(W W':Wd)(rs:Is):Prop where
 same:JS s s'
 w:W'.w=W.w
 cv:W'.cv=W.cv
 bk:W'.bk=W.bk
 leaf:∀r j,r∉rs->s'.leaf r j=s.leaf r j
 OV:∀r j,s'.leaf r j=s.leaf r j\/s'.leaf r j=A9 (s.leaf r j)
 om:∀r j,r∉rs->W'.om (.lf r j)=W.om (.lf r j)
 PK:∀r,W'.om (.blk r)=W.om (.blk r)
 sub:∀k,∀b∈W'.om k,b∈W.om k
 up:∀b,W.fz b->W'.fz b
 fz:∀b,W'.fz b->Seen W rs b
theorem EY(h:AW E s tm W)(hv:Aj s v){rs:Is}{ws:List Wr}(hf:Ao cx s rs=some ws):∃W',AW E (s.app ws) tm W'/\JP s (s.app ws) W W' rs/\∀b,Seen W rs b->W'.fz b:=by
 rw[GQ hf]
 obtain⟨uS,uM⟩:=IC ((rs.filter λr => !s.Bp r).map λr=>(⟨r,0,(s.root r).ls.map A9⟩:Up)) s λu hu=>by
  obtain⟨r,_,rfl⟩:=AAs.1 hu;refine⟨?_,OF⟩;rcases AAq r s.ro.length with uR|vW
  ·grind
  ·left;simp[NJ vW]
 generalize s.app (ER ((rs.filter λr => !s.Bp r).map λr=>(⟨r,0,(s.root r).ls.map A9⟩:Up)))=s' at uS uM
 have uM:∀r j,s'.leaf r j=if r∈rs then A9 (s.leaf r j)else s.leaf r j:=λr j=>by
  rw[uM,DC s r j _ _ (.inl rfl)];by_cases hr:r∈rs
  ·rw[AAP hr];cases wc:s.Bp r with
   |true=>rw[AAQ λhm=>by have:=(List.mem_filter.1 hm).2;simp[wc]at this,Kc wc]
   |false=>rw[AAP (List.mem_filter.2 ⟨hr,by simp[wc]⟩)]
  grind
 let W':Wd:={
  w:=W.w
  fz:=Seen W rs
  cv:=W.cv
  bk:=W.bk
  om:=λk=>match k with
   | .lf r j=>if r∈rs then []else W.om (.lf r j)
   |k=>W.om k }
 have homf:∀r j,W'.om (.lf r j)=if r∈rs then []else W.om (.lf r j):=λ_ _=>rfl
 have vS:∀k,∀b∈W'.om k,b∈W.om k/\∀r∈rs,∀j,k≠.lf r j:=by
  intro k b hb;cases k with
  |lf r j=>
   grind
  |blk r=>grind
  |fl k=>grind
 have wV:Sep E W':={
  nodup:=by
   intro k;cases k with
   |lf r j=>rw[homf];split;exact AAS;exact h.sep.nodup _
   |blk r=>exact h.sep.nodup _
   |fl k=>exact h.sep.nodup _
  A7:=λk k' uV b hb uZ=>h.sep.A7 k k' uV b (vS k b hb).1 (vS k' b uZ).1
  own:=λk b hb=>by
   obtain⟨h1,h2⟩:=vS k b hb;obtain⟨q1,q2,q3⟩:=h.sep.own k b h1;refine⟨?_,q2,q3⟩
   rintro (hz|⟨r,hr,j,hz⟩)
   ·exact q1 hz
   ·exact h.sep.A7 k (.lf r j) (h2 r hr j) b h1 hz
  fz:=λb hb=>by
   rcases hb with hz|⟨r,hr,j,hz⟩
   ·exact h.sep.fz b hz
   ·obtain⟨_,q2,q3⟩:=h.sep.own _ b hz;grind
  frame:=h.sep.frame
  size:=h.sep.size
  rest:=h.sep.rest }
 refine⟨W',?_,⟨uS,rfl,rfl,rfl,λr j hr=>No,λr j=>No,λr j hr=>No,λ_=>rfl,λk b hb=>(vS k b hb).1,λb hb=>.inl hb,λb hb=>hb⟩,λb hb=>hb⟩;refine h.MH hv (W':=W') uS (λr _=>r∈rs) (λ_=>False) (λr j hr=>by grind) (λ_ _ _=>rfl) (λ_ _ hf=>hf.elim) (λ_=>rfl) (λr j hr=>by grind) (λ_=>rfl) (λ_ _=>rfl) (λb hb=>.inl hb) ?_ wV ?_ (λ_ hf=>hf.elim)
 ·intro r j AB gen t e xs d hr hl uV;rw[uM,AAP hr]at hl;refine⟨rfl,?_⟩;cases hq:s.leaf r j with
  |arr ver0 gen0 t0 e0 xs0 d0=>
   rw[hq]at hl;simp only[A9,LA.arr.injEq]at hl;grind
  |_=>rw[hq]at hl;simp[A9]at hl
 ·intro um r j hr;obtain⟨h1,_⟩:=h.roots r;have h1:Aa s W (s.leaf r j) (W.cv r j) (W.om (.lf r j)):=h1 j;have vX:=LA.Ee hv r j;rw[uM,AAP hr,homf,AAP hr];unfold Aa at h1 ⊢;cases hq:s.leaf r j with
  |arr ver0 gen0 t0 e0 xs0 d0=>
   rw[hq]at h1;obtain⟨u,hu,uW⟩:=h1;exact⟨u,hu,uW.freeze λb hb=>hb.elim .inl λhb=>.inr ⟨r,hr,j,hb⟩⟩
  |_=>
   rw[hq]at h1 vX;exact⟨rfl,λu hu=>AR.Dh um (vX.resolve_left (by simp[LA.B6])) (h1.2 u hu)⟩
inductive PT where
 |none
 |box (r:Nat)
 |row (l:List (Option (Loc×Is)))
def PT.D1:PT->ADU
 | .none=>[]
 | .box r=>[(r,Option.none)]
 | .row l=>l.filterMap λo=>o.map λp=>(p.1.r,some p.1.j)
def NH(a b:Tg):Prop:=Tg.DR b a=false
def FK(s:St)(W:Wd)(d:Nat)(a:LA)(o:Option (Loc×Is))(lv:Lv)(y:Value):Prop:=
 (Bg lv.l=false/\o=none/\lv.l.rd d W.w W.fz y lv.x [])\/(d=4/\a=.CA/\o=none/\y=.slice none 0 0/\∃(t':TypeId) (e':Ls),lv=⟨.sl t' e',([]:List e'.D)⟩) \/
 ∃(c:Loc) (o':Is) (gen:Nat) (t:TypeId) (e:Ls) (xs:List e.D) (h:Value) (t':TypeId) (e':Ls) (ys:List e'.D),a=.ref c/\o=some (c,o')/\s.leaf c.r c.j=.arr c.AB gen t e xs d/\d≠4/\(c.p≠[]->d=2)/\W.cv c.r c.j=some h/\JL W.w c.p e h e' y/\
  lv=⟨.sl t' e',ys⟩/\AE e' d W.w W.fz y ys o'/\(∀b∈o',b∈W.om (.lf c.r c.j))/\o'.Nodup
def Gt(s:St)(W:Wd)(pm:PM)(av:AV)(tg:PT)(u:Value)(vs:List Lv):Prop:=match pm with
 | .val g ls=>tg=.none/\Ge W.w (Seen W av.roots) g (ls.map λl=>(l,0)) u vs λ_=>[]
 | .box ls=>∃r AB,av=.v false [.ptr r 0 AB]/\tg=.box r/\(s.root r).box=true/\(s.root r).ls.length=ls.length/\u=.pointer (some ⟨W.bk r,0,none⟩)/\vs.map (·.l)=ls.map (·.1)/\
   ∀(j:Nat)(p:L×Nat)(lv:Lv)(y:Value),ls[j]?=some p->vs[j]?=some lv->W.cv r j=some y->lv.l.rd p.2 W.w W.fz y lv.x (W.om (.lf r j))
 | .row g ls=>∃as l,av=.v g as/\tg=.row l/\as.length=ls.length/\l.length=ls.length/\vs.map (·.l)=ls.map (·.1)/\(match g with
   |true=>∃cs:Array Value,u=.agg cs/\cs.size=ls.length
   |false=>ls.length=1)/\∀(j:Nat)(p:L×Nat)(a:LA)(lv:Lv) (o:Option (Loc×Is)),ls[j]?=some p->as[j]?=some a->vs[j]?=some lv->l[j]?=some o->∃y,A8 g u j=some y/\FK s W p.2 a o lv y
 | .fn f=>tg=.none/\u=.func (.func f) #[] #[]/\vs=[]
theorem LY(h:AW E s tm W){β:Type}{t:β}{l:L}{d:Nat}{a:LA}{y:Value}(hy:AR s W a y){k:Lv->ADU->Step β}(hl:(JI s l d a k).leads t):
  ∃(lv:Lv) (o:Option (Loc×Is)),(k lv (PT.row [o]).D1).leads t/\lv.l=l/\FK s W d a o lv y:=by
 have plain:Bg l=false->((s.datum l a λx=>k ⟨l,x⟩ []).leads t)->∃(lv:Lv) (o:Option (Loc×Is)),(k lv (PT.row [o]).D1).leads t/\lv.l=l/\FK s W d a o lv y:=by intro hs hl;obtain⟨x,hl,hr⟩:=Bs h hy hl;exact⟨⟨l,x⟩,none,hl,rfl,.inl ⟨hs,rfl,(L.AY l hs hr).1⟩⟩
 cases l with
 |int i=>exact plain rfl hl
 |bool=>exact plain rfl hl
 |str=>exact plain rfl hl
 |sl t0 e0=>
  cases a with
  |ref c=>
   replace hl:(if d != 4&&(match s.leaf c.r c.j with
    | .arr _ _ _ _ _ dd=>dd==d&&(isNil c.p||d==2)
    |_=>false)then s.datum (.sl t0 e0) (.ref c) λx=>k ⟨.sl t0 e0,x⟩ [(c.r,some c.j)]else Step.none).leads t:=hl
   cases hq:s.leaf c.r c.j with
   |arr AB gen t1 e1 xs dd=>
    simp only[hq]at hl;split at hl
    ·rename_i uU;simp only[AAJ,AAd,AAT,bne_iff_ne]at uU;obtain⟨z8,hdd,hp⟩:=uU;subst hdd;have yB:c.p≠[]->dd=2:=λuV=>hp.resolve_left λhn=>uV (by cases hq:c.p<;>simp_all[isNil]);simp only[St.datum,St.content,hq]at hl;split at hl
     ·rename_i uT;simp only[AAJ,AAd,AAT]at uT;obtain⟨uT,hgen⟩:=uT;subst uT;have hgen:c.p=[]\/gen=c.gen:=hgen.imp (λhn=>by cases hq:c.p<;>simp_all[isNil]) id;obtain⟨h',e',uv,hn⟩:=hy gen _ _ _ _ hq hgen;obtain⟨u',uY,uW⟩:=(h.roots c.r).row hq;rw[uv]at uY;injection uY with uY;rw[<-uY]at uW
      obtain⟨t',ys,o',hl,hrd',vS,vd⟩:=Jk c.p hl uW hn yB (h.sep.nodup _);split at hl
      ·rename_i x hx;obtain⟨q1,q2⟩:=L.AH hx;cases q1;have q2:ys=x:=q2;subst q2;exact⟨⟨.sl t0 e0,ys⟩,some (c,o'),hl,rfl,.inr (.inr ⟨c,o',gen,t1,e1,xs,h',t0,e0,ys,rfl,rfl,hq,z8,yB,uv,hn,rfl,hrd',vS,vd⟩)⟩
      ·exact hl.elim
     ·exact hl.elim
    ·exact hl.elim
   |_=>simp only[hq,Bool.and_false,ABK,if_false]at hl;exact hl.elim
  |CA=>
   replace hl:(if d==4 then k ⟨.sl t0 e0,([]:List e0.D)⟩ []else Step.none).leads t:=hl
   split at hl
   ·rename_i hd;exact⟨⟨.sl t0 e0,([]:List e0.D)⟩,none,hl,rfl,.inr (.inl ⟨AAT.1 hd,rfl,rfl,hy,t0,e0,rfl⟩)⟩
   ·exact hl.elim
  |_=>exact hl.elim
theorem Hz(h:AW E s tm W){β:Type}{t:β}:∀(ls:List (L×Nat)) (as:List LA) (G:Nat->Option Value) {k:List Lv->ADU->Step β},(∀(j:Nat)(b:LA),as[j]?=some b->∃y,G j=some y/\AR s W b y)->(Eb s ls as k).leads t->
  ∃(vs:List Lv) (l:List (Option (Loc×Is))),(k vs (PT.row l).D1).leads t/\as.length=ls.length/\l.length=ls.length/\vs.map (·.l)=ls.map (·.1)/\(PT.row l).D1.Pairwise NH/\
   ∀(j:Nat)(p:L×Nat)(a:LA)(lv:Lv) (o:Option (Loc×Is)),ls[j]?=some p->as[j]?=some a->vs[j]?=some lv->l[j]?=some o->∃y,G j=some y/\FK s W p.2 a o lv y
 | [],[],G,k,hg,hl=>⟨[],[],hl,rfl,rfl,rfl,List.Pairwise.nil,λj p a lv o hp=>ADa⟩
 | [],_::_,G,k,hg,hl=>hl.elim
 |_::_,[],G,k,hg,hl=>hl.elim
 |(l,d)::ls,a::as,G,k,hg,hl=>by
  obtain⟨y,hy,yX⟩:=hg 0 a rfl;obtain⟨lv,o,hl,vk,hrl⟩:=LY h yX hl;obtain⟨vs,lo,hl,h1,h2,h3,h4,h5⟩:=Hz h ls as (λj=>G (j+1)) (λj b hj=>hg (j+1) b No) hl;split at hl
  ·exact hl.elim
  ·rename_i yO
   have he:(PT.row (o::lo)).D1=(PT.row [o]).D1++(PT.row lo).D1:=by
    cases o<;>simp[PT.D1]
   refine⟨lv::vs,o::lo,by rw[he];exact hl,by simp[h1],by simp[h2],by simp[vk,h3],?_,?_⟩
   ·rw[he,List.pairwise_append];refine⟨?_,h4,λx hx z hz=>?_⟩
    ·cases o<;>simp[PT.D1]
    ·show Tg.DR z x=false;cases hq:Tg.DR z x with
     |false=>rfl
     |true=>exact absurd (AA5.2 ⟨x,hx,AA5.2 ⟨z,hz,hq⟩⟩) yO
   grind
mutual
theorem L.CE:∀(l:L) {w:World} {fz:Nat->Prop} {v:Value} {x:l.D} {o:Is},l.rd 3 w fz v x o↔l.rd 2 w fz v x o
 | .int _,_,_,_,_,_=>Iff.rfl
 | .bool,_,_,_,_,_=>Iff.rfl
 | .str,_,_,_,_,_=>Iff.rfl
 | .sl _ e,w,fz,v,x,o=>by
  have hf:e.rd (dec 3) w fz=e.rd (dec 2) w fz:=by funext g y o;exact propext (Ls.CE e)
  exact iff_of_eq (congrArg (λR=>B0 e.n R true w fz v x o) hf)
theorem Ls.CE:∀(ls:Ls) {w:World} {fz:Nat->Prop} {g:Nat->Option Value} {x:ls.D} {o:Is},ls.rd 3 w fz g x o↔ls.rd 2 w fz g x o
 | .nil,_,_,_,_,_=>Iff.rfl
 | .one l,w,fz,g,x,o=>exists_congr λv=>and_congr_right λ_=>L.CE l
 | .cons l ls,w,fz,g,x,o=>exists_congr λv=>exists_congr λo1=>exists_congr λo2=>and_congr_right λ_=>and_congr (L.CE l) (and_congr (Ls.CE ls) Iff.rfl)
end
theorem JY(h:AW E s tm W){β:Type}{t:β}(r:Nat):∀(ls:List (L×Nat)) (as:List LA) (j:Nat) {k:List Lv->Step β},(∀i b,as[i]?=some b->s.leaf r (j+i)=b)->EC ls as=true->(s.data (ls.map (·.1)) (As r j as) k).leads t->
  ∃vs:List Lv,(k vs).leads t/\as.length=ls.length/\vs.map (·.l)=ls.map (·.1)/\∀(i:Nat)(p:L×Nat)(lv:Lv)(y:Value),ls[i]?=some p->vs[i]?=some lv->W.cv r (j+i)=some y->lv.l.rd p.2 W.w W.fz y lv.x (W.om (.lf r (j+i)))
 | [],[],j,k,hg,hd,hl=>⟨[],hl,rfl,rfl,λi p lv y hp=>ADa⟩
 | [],_::_,j,k,hg,hd,hl=>hl.elim
 |_::_,[],j,k,hg,hd,hl=>hl.elim
 |(l,m)::ls,b::as,j,k,hg,hd,hl=>by
  simp only[EC,AAJ]at hd;obtain⟨hdb,hd⟩:=hd;have hb:s.leaf r j=b:=hg 0 b rfl;obtain⟨h1,_⟩:=h.roots r;have h1:Aa s W (s.leaf r j) (W.cv r j) (W.om (.lf r j)):=h1 j;rw[hb]at h1
  have fin:∀(x:l.D),(s.data (ls.map (·.1)) (As r (j+1) as) λvs=>k (⟨l,x⟩::vs)).leads t->(∀y,W.cv r j=some y->l.rd m W.w W.fz y x (W.om (.lf r j)))->∃vs:List Lv,(k vs).leads t/\(b::as).length=((l,m)::ls).length/\vs.map (·.l)=((l,m)::ls).map (·.1)/\
    ∀(i:Nat)(p:L×Nat)(lv:Lv)(y:Value),((l,m)::ls)[i]?=some p->vs[i]?=some lv->W.cv r (j+i)=some y->lv.l.rd p.2 W.w W.fz y lv.x (W.om (.lf r (j+i))):=by
   intro x hl hx;obtain⟨vs,hl,hlen,hm,w4⟩:=JY h r ls as (j+1) (λi b hi=>by have:=hg (i+1) b ADR;grind) hd hl;refine⟨_,hl,by simp[hlen],by simp[hm],λi p lv y hp vk hy=>?_⟩;cases i with
   |zero=>grind
   |succ i=>
    grind
  cases b with
  |arr AB gen t0 e xs d=>
   have hdm:d=m\/(m=3/\d=2):=by simpa using hdb
   have hl:(s.datum l (.ref ⟨r,j,AB,gen,[]⟩) λx=>s.data (ls.map (·.1)) (As r (j+1) as) λvs=>k (⟨l,x⟩::vs)).leads t:=hl;simp only[St.datum,St.content,hb]at hl;rw[AAP (by simp[isNil])]at hl;simp only[OT]at hl;split at hl
   ·rename_i x hx;obtain⟨q1,q2⟩:=L.AH hx;subst q1;have q2:xs=x:=q2;subst q2;refine fin xs hl λy hy=>?_;obtain⟨u,hu,uW⟩:=h1;rw[hy]at hu;injection hu with hu;subst hu
    rcases hdm with rfl|⟨rfl,rfl⟩
    ·exact uW
    ·exact(L.CE _).2 uW
   ·exact hl.elim
  |sc l0 x0=>
   have hl:(s.datum l (.sc l0 x0) λx=>s.data (ls.map (·.1)) (As r (j+1) as) λvs=>k (⟨l,x⟩::vs)).leads t:=hl;simp only[St.datum]at hl;split at hl
   ·rename_i x hx;obtain⟨q1,q2⟩:=L.AH hx;subst q1;have q2:x0=x:=q2;subst q2;refine fin x0 hl λy hy=>?_;obtain⟨ho,uW⟩:=h1;have uW:l0.rd 0 W.w W.fz y x0 []:=uW y hy;rw[ho];simp only[AAd,AAV,AAT]at hdb;rcases hdb with yc|h0
    ·exact(L.AY l0 yc uW).1
    grind
   ·exact hl.elim
  |_=>cases hdb
theorem Av:∀(ms:Is)(t:Nat),has ms t=true↔t∈ms
 | [],t=>by simp[has]
 |m::ms,t=>by show(m==t||has ms t)=true↔_;rw[AAd,Av ms t,AAf,AAT];grind
theorem Iu(h:AW E s tm W){β:Type}{t:β}:∀(ps:List PM)(ui:List AV)(us:ADM) {k:List Lv->ADU->Step β},us.length=ui.length->(∀(i:Nat)(av:AV)(u:Value),ui[i]?=some av->us[i]?=some u->BO s W av u)->(Ak s ps ui k).leads t->
  ∃(uN:List (List Lv)) (T:List PT),(k uN.flatten (T.flatMap PT.D1)).leads t/\ui.length=ps.length/\uN.length=ps.length/\T.length=ps.length/\(T.flatMap PT.D1).Pairwise NH/\
   ∀(i:Nat)(pm:PM)(av:AV)(u:Value)(vs:List Lv)(tg:PT),ps[i]?=some pm->ui[i]?=some av->us[i]?=some u->uN[i]?=some vs->T[i]?=some tg->Gt s W pm av tg u vs
 | [],[],us,k,hlen,zy,hl=>⟨[],[],hl,rfl,rfl,rfl,List.Pairwise.nil,λi pm av u vs tg hp=>ADa⟩
 | [],_::_,us,k,hlen,zy,hl=>by simp[Ak]at hl;exact hl.elim
 |pm::ps,[],us,k,hlen,zy,hl=>by cases pm<;>simp[Ak]at hl<;>exact hl.elim
 |pm::ps,av::ui,[],k,hlen,zy,hl=>ADX
 |pm::ps,av::ui,u::us,k,hlen,zy,hl=>by
  have hu:BO s W av u:=zy 0 av u rfl rfl;have hav':∀(i:Nat)(av:AV)(u:Value),ui[i]?=some av->us[i]?=some u->BO s W av u:=λi av' u' h1 h2=>zy (i+1) av' u' No No;have vN:us.length=ui.length:=ADZ
  have fin:∀(tg:PT)(vs:List Lv) {k':List Lv->ADU->Step β},(Ak s ps ui k').leads t->Gt s W pm av tg u vs->
    (∀(uN:List Lv)(T:List PT),(k' uN (T.flatMap PT.D1)).leads t->(k (vs++uN) (tg.D1++T.flatMap PT.D1)).leads t/\∀x∈tg.D1,∀z∈T.flatMap PT.D1,NH x z)->tg.D1.Pairwise NH->
    ∃(uN:List (List Lv)) (T:List PT),(k uN.flatten (T.flatMap PT.D1)).leads t/\(av::ui).length=(pm::ps).length/\uN.length=(pm::ps).length/\T.length=(pm::ps).length/\(T.flatMap PT.D1).Pairwise NH/\
     ∀(i:Nat)(yH:PM)(av':AV)(u':Value)(vs:List Lv)(tg:PT),(pm::ps)[i]?=some yH->(av::ui)[i]?=some av'->(u::us)[i]?=some u'->uN[i]?=some vs->T[i]?=some tg->Gt s W yH av' tg u' vs:=by
   intro tg vs k' hl vH hk hpw;obtain⟨uN,T,hl,h1,h2,h3,h4,h5⟩:=Iu h ps ui us vN hav' hl;obtain⟨hl,vV⟩:=hk _ _ hl;refine⟨vs::uN,tg::T,No,by simp[h1],by simp[h2],by simp[h3],?_,?_⟩
   ·grind
   ·grind
  cases pm with
  |val g ls=>
   cases av with
   |Da vs=>simp only[Ak]at hl;exact hl.elim
   |bx as=>simp only[Ak]at hl;exact hl.elim
   |v g' as=>
    simp only[Ak]at hl;split at hl
    ·rename_i hg;have hg:g=g':=by simpa using hg
     subst hg;have hu:Ey s W g as u:=hu;obtain⟨vs,hl,vX,yk,w4⟩:=FR h (g:=A8 g u) (λj b hj=>Cb hu j b hj) hl;have hll:as.length=ls.length:=by rw[<-vX,<-yk];simp
     refine fin .none vs hl ⟨rfl,by rw[yk];simp[Function.comp_def],?_,?_⟩ (λuN T hk=>⟨hk,λx hx=>by cases hx⟩) List.Pairwise.nil
     ·cases g with
      |true=>obtain⟨cs,w7,uh,_⟩:=hu;grind
      |false=>
       cases as with
       |nil=>exact hu.elim
       |cons b bs=>cases bs with
        |nil=>grind
        |cons=>exact hu.elim
     ·intro j p lv hp vk;obtain⟨y,hy,hr⟩:=w4 j lv vk;rw[AAZ]at hp;cases hq:ls[j]? with
      |none=>grind
      |some l=>
       rw[hq]at hp;injection hp with hp;subst hp
       exact⟨y,hy,hr⟩
    ·exact hl.elim
  |box ls=>
   unfold Ak at hl;split at hl<;>try exact hl.elim
   ·rename_i e1 _;cases e1
   ·rename_i e1 _;cases e1
   ·rename_i ye zU r AB xY e1 e2;injection e1 with e1 e1';injection e1 with e1;subst e1;subst e1'
    injection e2 with e2 e2';subst e2;subst e2'
    split at hl
    ·rename_i uU;simp only[AAJ,AAT]at uU;obtain⟨⟨hb,uT⟩,yr⟩:=uU;obtain⟨vs,hl,xG,yk,w4⟩:=JY h r ls (s.root r).ls 0 (λi b hi=>by unfold St.leaf;rw[AAa,Ad,hi];rfl) yr hl;refine fin (.box r) vs hl ⟨r,AB,rfl,rfl,hb,xG,hu hb uT,yk,λj p lv y hp vk hy=>?_⟩ ?_ (by simp[PT.D1])
     ·have:=w4 j p lv y hp vk (by rw[AAa];exact hy);rwa[AAa]at this
     ·intro uN T hk;split at hk
      ·exact hk.elim
      ·rename_i yb;refine⟨by simpa[PT.D1]using hk,λx hx z hz=>?_⟩;simp only[PT.D1,ABI]at hx;subst hx;show Tg.DR z (r,none)=false;cases hq:Tg.DR z (r,none)with
       |false=>rfl
       |true=>exact absurd (AA5.2 ⟨z,hz,hq⟩) yb
    ·exact hl.elim
   all_goals grind
  |row g ls=>
   cases av with
   |Da vs=>simp only[Ak]at hl;exact hl.elim
   |bx as=>simp only[Ak]at hl;exact hl.elim
   |v g' as=>
    simp only[Ak]at hl;split at hl
    ·rename_i hg;have hg:g=g':=by simpa using hg
     subst hg;have hu:Ey s W g as u:=hu;obtain⟨vs,l,hl,h1,h2,h3,h4,h5⟩:=Hz h ls as (A8 g u) (λj b hj=>Cb hu j b hj) hl;refine fin (.row l) vs hl ⟨as,l,rfl,rfl,h1,h2,h3,?_,h5⟩ ?_ h4
     ·cases g with
      |true=>obtain⟨cs,w7,uh,_⟩:=hu;grind
      |false=>
       cases as with
       |nil=>exact hu.elim
       |cons b bs=>cases bs with
        |nil=>grind
        |cons=>exact hu.elim
     ·intro uN T hk;split at hk
      ·exact hk.elim
      ·rename_i yO;refine⟨hk,λx hx z hz=>?_⟩;show Tg.DR z x=false;cases hq:Tg.DR z x with
       |false=>rfl
       |true=>exact absurd (AA5.2 ⟨x,hx,AA5.2 ⟨z,hz,hq⟩⟩) yO
    ·exact hl.elim
  |fn f=>
   unfold Ak at hl;split at hl<;>try exact hl.elim
   ·grind
   ·grind
   ·grind
   ·grind
   ·rename_i f' zU g xY e1 e2;injection e1 with e1 e1';injection e1 with q1;subst q1;subst e1'
    injection e2 with e2 e2';subst e2;subst e2'
    split at hl
    ·rename_i hfg;have hfg:f=g:=by simpa using hfg
     subst hfg;exact fin .none [] hl ⟨rfl,hu,rfl⟩ (λuN T hk=>⟨by simpa[PT.D1]using hk,λx hx=>by cases hx⟩) List.Pairwise.nil
    ·exact hl.elim
end
end Go.Ev
namespace Go.Ev
section
variable {P:Program}{E:Ck}{s:St}{W:Wd}{o:Oper}{a:Act}{ws:List Wr}{cx:Cx}{v:Nat}{tm:Array Value}
theorem JP.Hl{s':St}{W':Wd}{rs:Is}(h:JP s s' W W' rs)(hv:Aj s v):Aj s' v:=by
 refine⟨λt=>?_,λr j=>?_,hv.2.2⟩
 ·have:s'.slot t=s.slot t:=by show nth _ s'.sl t=_;rw[h.same.sl];rfl
  rw[this];exact hv.1 t
 ·rcases h.OV r j with e|e
  ·rw[e];exact hv.2.1 r j
  ·rw[e];have:=hv.2.1 r j;cases hq:s.leaf r j with
   |arr=>exact .inl rfl
   |_=>rw[hq]at this;exact this
theorem MV{s s':St}(h:s'.sl=s.sl)(x:Operand):s'.Ar x=s.Ar x:=by
 cases x with
 |tmp t=>show nth _ s'.sl t=nth _ s.sl t;rw[h]
 |const c=>cases c<;>rfl
 |global g=>rfl
 |func f=>rfl
theorem MU(hc:Db P cx)(hft:Lk P cx.env)(h:AW E s a.tmps W)(hv:Aj s v){t:TypeId}{x y:Operand}(ho:o.op=.store t x y)(hl:(AA cx v o s).leads ws):BS P E o a W.w (s.app ws):=by
 simp only[AA,ho]at hl;have h1:=Ac h x;have h2:=A6 h y;have wQ:=Fj hv y;split at hl
 ·rename_i ty g as ht hy;rw[hy]at h2 wQ;split at hl
  ·obtain⟨ws0,rfl,hg⟩:=Gd hc h hv ho ht h1 h2 wQ hl;exact hg
  ·rename_i r rs hn;split at hl
   ·rename_i fs wP;obtain⟨W1,yd,fr,_⟩:=EY h hv wP;have e1:(s.app fs).Af x=s.Af x:=by unfold St.Af;rw[MV fr.same.sl]
    have e2:(s.app fs).Ar y=s.Ar y:=MV fr.same.sl y;have k1:=Ac yd x;have k2:=A6 yd y;rw[e1]at k1;rw[e2,hy]at k2;obtain⟨ws0,rfl,hg⟩:=Gd hc yd (fr.Hl hv) ho ht k1 k2 wQ hl;rw[fr.w]at hg;rw[A5];exact hg
   ·exact hl.elim
 ·rename_i p ht;unfold H7 at hl;generalize hy:s.Ar y=p at hl;split at hl
  ·rename_i g ps qs;split at hl
   ·rename_i hf;split at hl
    ·rename_i r j AB hx;split at hl
     ·rename_i wk;split at hl
      ·rename_i uU;simp only[AAJ,AAT,AAe]at uU;obtain⟨⟨hb,uT⟩,vD⟩:=uU;have hl:_=ws:=hl;obtain⟨i,z,c,hi,uh,_⟩:=hft t hf;rw[hy]at h2 wQ;have h2:AR s W (.D2 g ps qs) (a.eval y):=h2;rw[hx]at h1;have vQ:(a.eval y).oneCell'=true:=by obtain⟨bs,hu,_⟩:=h2;rw[hu];rfl
       have uq:=cells_one vQ;obtain⟨_,vC⟩:=h.roots r;rw[AAP hb]at vC;obtain⟨_,arr,T,fr,hh,uc,zb,_⟩:=vC;obtain⟨w',ub,uf⟩:=Ec (P:=P) (o:=j) (a.eval y).cells.toList hh uc (by rw[uq];simp;omega) (by rw[uq];intro u hu;simp at hu;subst hu;exact vQ)
       obtain⟨W',vf,uP⟩:=h.J9 hv (j:=j) hb (us:=[]) (bs:=[.D2 g ps qs]) (os:=λ_=>[]) (cells:=(a.eval y).cells.toList) (by rw[uq];rfl) (by simpa using vD)
        (λm b hm=>by
         cases m with
         |zero=>
          simp at hm;subst hm;refine⟨a.eval y,by rw[uq];rfl,vQ,AAS,(λb hb=>by cases hb),rfl,h2,λuO=>wQ ?_⟩;simpa[AV.AF]using uO
         |succ m=>simp at hm) (λ_ _ _ b hb=>by cases hb) (λm hm=>rfl) hh uf
       have xW:ws=gone []++A3 r j [.D2 g ps qs]:=hl.symm;rw[xW];exact Dt ho wk (h1 hb uT) hi (by rw[uq,uh];rfl) (by rw[vf];exact ub) uP
      ·exact hl.elim
     ·exact hl.elim
    ·exact hl.elim
   ·exact hl.elim
  ·exact hl.elim
 ·exact hl.elim
end
end Go.Ev
namespace Go.Ev
abbrev IE:=List PT
theorem Tg.IV(a b:Tg):Tg.DR a b=Tg.DR b a:=by obtain⟨r,m⟩:=a;obtain⟨r',m'⟩:=b;unfold Tg.DR;grind
theorem Ed{T:IE}(hn:(T.flatMap PT.D1).Pairwise NH){i i':Nat}{p p':PT}(h:T[i]?=some p)(h':T[i']?=some p')(uV:i≠i'){x y:Tg}(hx:x∈p.D1)(hy:y∈p'.D1):Tg.DR x y=false:=by
 have hp:=(List.pairwise_flatMap.1 hn).2;rw[ABL]at hp;obtain⟨hi,rfl⟩:=AAK.1 h;obtain⟨vw,rfl⟩:=AAK.1 h';rcases ABH uV with uR|uR
 ·have:=hp i i' hi vw uR x hx y hy;rw[Tg.IV];exact this
 ·exact hp i' i vw hi uR y hy x hx
theorem H0{l:List (Option (Loc×Is))}{j:Nat}{c:Loc}{o:Is}(h:l[j]?=some (some (c,o))):(c.r,some c.j)∈(PT.row l).D1:=List.mem_filterMap.2 ⟨_,AAN h,rfl⟩
theorem LZ{T:IE}(hn:(T.flatMap PT.D1).Pairwise NH){i j j':Nat}{l:List (Option (Loc×Is))}{c c':Loc}{o o':Is}(h:T[i]?=some (.row l))(hj:l[j]?=some (some (c,o)))(hj':l[j']?=some (some (c',o')))(uV:j≠j'):¬(c.r=c'.r/\c.j=c'.j):=by
 have hp:=(List.pairwise_flatMap.1 hn).1 _ (AAN h);have hp:l.Pairwise λa b=>∀x,(a.map λp=>((p.1.r,some p.1.j):Tg))=some x->∀y,(b.map λp=>((p.1.r,some p.1.j):Tg))=some y->NH x y:=List.pairwise_filterMap.1 hp;rw[ABL]at hp;obtain⟨hi,e1⟩:=AAK.1 hj;obtain⟨vw,e2⟩:=AAK.1 hj'
 rintro ⟨q1,q2⟩
 have hh:Tg.DR (c.r,some c.j) (c'.r,some c'.j)=true:=by simp[Tg.DR,q1,q2]
 rcases ABH uV with uR|uR
 ·have:=hp j j' hi vw uR (c.r,some c.j) (by rw[e1];rfl) (c'.r,some c'.j) (by rw[e2];rfl);rw[Tg.IV,show Tg.DR (c'.r,some c'.j) (c.r,some c.j)=false from this]at hh;cases hh
 ·have:=hp j' j vw hi uR (c'.r,some c'.j) (by rw[e2];rfl) (c.r,some c.j) (by rw[e1];rfl);rw[show Tg.DR (c.r,some c.j) (c'.r,some c'.j)=false from this]at hh;cases hh
def AQ(T:IE):Key->Option Key
 | .blk i=>match T[i]? with
  |some (.box r)=>some (.blk r)
  |_=>none
 | .lf i j=>match T[i]? with
  |some (.box r)=>some (.lf r j)
  |some (.row l)=>match l[j]? with
   |some (some p)=>some (.lf p.1.r p.1.j)
   |_=>none
  |_=>none
 | .fl _=>none
theorem BE{T:IE}{i:Nat}{a:Key}(h:AQ T (.blk i)=some a):∃r,a=.blk r/\T[i]?=some (.box r):=by simp only[AQ]at h;grind
theorem BC{T:IE}{i j:Nat}{a:Key}(h:AQ T (.lf i j)=some a):(∃r,a=.lf r j/\T[i]?=some (.box r))\/∃l c o,a=.lf c.r c.j/\T[i]?=some (.row l)/\l[j]?=some (some (c,o)):=by simp only[AQ]at h;grind
theorem BR{T:IE}(hn:(T.flatMap PT.D1).Pairwise NH){k k' a:Key}(h:AQ T k=some a)(h':AQ T k'=some a):k=k':=by
 have hbb:∀ {i i' r:Nat},T[i]?=some (.box r)->T[i']?=some (.box r)->i=i':=by intro i i' r h h';refine AAl λuV=>?_;have:=Ed hn h h' uV (x:=(r,none)) (y:=(r,none)) (by simp[PT.D1]) (by simp[PT.D1]);simp[Tg.DR]at this
 cases k with
 |fl k=>cases h
 |blk i=>
  obtain⟨r,rfl,hT⟩:=BE h;cases k' with
  |fl k=>cases h'
  |blk i'=>
   obtain⟨r',e,vM⟩:=BE h';grind
  |lf i' j'=>rcases BC h' with⟨r',e,_⟩|⟨l,c,o,e,_⟩<;>cases e
 |lf i j=>
  cases k' with
  |fl k=>cases h'
  |blk i'=>
   obtain⟨r',e,vM⟩:=BE h';subst e;rcases BC h with⟨r',e,_⟩|⟨l,c,o,e,_⟩<;>cases e
  |lf i' j'=>
   rcases BC h with⟨r,rfl,hT⟩|⟨l,c,o,rfl,hT,hl⟩
   ·rcases BC h' with⟨r',e,vM⟩|⟨l',c',o',e,vM,wB⟩
    ·grind
    ·injection e with e1 e2
     by_cases hi:i=i'
     ·grind
     ·have:=Ed hn hT vM hi (x:=(r,none)) (y:=(c'.r,some c'.j)) (by simp[PT.D1]) (H0 wB);simp[Tg.DR,e1]at this
   ·rcases BC h' with⟨r',e,vM⟩|⟨l',c',o',e,vM,wB⟩
    ·injection e with e1 e2
     by_cases hi:i=i'
     ·grind
     ·have:=Ed hn hT vM hi (x:=(c.r,some c.j)) (y:=(r',none)) (H0 hl) (by simp[PT.D1]);simp[Tg.DR,e1]at this
    ·injection e with e1 e2
     by_cases hi:i=i'
     ·subst hi;rw[hT]at vM;injection vM with vM;injection vM with vM;subst vM
      by_cases hj:j=j'
      ·rw[hj]
      ·exact absurd ⟨e1,e2⟩ (LZ hn hT hl wB hj)
     ·have:=Ed hn hT vM hi (x:=(c.r,some c.j)) (y:=(c'.r,some c'.j)) (H0 hl) (H0 wB);simp[Tg.DR,e1,e2]at this
theorem BZ(v:Nat):∀(ls:List (L×Nat)) (vs:List Lv),vs.length=ls.length->(AX v ls vs).length=ls.length
 | [],_,_=>by simp[AX]
 |_::_,[],h=>ADO
 |(_,m)::ls,x::xs,h=>by simp[AX,BZ v ls xs ADQ]
theorem Bt(v:Nat):∀(ls:List (L×Nat)) (vs:List Lv) (j:Nat) (p:L×Nat) (lv:Lv),ls[j]?=some p->vs[j]?=some lv->(AX v ls vs)[j]?=some (BJ v p.2 lv)
 | [],_,j,p,lv,h,_=>ADO
 |_::_,[],j,p,lv,_,h=>ADO
 |(l,m)::ls,x::xs,0,p,lv,h1,h2=>by simp at h1 h2;subst h1;subst h2;simp[AX]
 |(l,m)::ls,x::xs,j+1,p,lv,h1,h2=>by simp[AX];exact Bt v ls xs j p lv No No
theorem C5(v:Nat):∀(ls:List (L×Nat)) (vs ws:List Lv),vs.length=ls.length->AX v ls (vs++ws)=AX v ls vs
 | [],vs,ws,h=>by cases vs<;>simp[AX]
 |_::_,[],_,h=>ADO
 |(l,m)::ls,x::xs,ws,h=>by simp[AX,C5 v ls xs ws ADQ]
theorem C2(s:St)(r v:Nat):∀(k:Nat) (ls:List (L×Nat)) (vs:List Lv),vs.length=ls.length->(AU s r v k ls vs).length=ls.length
 |_,[],_,_=>by simp[AU]
 |_,_::_,[],h=>ADO
 |k,(_,m)::ls,x::xs,h=>by simp[AU,C2 s r v (k+1) ls xs ADQ]
theorem B9(s:St)(r v:Nat):∀(k:Nat) (ls:List (L×Nat)) (vs:List Lv) (j:Nat) (p:L×Nat) (lv:Lv),ls[j]?=some p->vs[j]?=some lv->(AU s r v k ls vs)[j]?=some (CZ (s.leaf r (k+j)) v p.2 lv)
 |_,[],_,j,p,lv,h,_=>ADO
 |_,_::_,[],j,p,lv,_,h=>ADO
 |k,(l,m)::ls,x::xs,0,p,lv,h1,h2=>by simp at h1 h2;subst h1;subst h2;simp[AU]
 |k,(l,m)::ls,x::xs,j+1,p,lv,h1,h2=>by simp only[AU,AA3];rw[B9 s r v (k+1) ls xs j p lv No No,Nat.add_right_comm];rfl
theorem Dz(s:St)(r v:Nat):∀(k:Nat) (ls:List (L×Nat)) (vs ws:List Lv),vs.length=ls.length->AU s r v k ls (vs++ws)=AU s r v k ls vs
 |_,[],vs,ws,h=>by cases vs<;>simp[AU]
 |_,_::_,[],_,h=>ADO
 |k,(l,m)::ls,x::xs,ws,h=>by simp[AU,Dz s r v (k+1) ls xs ws ADQ]
theorem C1(a:LA)(v m:Nat)(x:Lv):CZ a v m x=BJ v m x\/∃(AB gen:Nat) (t:TypeId) (e:Ls) (xs y:List e.D),m=3/\a=.arr AB gen t e xs 2/\x=⟨.sl t e,y⟩/\CZ a v m x=.arr AB v t e y 2:=by
 by_cases hm:m=3
 ·subst hm;cases a with
  |arr AB gen t e xs d=>
   by_cases hd:d=2
   ·subst hd;cases hq:L.cast (.sl t e) (a:=x.l) x.x with
    |none=>left;simp[CZ,hq]
    |some y=>
     right;refine⟨AB,gen,t,e,xs,y,rfl,rfl,?_,by simp[CZ,hq]⟩;obtain⟨l,x⟩:=x;obtain⟨q1,q2⟩:=L.AH hq;dsimp only at q1 q2;subst q1;have q2:x=y:=q2;rw[q2]
   ·left;have:(d==2)=false:=by simpa using hd
    simp[CZ,this]
  |_=>left;rfl
 ·left;have:(m==3)=false:=ADV
  simp[CZ,this]
section
variable {P:Program}{E:Ck}{s:St}{W:Wd}{v:Nat}{tm:Array Value}{cx:Cx}
theorem FA{s':St}{W':Wd}{m:Nat}{lv:Lv}{y:Value}{o:Is}(h:lv.l.rd m W'.w W'.fz y lv.x o):Aa s' W' (BJ v m lv) (some y) o:=by
 obtain⟨l,x⟩:=lv;cases l with
 |sl t e=>
  cases m with
  |zero=>exact⟨AE.zero h,λu hu=>by injection hu with hu;subst hu;have:=AE.zero h;subst this;exact h⟩
  |succ m=>exact⟨y,rfl,h⟩
 |int k=>
  obtain⟨h1,h2⟩:=L.AY (.int k) rfl h (d':=0) (w':=W'.w) (uQ:=W'.fz);subst h2;exact⟨rfl,λu hu=>by injection hu with hu;subst hu;exact h1⟩
 |bool=>
  obtain⟨h1,h2⟩:=L.AY .bool rfl h (d':=0) (w':=W'.w) (uQ:=W'.fz);subst h2;exact⟨rfl,λu hu=>by injection hu with hu;subst hu;exact h1⟩
 |str=>
  obtain⟨h1,h2⟩:=L.AY .str rfl h (d':=0) (w':=W'.w) (uQ:=W'.fz);subst h2;exact⟨rfl,λu hu=>by injection hu with hu;subst hu;exact h1⟩
theorem Ju{m:Nat}{lv:Lv}{AB gen:Nat}{t:TypeId}{e:Ls}{xs:List e.D}{d:Nat}(h:BJ v m lv=.arr AB gen t e xs d):AB=v/\gen=v:=by
 obtain⟨l,x⟩:=lv;cases l with
 |sl t0 e0=>cases m with
  |zero=>cases h
  |succ m=>
   have h:LA.arr v v t0 e0 x (m+1)=_:=h;grind
 |_=>cases h
def Ek(s:St)(v:Nat)(ls:List (L×Nat))(as:List LA)(vs:List Lv)(j:Nat)(u:Up):Prop:=
 ∃(p:L×Nat) (c:Loc) (lv:Lv) (AB gen:Nat) (t0:TypeId) (e0:Ls) (xs0:List e0.D) (d0:Nat) (F:List e0.D->List e0.D),ls[j]?=some p/\Bg p.1=true/\as[j]?=some (.ref c)/\vs[j]?=some lv/\s.leaf c.r c.j=.arr AB gen t0 e0 xs0 d0/\Jq (N3 lv) c.p t0 e0=some F/\
  u=⟨c.r,c.j,[.arr AB v t0 e0 (F xs0) d0]⟩
theorem Ek.uniq{ls:List (L×Nat)}{as:List LA}{vs:List Lv}{j:Nat}{u u':Up}(h:Ek s v ls as vs j u)(h':Ek s v ls as vs j u'):u=u':=by
 obtain⟨p,c,lv,AB,gen,t0,e0,xs0,d0,F,h1,h2,h3,h4,h5,h6,rfl⟩:=h;obtain⟨p',c',lv',ver',v7,t0',e0',xs0',d0',F',g1,g2,g3,g4,g5,g6,rfl⟩:=h';rw[h3]at g3;injection g3 with g3;injection g3 with g3;subst g3
 rw[h4]at g4;injection g4 with g4;subst g4
 rw[h5]at g5;injection g5 with a1 a2 a3 a4 a5 a6
 subst a1;subst a3;subst a4;grind
def KF(s:St)(v:Nat)(ls:List (L×Nat))(as:List LA)(vs:List Lv)(us:List Up):Prop:=
 (∀u∈us,∃j,Ek s v ls as vs j u)/\∀(j:Nat)(p:L×Nat),ls[j]?=some p->Bg p.1=true->p.2≠4->∃u∈us,Ek s v ls as vs j u
theorem Ek.succ{p:L×Nat}{a:LA}{lv:Lv}{ls:List (L×Nat)}{as:List LA}{vs:List Lv}{j:Nat}{u:Up}(h:Ek s v ls as vs j u):Ek s v (p::ls) (a::as) (lv::vs) (j+1) u:=by obtain⟨p,c,lv,AB,gen,t0,e0,xs0,d0,F,h1,h2,h3,h4,h5,h6,rfl⟩:=h;exact⟨p,c,lv,AB,gen,t0,e0,xs0,d0,F,No,h2,No,No,h5,h6,rfl⟩
theorem Ii:∀(ls:List (L×Nat)) (as:List LA) (vs rest:List Lv) {ws:List Wr},vs.length=ls.length->putRow s v ls as (vs++rest)=some ws->∃us,ws=ER us/\KF s v ls as vs us
 | [],[],vs,rest,ws,hlen,h=>by simp only[putRow,Option.some.injEq]at h;subst h;exact⟨[],rfl,⟨λu hu=>(by cases hu),λj p hp=>ADa⟩⟩
 | [],_::_,vs,rest,ws,hlen,h=>by simp[putRow]at h
 |_::_,[],vs,rest,ws,hlen,h=>by simp[putRow]at h
 |_::_,_::_,[],rest,ws,hlen,h=>ADX
 |(l,d)::ls,a::as,x::vs,rest,ws,hlen,h=>by
  simp only[AA8,putRow]at h;split at h
  ·rename_i wG xW;obtain⟨us,rfl,h1,h2⟩:=Ii ls as vs rest No xW
   have plain:(Bg l=false\/d=4)->some (ER us)=some ws->∃us,ws=ER us/\KF s v ((l,d)::ls) (a::as) (x::vs) us:=by
    intro hs h;injection h with h
    refine⟨us,h.symm,λu hu=>?_,λj p hp xV hp4=>?_⟩
    ·obtain⟨j,hj⟩:=h1 u hu;exact⟨j+1,hj.succ⟩
    ·cases j with
     |zero=>grind
     |succ j=>
      obtain⟨u,hu,hr⟩:=h2 j p No xV hp4;exact⟨u,hu,hr.succ⟩
   cases l with
   |int i=>exact plain (.inl rfl) h
   |bool=>exact plain (.inl rfl) h
   |str=>exact plain (.inl rfl) h
   |sl t e=>
    by_cases z8:d=4
    ·dsimp only at h;rw[AAP (AAT.2 z8)]at h;exact plain (.inr z8) h
    dsimp only at h;rw[AAQ (λq=>z8 (AAT.1 q))]at h;cases a with
    |ref c=>
     dsimp only at h;split at h
     ·rename_i AB gen t0 e0 xs0 d0 hq;split at h
      ·rename_i F hF;injection h with h
       have hu:Ek s v ((.sl t e,d)::ls) (.ref c::as) (x::vs) 0 ⟨c.r,c.j,[.arr AB v t0 e0 (F xs0) d0]⟩:=⟨_,c,x,AB,gen,t0,e0,xs0,d0,F,rfl,rfl,rfl,rfl,hq,hF,rfl⟩;refine⟨⟨c.r,c.j,[.arr AB v t0 e0 (F xs0) d0]⟩::us,?_,λu uY=>?_,λj p hp xV hp4=>?_⟩
       ·rw[<-h];simp[ER,A3]
       ·rcases AAf.1 uY with rfl|uY
        ·grind
        ·obtain⟨j,hj⟩:=h1 u uY;exact⟨j+1,hj.succ⟩
       ·cases j with
        |zero=>grind
        |succ j=>
         obtain⟨u,hu,hr⟩:=h2 j p No xV hp4;exact⟨u,AAM _ hu,hr.succ⟩
      ·cases h
     ·cases h
    |_=>cases h
  ·cases h
def Mq(s:St)(v:Nat)(pm:PM)(av:AV)(vs:List Lv)(uo:List Up):Prop:=match pm with
 | .box ls=>∃r AB,av=.v false [.ptr r 0 AB]/\uo=[⟨r,0,AU s r v 0 ls vs⟩]
 | .row _ ls=>∃g as,av=.v g as/\KF s v ls as vs uo
 |_=>uo=[]
theorem GZ:∀(ps:List PM)(ui:List AV) (uN:List (List Lv)) {ws:List Wr},uN.length=ps.length->(∀(i:Nat)(pm:PM)(vs:List Lv),ps[i]?=some pm->uN[i]?=some vs->vs.length=pm.outs.length)->AT s v ps ui uN.flatten=some ws->
  ∃U:List (List Up),ws=ER U.flatten/\U.length=ps.length/\∀(i:Nat)(pm:PM)(av:AV)(vs:List Lv)(uo:List Up),ps[i]?=some pm->ui[i]?=some av->uN[i]?=some vs->U[i]?=some uo->Mq s v pm av vs uo
 | [],ui,[],ws,hlen,hv,h=>by
  cases ui with
  |nil=>simp[AT]at h;subst h;exact⟨[],rfl,rfl,λi pm av vs uo h1=>by simp at h1⟩
  |cons a as=>simp[AT]at h
 | [],ui,_::_,ws,hlen,hv,h=>ADX
 |_::_,ui,[],ws,hlen,hv,h=>ADX
 |pm::ps,ui,vs::uN,ws,hlen,hv,h=>by
  have vN:uN.length=ps.length:=ADZ
  have wY:∀(i:Nat)(pm:PM)(vs:List Lv),ps[i]?=some pm->uN[i]?=some vs->vs.length=pm.outs.length:=λi yH xY h1 h2=>hv (i+1) yH xY No No;have h0:=hv 0 pm vs rfl rfl;cases ui with
  |nil=>cases pm<;>simp[AT]at h
  |cons av ui=>
   have fin:∀(uo:List Up) {wG:List Wr},AT s v ps ui uN.flatten=some wG->ws=ER uo++wG->Mq s v pm av vs uo->
     ∃U:List (List Up),ws=ER U.flatten/\U.length=(pm::ps).length/\∀(i:Nat)(yH:PM)(av':AV)(xY:List Lv)(uo:List Up),(pm::ps)[i]?=some yH->(av::ui)[i]?=some av'->(vs::uN)[i]?=some xY->U[i]?=some uo->Mq s v yH av' xY uo:=by
    intro uo wG hp hw vH;obtain⟨U,h1,h2,h3⟩:=GZ ps ui uN vN wY hp;refine⟨uo::U,?_,by simp[h2],?_⟩
    ·rw[hw,h1];simp[ER]
    ·grind
   cases pm with
   |val g ls=>
    have w4:vs=[]:=AAO (by simpa[PM.outs]using h0);subst w4;simp only[AT,AAh,AAv]at h;exact fin [] h rfl rfl
   |fn f=>
    have w4:vs=[]:=AAO (by simpa[PM.outs]using h0);subst w4;simp only[AT,AAh,AAv]at h;exact fin [] h rfl rfl
   |box ls=>
    have vX:vs.length=ls.length:=by simpa[PM.outs]using h0
    simp only[AAh]at h;unfold AT at h;split at h<;>try cases h
    ·rename_i e1 _;cases e1
    ·rename_i e1 _;cases e1
    ·rename_i e1 _;cases e1
    ·rename_i ye zU r AB avs' e1 e2;injection e1 with e1 e1';injection e1 with e1;subst e1;subst e1'
     injection e2 with e2 e2';subst e2;subst e2'
     split at h
     ·rename_i wG xW;injection h with h;subst h
      rw[<-vX,AA4]at xW;refine fin [⟨r,0,AU s r v 0 ls vs⟩] xW ?_ ⟨r,AB,rfl,rfl⟩;rw[Dz s r v 0 ls vs _ vX];simp[ER]
     ·cases h
    grind
   |row g ls=>
    have vX:vs.length=ls.length:=by simpa[PM.outs]using h0
    simp only[AAh]at h;cases av with
    |Da bs=>simp[AT]at h
    |bx bs=>simp[AT]at h
    |v g' as=>
     simp only[AT]at h;split at h
     ·rename_i us wG hus xW;injection h with h;subst h
      rw[<-vX,AA4]at xW;obtain⟨uo,rfl,hr⟩:=Ii ls as vs _ vX hus;exact fin uo xW rfl ⟨g',as,rfl,hr⟩
     ·cases h
theorem Jg(r j:Nat):∀(us:List Up)(a:LA),(∀u∈us,¬(r=u.r/\u.lo<=j/\j<u.lo+u.news.length))->us.foldl (λa u=>if r=u.r/\u.lo<=j/\j<u.lo+u.news.length then nth .bad u.news (j-u.lo)else a) a=a
 | [],_,_=>rfl
 |u::us,a,h=>by rw[List.foldl_cons,AAQ (h u OF)];exact Jg r j us a λx hx=>h x (AAM _ hx)
theorem Iw(r j:Nat){x:LA}:∀(us:List Up)(a:LA),(∀u∈us,r=u.r/\u.lo<=j/\j<u.lo+u.news.length->nth .bad u.news (j-u.lo)=x)->(a=x\/∃u∈us,r=u.r/\u.lo<=j/\j<u.lo+u.news.length)->
  us.foldl (λa u=>if r=u.r/\u.lo<=j/\j<u.lo+u.news.length then nth .bad u.news (j-u.lo)else a) a=x
 | [],a,h,he=>No
 |u::us,a,h,he=>by rw[List.foldl_cons];refine Iw r j us _ (λy hy=>h y (AAM _ hy)) ?_;grind
def FI(w:World)(fz:Nat->Prop)(v:Nat)(b:LA)(y:Value)(o:Is):Prop:=match b with
 | .arr AB gen t e xs m=>AB=v/\gen=v/\AE e m w fz y xs o
 | .bad=>o=[]
 |_=>False
theorem JX{w:World}{fz:Nat->Prop}{d:Nat}{om:Nat->Is}:∀(ls:List (L×Nat)) (vs rest:List Lv) (off:Nat) (G:Nat->Option Value) {as rs:List LA} {left:List Lv},vs.length=ls.length->(∀(j:Nat)(p:L×Nat)(lv:Lv),ls[j]?=some p->vs[j]?=some lv->∃y,G j=some y/\lv.l.rd p.2 w fz y lv.x (om (off+j)))->
  JW d v ls (vs++rest) off=some (as,rs,left)->left=rest/\as.length=ls.length/\∃ys:ADM,ys.length=ls.length/\rs.length=ls.length/\(∀k,k<ls.length->ys[k]?=G k)/\(∀(k:Nat)(b:LA),rs[k]?=some b->∃y,ys[k]?=some y/\FI w fz v b y (om (off+k)))/\
   ∀(s':St)(W':Wd),W'.w=w->W'.fz=fz->(∀k,k<ls.length->s'.leaf d (off+k)=nth .bad rs k/\W'.cv d (off+k)=ys[k]?)->∀(k:Nat)(b:LA),as[k]?=some b->∃y,ys[k]?=some y/\AR s' W' b y
 | [],vs,rest,off,G,as,rs,left,hlen,hv,h=>by have:vs=[]:=AAO hlen;subst this;simp only[JW,AAv,Option.some.injEq,Prod.mk.injEq]at h;obtain⟨rfl,rfl,rfl⟩:=h;exact⟨rfl,rfl,[],rfl,rfl,(λk hk=>by simp at hk),(λk b hb=>by simp at hb),λs' W' _ _ _ k b hb=>by simp at hb⟩
 |_::_,[],rest,off,G,as,rs,left,hlen,hv,h=>ADX
 |(l,m)::ls,lv::vs,rest,off,G,as,rs,left,hlen,hv,h=>by
  obtain⟨l',x⟩:=lv;simp only[AA8,JW]at h;split at h
  ·rename_i xr rs' left' hb
   obtain⟨h1,h2,ys,h3,h4,h5,h6,h7⟩:=JX ls vs rest (off+1) (λj=>G (j+1)) No (λj p lv hp vk=>by
    have:=hv (j+1) p lv No No;rwa[show off+(j+1)=off+1+j by omega]at this) hb
   obtain⟨y,hy,hr⟩:=hv 0 (l,m) ⟨l',x⟩ rfl rfl;dsimp only[Nat.add_zero]at hr
   have fin:∀(a b:LA),(some (a::xr,b::rs',left')=some (as,rs,left))->FI w fz v b y (om off)->(∀(s':St)(W':Wd),W'.w=w->W'.fz=fz->s'.leaf d off=b->W'.cv d off=some y->AR s' W' a y)->
     left=rest/\as.length=((l,m)::ls).length/\∃ys:ADM,ys.length=((l,m)::ls).length/\rs.length=((l,m)::ls).length/\(∀k,k<((l,m)::ls).length->ys[k]?=G k)/\(∀(k:Nat)(b:LA),rs[k]?=some b->∃y,ys[k]?=some y/\FI w fz v b y (om (off+k)))/\
      ∀(s':St)(W':Wd),W'.w=w->W'.fz=fz->(∀k,k<((l,m)::ls).length->s'.leaf d (off+k)=nth .bad rs k/\W'.cv d (off+k)=ys[k]?)->∀(k:Nat)(b:LA),as[k]?=some b->∃y,ys[k]?=some y/\AR s' W' b y:=by
    intro a b he yA yX;injection he with he;injection he with e1 he;injection he with e2 e3
    subst e1;subst e2;subst e3;refine⟨h1,by simp[h2],y::ys,by simp[h3],by simp[h4],?_,?_,?_⟩
    ·grind
    ·grind
    ·intro s' W' hw hz hs k b' uZ;cases k with
     |zero=>
      simp at uZ;subst uZ;obtain⟨q1,q2⟩:=hs 0 OF;exact⟨y,rfl,yX s' W' hw hz q1 q2⟩
     |succ k=>
      obtain⟨y',xB,ho⟩:=h7 s' W' hw hz (λk hk=>by
       have:=hs (k+1) ADJ;rw[show off+1+k=off+(k+1) by omega];exact⟨this.1.trans rfl,this.2.trans OF⟩) k b' (by simpa using uZ)
      grind
   cases l' with
   |sl t e=>
    cases m with
    |zero=>
     refine fin _ _ h (AE.zero hr) λs' W' hw hz _ _=>?_;have:=AE.zero hr;rw[this]at hr;show(L.sl t e).rd 0 W'.w W'.fz y x [];grind
    |succ m=>
     refine fin _ _ h ⟨rfl,rfl,hr⟩ λs' W' hw hz hl hc=>?_;intro gen t' e' vJ d' wB hp;exact⟨y,e',hc,rfl,rfl⟩
   |int k=>
    obtain⟨q1,q2⟩:=L.AY (.int k) rfl hr (d':=0) (w':=w) (uQ:=fz);rw[q2]at q1;exact fin _ _ h q2 λs' W' hw hz _ _=>by show(L.int k).rd 0 W'.w W'.fz y x [];grind
   |bool=>
    obtain⟨q1,q2⟩:=L.AY .bool rfl hr (d':=0) (w':=w) (uQ:=fz);rw[q2]at q1;exact fin _ _ h q2 λs' W' hw hz _ _=>by show L.bool.rd 0 W'.w W'.fz y x [];grind
   |str=>
    obtain⟨q1,q2⟩:=L.AY .str rfl hr (d':=0) (w':=w) (uQ:=fz);rw[q2]at q1;exact fin _ _ h q2 λs' W' hw hz _ _=>by show L.str.rd 0 W'.w W'.fz y x [];grind
  ·cases h
theorem Ml{s':St}{W':Wd}{g:Bool}{ls:List (L×Nat)}{u:Value}{as:List LA}(hlen:as.length=ls.length)(hg:match g with
  |true=>∃cs:Array Value,u=.agg cs/\cs.size=ls.length
  |false=>ls.length=1) (h:∀(k:Nat)(b:LA),as[k]?=some b->∃y,A8 g u k=some y/\AR s' W' b y):Ey s' W' g as u:=by
 cases g with
 |true=>
  obtain⟨cs,rfl,uh⟩:=hg;exact⟨cs,rfl,by rw[uh,hlen],h⟩
 |false=>
  match as,hlen with
  | [],h0=>dsimp only at hg;simp at h0;omega
  | [b],_=>
   obtain⟨y,hy,vH⟩:=h 0 b rfl;simp[A8]at hy;subst hy;exact vH
  |_::_::_,h0=>dsimp only at hg;simp at h0;omega
theorem G5{w:World}{fz:Nat->Prop}{d:Nat}{om:Nat->Is}:∀(rs:List (Bool×List (L×Nat))) (rv:ADM) (vsR:List (List Lv)) (rest:List Lv) (off:Nat) {bs:List (Bool×List LA)} {own:List LA} {left:List Lv},D4 w fz om rs rv vsR off->
  Dl d v rs (vsR.flatten++rest) off=some (bs,own,left)->left=rest/\bs.length=rv.length/\∃ys:ADM,ys.length=own.length/\(∀(k:Nat)(b:LA),own[k]?=some b->∃y,ys[k]?=some y/\FI w fz v b y (om (off+k)))/\
   ∀(s':St)(W':Wd),W'.w=w->W'.fz=fz->(∀k,k<own.length->s'.leaf d (off+k)=nth .bad own k/\W'.cv d (off+k)=ys[k]?)->∀(i:Nat)(p:Bool×List LA)(u:Value),bs[i]?=some p->rv[i]?=some u->Ey s' W' p.1 p.2 u
 | [],[],[],rest,off,bs,own,left,hr,h=>by simp only[Dl,List.flatten_nil,AAv,Option.some.injEq,Prod.mk.injEq]at h;grind
 | [],[],_::_,rest,off,bs,own,left,hr,h=>hr.elim
 | [],_::_,_,rest,off,bs,own,left,hr,h=>by simp[D4]at hr
 |_::_,[],_,rest,off,bs,own,left,hr,h=>by simp[D4]at hr
 |_::_,_::_,[],rest,off,bs,own,left,hr,h=>by simp[D4]at hr
 |(g,ls)::rs,u::rv,vs::vsR,rest,off,bs,own,left,hr,h=>by
  obtain⟨⟨hm,hg,w4⟩,hr⟩:=hr;have vX:vs.length=ls.length:=by have:=congrArg List.length hm;simpa using this
  simp only[Dl,AAh,List.append_assoc]at h;split at h
  ·rename_i as own1 vs1 hb;obtain⟨h1,h2,ys,h3,h4,h5,h6,h7⟩:=JX ls vs (vsR.flatten++rest) off (A8 g u) vX w4 hb;subst h1;split at h
   ·rename_i bs' own2 left' uZ;injection h with h;injection h with e1 h;injection h with e2 e3
    subst e1;subst e2;subst e3;obtain⟨q1,q2,zs,q3,q4,q5⟩:=G5 rs rv vsR rest (off+ls.length) hr uZ;refine⟨q1,by simp[q2],ys++zs,No,?_,?_⟩
    ·grind
    ·intro s' W' hw hz hs i p u' hi uY;cases i with
     |zero=>
      simp at hi uY;subst hi;subst uY;refine Ml h2 hg λk b hk=>?_;have uR:k<ls.length:=by rw[<-h2];exact(AAK.1 hk).1
      obtain⟨y,hy,vH⟩:=h7 s' W' hw hz (λk hk=>by
       obtain⟨a1,a2⟩:=hs k ADJ;rw[a1,a2];refine⟨?_,?_⟩
       ·rw[Ad,Ad,AA9 J]
       ·rw[AA9 J]) k b hk
      grind
     |succ i=>
      refine q5 s' W' hw hz (λk hk=>?_) i p u' ADR (by simpa using uY);obtain⟨a1,a2⟩:=hs (ls.length+k) ADJ;rw[show off+ls.length+k=off+(ls.length+k) by omega,a1,a2];refine⟨?_,?_⟩
      ·rw[Ad,Ad,ABJ J];congr 2;omega
      grind
   ·cases h
  ·cases h
end
end Go.Ev
namespace Go.Ev
def Ag(T:IE)(om:Key->Is):Key->Is
 | .blk i=>match T[i]? with
  |some (.box r)=>om (.blk r)
  |_=>[]
 | .lf i j=>match T[i]? with
  |some (.box r)=>om (.lf r j)
  |some (.row l)=>match l[j]? with
   |some (some p)=>p.2
   |_=>[]
  |_=>[]
 | .fl _=>[]
def FM(T:IE)(bk:Nat->Nat)(i:Nat):Nat:=match T[i]? with
 |some (.box r)=>bk r
 |_=>0
theorem Fs:∀(ps:List PM)(ui:List AV)(i:Nat)(g:Bool)(ls:List L)(av:AV),ps[i]?=some (.val g ls)->ui[i]?=some av->∀r∈av.roots,r∈Ae ps ui
 | [],_,i,g,ls,av,h,_,r,hr=>ADO
 |_::_,[],i,g,ls,av,_,h,r,hr=>ADO
 |pm::ps,a::ui,0,g,ls,av,h1,h2,r,hr=>by simp at h1 h2;subst h1;subst h2;exact AAU _ hr
 |pm::ps,a::ui,i+1,g,ls,av,h1,h2,r,hr=>by
  have:=Fs ps ui i g ls av No No r hr;cases pm with
  |val g' ye=>exact AAR _ this
  |_=>exact this
section
variable {P:Program}{E:Ck}{s:St}{W:Wd}{v:Nat}{tm:Array Value}{cx:Cx}
structure Handed(s:St)(W:Wd)(ps:List PM)(ui:List AV)(us:ADM)(uN:List (List Lv))(T:IE):Prop where
 l1:ui.length=ps.length
 l2:us.length=ps.length
 l3:uN.length=ps.length
 l4:T.length=ps.length
 nodup:(T.flatMap PT.D1).Pairwise NH
 each:∀(i:Nat)(pm:PM)(av:AV)(u:Value)(vs:List Lv)(tg:PT),ps[i]?=some pm->ui[i]?=some av->us[i]?=some u->uN[i]?=some vs->T[i]?=some tg->Gt s W pm av tg u vs
 apart:∀r∈Ae ps ui,∀(i:Nat)(p:PT),T[i]?=some p->∀x∈p.D1,x.1≠r
theorem Az{α:Type}{l:List α}{i n:Nat}(h:l.length=n)(hi:i<n):∃x,l[i]?=some x:=⟨l[i]'(by omega),AAI J⟩
theorem Handed.all{ps:List PM}{ui:List AV}{us:ADM}{uN:List (List Lv)}{T:IE}(hh:Handed s W ps ui us uN T){i:Nat}{pm:PM}(hp:ps[i]?=some pm):
  ∃av u vs tg,ui[i]?=some av/\us[i]?=some u/\uN[i]?=some vs/\T[i]?=some tg/\Gt s W pm av tg u vs:=by
 have hi:i<ps.length:=(AAK.1 hp).1;obtain⟨av,h1⟩:=Az hh.l1 hi;obtain⟨u,h2⟩:=Az hh.l2 hi;obtain⟨vs,h3⟩:=Az hh.l3 hi;obtain⟨tg,h4⟩:=Az hh.l4 hi;exact⟨av,u,vs,tg,h1,h2,h3,h4,hh.each i pm av u vs tg hp h1 h2 h3 h4⟩
theorem Handed.PD{ps:List PM}{ui:List AV}{us:ADM}{uN:List (List Lv)}{T:IE}(hh:Handed s W ps ui us uN T){i:Nat}{m:PT}(hT:T[i]?=some m):
  ∃pm av u vs,ps[i]?=some pm/\ui[i]?=some av/\us[i]?=some u/\uN[i]?=some vs/\Gt s W pm av m u vs:=by
 have hi:i<ps.length:=by rw[<-hh.l4];exact(AAK.1 hT).1
 obtain⟨pm,hp⟩:=Az rfl hi;obtain⟨av,u,vs,tg,h1,h2,h3,h4,h5⟩:=hh.all hp;grind
theorem Handed.N5{ps:List PM}{ui:List AV}{us:ADM}{uN:List (List Lv)}{T:IE}(hh:Handed s W ps ui us uN T){i j:Nat}{l:List (Option (Loc×Is))}{c:Loc}{o:Is}(hT:T[i]?=some (.row l))(hj:l[j]?=some (some (c,o))):
  ∃g ls as u vs p lv y,ps[i]?=some (.row g ls)/\ui[i]?=some (.v g as)/\us[i]?=some u/\uN[i]?=some vs/\ls[j]?=some p/\as[j]?=some (.ref c)/\vs[j]?=some lv/\Bg p.1=true/\vs.map (·.l)=ls.map (·.1)/\A8 g u j=some y/\FK s W p.2 (.ref c) (some (c,o)) lv y:=by
 obtain⟨pm,av,u,vs,e1,e2,e3,e4,e5⟩:=hh.PD hT;cases pm with
 |val g ls=>cases e5.1
 |fn f=>cases e5.1
 |box ls=>obtain⟨r,AB,_,q,_⟩:=e5;cases q
 |row g ls=>
  obtain⟨as,l',rfl,q2,q3,q4,q5,q6,q7⟩:=e5;injection q2 with q2;subst q2
  have uR:j<ls.length:=by rw[<-q4];exact(AAK.1 hj).1
  have vX:vs.length=ls.length:=by have:=congrArg List.length q5;simpa using this
  obtain⟨p,hp⟩:=Az rfl uR;obtain⟨a,ha⟩:=Az q3 uR;obtain⟨lv,vk⟩:=Az vX uR;obtain⟨y,hy,hr⟩:=q7 j p a lv _ hp ha vk hj
  have hl:lv.l=p.1:=by have:=congrArg (·[j]?) q5;simp only[AAZ,hp,vk,AA0,Option.some.injEq]at this;exact this
  have vI:=hr;rcases hr with⟨_,h0,_⟩|⟨_,_,h0,_⟩|⟨c',o',gen,t,e,xs,h,t',e',ys,rfl,h2,_,_,_,_,_,h3,_⟩
  ·cases h0
  ·cases h0
  ·injection h2 with h2;injection h2 with h2 w5;subst h2
   exact⟨g,ls,as,u,vs,p,lv,y,e1,e2,e3,e4,hp,ha,vk,by rw[<-hl,h3];rfl,q5,hy,vI⟩
theorem CI{ps:List PM}{ui:List AV}{us:ADM}{uN:List (List Lv)}{T:IE}(hh:Handed s W ps ui us uN T){k:Key}{b:Nat}(h:b∈Ag T W.om k):∃a,AQ T k=some a/\b∈W.om a:=by
 cases k with
 |fl k=>cases h
 |blk i=>
  simp only[Ag]at h;split at h
  ·rename_i r hT;exact⟨.blk r,by simp[AQ,hT],h⟩
  ·cases h
 |lf i j=>
  simp only[Ag]at h;split at h
  ·rename_i r hT;exact⟨.lf r j,by simp[AQ,hT],h⟩
  ·rename_i l hT;split at h
   ·rename_i p hp;obtain⟨c,o⟩:=p;obtain⟨g,ls,as,u,vs,p,lv,y,_,_,_,_,_,_,_,_,_,_,hr⟩:=hh.N5 hT hp;refine⟨.lf c.r c.j,by simp[AQ,hT,hp],?_⟩;rcases hr with⟨_,h0,_⟩|⟨_,_,h0,_⟩|⟨c',o',gen,t,e,xs,h',t',e',ys,_,h2,_,_,_,_,_,_,_,h4,_⟩
    all_goals grind
   ·cases h
  ·cases h
theorem JV(h:AW E s tm W){ps:List PM}{ui:List AV}{us:ADM}{uN:List (List Lv)}{T:IE}(hh:Handed s W ps ui us uN T)(k:Key):(Ag T W.om k).Nodup:=by
 cases k with
 |fl k=>exact AAS
 |blk i=>
  simp only[Ag];split
  ·exact h.sep.nodup _
  grind
 |lf i j=>
  simp only[Ag];split
  ·exact h.sep.nodup _
  ·rename_i l hT;split
   ·rename_i p hp;obtain⟨c,o⟩:=p;obtain⟨g,ls,as,u,vs,p,lv,y,_,_,_,_,_,_,_,_,_,_,hr⟩:=hh.N5 hT hp;rcases hr with⟨_,h0,_⟩|⟨_,_,h0,_⟩|⟨c',o',gen,t,e,xs,h',t',e',ys,_,h2,_,_,_,_,_,_,_,h4,h5⟩
    ·cases h0
    ·cases h0
    ·injection h2 with h2;injection h2 with h2 w5;subst h2;subst w5
     exact h5
   ·exact AAS
  grind
theorem Handed.root{ps:List PM}{ui:List AV}{us:ADM}{uN:List (List Lv)}{T:IE}(hh:Handed s W ps ui us uN T){k:Key}{r j:Nat}(h:AQ T k=some (.lf r j)):r∉Ae ps ui:=by
 cases k with
 |fl k=>cases h
 |blk i=>obtain⟨r',e,_⟩:=BE h;cases e
 |lf i j'=>
  rcases BC h with⟨r',e,hT⟩|⟨l,c,o,e,hT,hl⟩
  ·injection e with e1 e2;subst e1
   exactλhr=>hh.apart r hr i _ hT (r,none) (by simp[PT.D1]) rfl
  ·injection e with e1 e2
   exactλhr=>hh.apart r hr i _ hT _ (H0 hl) e1.symm
theorem Nh(h:AW E s tm W){r j:Nat}(hj:(s.root r).ls.length<=j):W.om (.lf r j)=[]:=by obtain⟨h1,_⟩:=h.roots r;have:=h1 j;rw[Au LA.bad hj]at this;exact this.1
theorem Fx(h:AW E s tm W){ps:List PM}{ui:List AV}{us:ADM}{uN:List (List Lv)}{T:IE}(hh:Handed s W ps ui us uN T):
  Di ps W.w (Seen W (Ae ps ui)) us uN (FM T W.bk) (Ag T W.om) where
 len:=hh.l2
 Bb:=hh.l3
 each i pm u vs hp hu w4:=by
  obtain⟨av,u',xY,tg,h1,h2,h3,h4,h5⟩:=hh.all hp;rw[hu]at h2;injection h2 with h2;subst h2
  rw[w4]at h3;injection h3 with h3;subst h3
  cases pm with
  |val g ls=>
   obtain⟨_,q1,q2,q3⟩:=h5;refine⟨q1,q2,λj p lv hj vk=>?_⟩;obtain⟨y,hy,hr⟩:=q3 j p lv hj vk;exact⟨y,hy,L.AN lv.l hr (λ_ _=>rfl) λb hb=>hb.imp id λ⟨r,hr,x⟩=>⟨r,Fs ps ui i g ls av hp h1 r hr,x⟩⟩
  |box ls=>
   obtain⟨r,AB,_,rfl,hb,hlen,uY,yk,ud⟩:=h5;obtain⟨_,vC⟩:=h.roots r;rw[AAP hb]at vC;obtain⟨_,arr,T',fr,hhp,uc,uh,uv⟩:=vC;have e1:FM T W.bk i=W.bk r:=by simp[FM,h4]
   show Mn _ _ _ _ _ _ _;rw[e1];refine⟨uY,yk,arr,T',fr,hhp,uc,J,λj p lv hj vk=>?_⟩;have uR:j<arr.size:=by rw[uh,hlen];exact(AAK.1 hj).1
   refine⟨arr[j],AAg uR,?_⟩;have e2:Ag T W.om (.lf i j)=W.om (.lf r j):=by simp[Ag,h4]
   show lv.l.rd p.2 _ _ _ _ (Ag T W.om (.lf i j));rw[e2];exact L.AN lv.l (ud j p lv arr[j] hj vk No) (λ_ _=>rfl) λb hb=>.inl hb
  |row g ls=>
   obtain⟨as,l,rfl,rfl,q3,q4,q5,q6,q7⟩:=h5;have vX:vs.length=ls.length:=by have:=congrArg List.length q5;simpa using this
   refine⟨⟨by simpa using q5,q6,λj p lv hj vk=>?_⟩,λj p hj xV hp4=>?_⟩
   rotate_left
   ·have uR:j<ls.length:=(AAK.1 hj).1;obtain⟨a,ha⟩:=Az q3 uR;obtain⟨o,ho⟩:=Az q4 uR;obtain⟨lv,vk⟩:=Az vX uR;obtain⟨y,hy,hr⟩:=q7 j p a lv o hj ha vk ho
    have hl:lv.l=p.1:=by have:=congrArg (·[j]?) q5;simp only[AAZ,hj,vk,AA0,Option.some.injEq]at this;exact this
    rcases hr with⟨hs,_⟩|⟨_,_,_,rfl,_⟩|⟨_,_,_,_,_,_,_,_,_,_,_,_,_,uV,_⟩
    ·rw[hl,xV]at hs;cases hs
    ·exact hy
    ·exact(uV hp4).elim
   have uR:j<ls.length:=(AAK.1 hj).1;obtain⟨a,ha⟩:=Az q3 uR;obtain⟨o,ho⟩:=Az q4 uR;obtain⟨y,hy,hr⟩:=q7 j p a lv o hj ha vk ho;refine⟨y,hy,?_⟩;rcases hr with⟨hs,rfl,hr⟩|⟨z8,_,rfl,rfl,t',e',rfl⟩|⟨c,o',gen,t,e,xs,h',t',e',ys,_,rfl,_,_,_,_,_,rfl,hr,_⟩
   ·have e2:Ag T W.om (.lf i j)=[]:=by simp[Ag,h4,ho]
    show lv.l.rd p.2 _ _ _ _ (Ag T W.om (.lf i j));rw[e2];exact(L.AY lv.l hs hr).1
   ·have e2:Ag T W.om (.lf i j)=[]:=by simp[Ag,h4,ho]
    show AE e' p.2 _ _ _ _ (Ag T W.om (.lf i j));rw[e2];exact Bl
   ·have e2:Ag T W.om (.lf i j)=o':=by simp[Ag,h4,ho]
    show AE e' p.2 _ _ _ _ (Ag T W.om (.lf i j));rw[e2];exact hr.frame (λ_ _=>rfl) λb hb=>.inl hb
  |fn f=>exact h5.2
 blk i:=by
  cases hp:ps[i]? with
  |none=>
   have:T[i]?=none:=List.getElem?_eq_none (by have:=List.getElem?_eq_none_iff.1 hp;rw[hh.l4];exact this);simp[Ag,this]
  |some pm=>
   obtain⟨av,u',xY,tg,h1,h2,h3,h4,h5⟩:=hh.all hp;cases pm with
   |val g ls=>obtain⟨rfl,_⟩:=h5;simp[Ag,h4]
   |fn f=>obtain⟨rfl,_⟩:=h5;simp[Ag,h4]
   |row g ls=>obtain⟨as,l,_,rfl,_⟩:=h5;simp[Ag,h4]
   |box ls=>
    obtain⟨r,AB,_,rfl,hb,_⟩:=h5;obtain⟨_,vC⟩:=h.roots r;rw[AAP hb]at vC;simp[Ag,FM,h4,vC.1]
 none i hn1 hn2 j:=by
  cases hp:ps[i]? with
  |none=>
   have:T[i]?=none:=List.getElem?_eq_none (by have:=List.getElem?_eq_none_iff.1 hp;rw[hh.l4];exact this);simp[Ag,this]
  |some pm=>
   obtain⟨av,u',xY,tg,h1,h2,h3,h4,h5⟩:=hh.all hp;cases pm with
   |val g ls=>obtain⟨rfl,_⟩:=h5;simp[Ag,h4]
   |fn f=>obtain⟨rfl,_⟩:=h5;simp[Ag,h4]
   |row g ls=>grind
   |box ls=>grind
 box i ls hp j hj:=by
  obtain⟨av,u',xY,tg,h1,h2,h3,h4,h5⟩:=hh.all hp;obtain⟨r,AB,_,rfl,hb,hlen,_⟩:=h5;have e2:Ag T W.om (.lf i j)=W.om (.lf r j):=by simp[Ag,h4]
  rw[e2];exact Nh h J
 row i g ls hp j hj:=by obtain⟨av,u',xY,tg,h1,h2,h3,h4,h5⟩:=hh.all hp;obtain⟨as,l,_,rfl,_,hl,_⟩:=h5;have:l[j]?=none:=List.getElem?_eq_none J;simp[Ag,h4,this]
 fl k:=rfl
 nodup k:=JV h hh k
 A7 k k' uV b hb uZ:=by obtain⟨a,ha,hb⟩:=CI hh hb;obtain⟨a',zx,uZ⟩:=CI hh uZ;refine h.sep.A7 a a' (λe=>uV ?_) b hb uZ;subst e;exact BR hh.nodup ha zx
 own k b hb:=by
  obtain⟨a,ha,hb⟩:=CI hh hb;obtain⟨q1,q2,q3⟩:=h.sep.own a b hb;refine⟨?_,q2⟩
  rintro (hz|⟨r,hr,j,hz⟩)
  ·exact q1 hz
  ·have hab:a=.lf r j:=AAl λuV=>h.sep.A7 a _ uV b hb hz;subst hab;exact hh.root ha hr
 fz b hb:=by
  rcases hb with hz|⟨r,hr,j,hz⟩
  ·exact(h.sep.fz b hz).1
  ·exact(h.sep.own _ b hz).2.1
end
end Go.Ev
