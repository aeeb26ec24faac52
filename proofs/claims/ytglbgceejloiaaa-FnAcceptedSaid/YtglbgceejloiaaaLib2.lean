/- A plain evaluator for Go's loaded code,and that it is sound;part 2. Conditions: none. -/
import Derived.Test.YtglbgceejloiaaaLib1
import Derived.Laws.BytesArg
import Derived.Sort.Grow
import Derived.Deep.Draws
namespace Go.Ev
set_option linter.unusedVariables false
set_option linter.unusedSimpArgs false
theorem DA {P:Program} {w w':World} (t ty e:TypeId) (i:TypeInfo) (ht:P.underlying t=some (.slice e)) (hi:P.info? e=some i) (b:Addr) (sLen sCap:Nat) (A:Option Addr) (n c:Nat) (news:List Value)
  (hf:(Builtin.firstCells i.size n (.slice A n c)).run P w = .ok news.toArray w) (hfit:sLen+n≤sCap) (hst:(storeCells (b.add (sLen * i.size)) news).run P w = .ok () w') :
  (Builtin.append_ #[t,t] ty #[.slice (some b) sLen sCap, .slice A n c]).run P w = .ok (.slice (some b) (sLen+n) sCap) w':=by
 simp [Builtin.append_,run_underlying ht,sizeOf,typeInfo,hi,Builtin.lenOf,hfit,hf,hst]
theorem Cn {P:Program} {w:World} (t ty e:TypeId) (i:TypeInfo) (ht:P.underlying t=some (.slice e)) (hi:P.info? e=some i) (sCap:Nat) (A:Option Addr) (c:Nat) (news:List Value)
  (hf:(Builtin.firstCells i.size 0 (.slice A 0 c)).run P w = .ok news.toArray w) :
  (Builtin.append_ #[t,t] ty #[.slice none 0 sCap, .slice A 0 c]).run P w = .ok (.slice none 0 sCap) w:=by
 simp [Builtin.append_,run_underlying ht,sizeOf,typeInfo,hi,Builtin.lenOf,hf]
theorem OZ {t' t:TypeId} {e' e:Ls} {xs:List e'.D} {ys:List e.D} (h:L.cast (a := .sl t' e') (.sl t e) xs=some ys):t'=t∧∃ he:e'=e,∀ (Q:(f:Ls)→List f.D→Prop),Q e' xs→Q e ys:=by
 obtain ⟨h1,h2⟩:=L.AI h
 cases h1
 have h2:xs=ys:=h2
 subst h2
 exact ⟨rfl,rfl,fun Q hq=>hq⟩
theorem DJ {α β:Type}:∀ l:List α,(l.flatMap fun _=>([]:List β))=[]
 | []=>rfl
 | _::l=>by simp [DJ l]
section
variable {P:Program} {E:Cq} {s:St} {W:Wd} {o:Oper} {a:Act} {ws:List Wr} {cx:Cx} {v:Nat}
theorem MK (e:Ls) (m k:Nat) (hk:k<m):(madeCells (e.kinds.map CJ).toArray m)[k]? = some ((e.kinds.map CJ).toArray[k % e.n]!):=by
 simp [madeCells,hk,BB]
theorem MJ (e:Ls) (hp:0<e.n) (n:Nat) {d:Nat} {w:World} {fz:Nat→Prop}:B3 e d w fz (fun k=>(madeCells (e.kinds.map CJ).toArray (n * e.n))[0+k]?) (List.replicate n (FQ e)) fun _=>[]:=by
 intro i hi
 rw [List.getElem_replicate]
 refine Ls.Fx e fun j hj => ?_
 simp only [Nat.zero_add]
 rw [MK e _ _ (KY (by simpa using hi) hj),Nat.mul_add_mod',Nat.mod_eq_of_lt hj]
 simp [BB,hj]
theorem JM (hc:Dg P cx) (h:AW E s a.tmps W) (hv:Ae s v) {t:TypeId} {x y:Operand} (ho:o.op = .makeSlice t x y) (hd:∀ d,o.dst=some d→d<a.tmps.size) (hl:(AB cx v o s).leads ws):Bc P E o a W.w (s.app ws):=by
 simp only [AB,ho] at hl
 split at hl
 ·rename_i ty d ht hds
  split at hl
  ·exact hl.elim
  ·rename_i hag
   split at hl
   ·rename_i t' e hls
    obtain ⟨kl,n,hx,hl⟩:=EK (Ad h x) hl
    obtain ⟨kc,m,hy,hl⟩:=EK (Ad h y) hl
    rcases Ag hl with ⟨hb,hl⟩ | ⟨_,hl⟩
    ·simp only [Bool.and_eq_true,decide_eq_true_eq] at hb
     obtain ⟨⟨h0,h1⟩,rfl⟩:=hb
     obtain ⟨hund,hel⟩:=(Cg hc ht hls (by simpa using hag):GK P t (.sl t' e))
     obtain ⟨i,hi,hsz,hby,z,hz,hzc⟩:=hel.info
     have h1':m≤68719476736:=h1
     have hrun:=run_make (P:=P) W.w t t' i z hund hi hz kl kc m m h0 (Int.le_refl _)
      (Int.le_trans (Int.mul_le_mul (show (i.bytes:Int)≤1024 by omega) h1' h0 (by decide)) (by decide)) (by omega)
     rw [hzc,hsz] at hrun
     obtain ⟨W',hW',hrep⟩:=h.Cl hv [] (hd d hds) (t0:=t') (e:=e) (xs:=List.replicate m.toNat (FQ e)) (dd:=2) (u := .slice (some ⟨W.w.heap.size,0,none⟩) m.toNat m.toNat) (w':=W.w.alloc (.cells (madeCells (e.kinds.map CJ).toArray (m.toNat * e.n)) t')) (o:=[W.w.heap.size]) (Ea h _) (fun b hb _=>A9 _ _ (by have:=h.sep.size;omega)) (by rw [Ac];omega) ⟨rfl,rfl,rfl⟩
      (by
       have:=Gc (e:=e) (w:=W.w.alloc (.cells (madeCells (e.kinds.map CJ).toArray (m.toNat * e.n)) t')) (fz:=W.fz) (ad:=⟨W.w.heap.size,0,none⟩) (c:=m.toNat) (xs:=List.replicate m.toNat (FQ e)) (os:=fun _=>[])
        (heap_alloc_new _ _) rfl (by intro j _;simp) (by simp [size_madeCells]) (by simp) (MJ e hel.pos m.toNat)
       simpa [DJ] using this) (by simp) (fun b hb=>by simp at hb;subst hb;exact .inr ⟨Nat.le_refl _,by rw [Ac];omega⟩)
     have hl:_=ws:=hl
     rw [← hl]
     refine Be h hds ?_ hW' hrep
     simp [execOp,ho,hx,hy,hrun]
    ·exact hl.elim
   ·exact hl.elim
 ·exact hl.elim
def KO (P:Program) (s:St) (W:Wd) (e:Ls) (u:Value) (ys:List e.D) (us:List (Nat×Nat)):Prop :=
 ∃ A c g os,u = .slice A ys.length c∧(A=none→ys=[])∧(∀ ad,A=some ad→ys≠[]→ad.spot=none∧∀ k,W.w.cell? (at_ ad k)=g k)∧B3 e 2 W.w W.fz g ys os∧((List.range ys.length).flatMap os).Nodup ∧
  (∀ i,i<ys.length→∀ b∈os i,∃ r j,(r,j)∈us∧b∈W.om (.lf r j))∧us.Nodup
theorem JG (h:AW E s a.tmps W) {la:LA} {u:Value} (hu:AR s W la u) {t:TypeId} {e:Ls} {β:Type} {k:List e.D→List (Nat×Nat)→Step β} {z:β} (hl:(EX cx s la t e k).leads z) :
  ∃ ys us,(k ys us).leads z∧KO P s W e u ys us:=by
 unfold EX at hl
 split at hl
 ·rename_i hf
  obtain ⟨ys,hl,hr⟩:=Bl h hu hl
  refine ⟨ys,[],hl, ?_⟩
  obtain ⟨A,c,hv,hc,hn,hsome⟩:=AD.KL (L.Kf.1 hr)
  cases A with
  | none =>
   have:ys=[]:=List.eq_nil_of_length_eq_zero (by have:=(hn rfl).1;omega)
   subst this
   exact ⟨none,c,fun _=>none,fun _=>[],hv,fun _=>rfl,(fun ad had _=>by cases had),(fun i hi=>by simp at hi),by simp,(fun i hi=>by simp at hi),List.nodup_nil⟩
  | some ad =>
   by_cases hc0:c=0
   ·have:ys=[]:=List.eq_nil_of_length_eq_zero (by omega)
    subst this
    exact ⟨some ad,c,fun _=>none,fun _=>[],hv,fun _=>rfl,(fun ad had hne=>absurd rfl hne),(fun i hi=>by simp at hi),by simp,(fun i hi=>by simp at hi),List.nodup_nil⟩
   obtain ⟨arr,T,fr,os,hs,hh,_,_,hel,_,_⟩:=hsome ad rfl (.inl (by omega))
   refine ⟨some ad,c,_,_,hv,(fun hA=>by cases hA), ?_,B3.flat hf hel 2 W.w W.fz,by simp [DJ],(fun i hi b hb=>by cases hb),List.nodup_nil⟩
   intro ad' had _
   injection had with had;subst had
   exact ⟨hs,fun k=>by simp [World.cell?,at_,hh]⟩
 ·split at hl
  ·rename_i c
   split at hl
   ·rename_i AA gen t' e' xs d hleaf
    split at hl
    ·rename_i hcond
     simp only [Bool.and_eq_true,beq_iff_eq,Bool.not_eq_true'] at hcond
     obtain ⟨⟨⟨hver,hp⟩,hpin⟩,hd⟩:=hcond
     subst hver;subst hd
     have hp:c.p=[]:=by cases hq:c.p <;> simp_all [isNil]
     split at hl
     ·rename_i ys hys
      obtain ⟨h1,h2⟩:=L.AI hys
      cases h1
      have h2:xs=ys:=h2
      subst h2
      obtain ⟨h',e',hcv,hn⟩:=hu gen _ _ _ _ hleaf (.inl hp)
      rw [hp] at hn
      obtain ⟨rfl,rfl⟩:=hn
      obtain ⟨u',hu',hrd⟩:=(h.roots c.r).row hleaf
      rw [hcv] at hu';injection hu' with hu';subst hu'
      refine ⟨xs,_,hl, ?_⟩
      obtain ⟨A,cc,hv,hc,hn,hsome⟩:=hrd.KL
      cases A with
      | none =>
       have:xs=[]:=List.eq_nil_of_length_eq_zero (by have:=(hn rfl).1;omega)
       subst this
       exact ⟨none,cc,fun _=>none,fun _=>[],hv,fun _=>rfl,(fun ad had _=>by cases had),(fun i hi=>by simp at hi),by simp,(fun i hi=>by simp at hi),by simp⟩
      | some ad =>
       obtain ⟨arr,T,fr,os,hs,hh,_,_,hel,ho,_⟩:=hsome ad rfl (.inr (by decide))
       have ho:=ho (by decide)
       have hnd:=h.sep.nodup (.lf c.r c.j)
       rw [ho] at hnd
       refine ⟨some ad,cc,_,os,hv,(fun hA=>by cases hA), ?_,hel,(List.nodup_cons.1 hnd).2, ?_,by simp⟩
       ·intro ad' had _
        injection had with had;subst had
        exact ⟨hs,fun k=>by simp [World.cell?,at_,hh]⟩
       ·intro i hi b hb
        exact ⟨c.r,c.j,by simp,by rw [ho];exact List.mem_cons_of_mem _ (List.mem_flatMap.2 ⟨i,List.mem_range.2 hi,hb⟩)⟩
     ·exact hl.elim
    ·exact hl.elim
   ·exact hl.elim
  ·exact hl.elim
theorem LF {w:World} {fz:Nat→Prop} {v:Value} {xs:List Int} {d:Nat} {oo:List Nat} {t1 t2 t0:TypeId} (e1:P.underlying t1=some (.slice t0)) (e2:P.underlying t2=some .string) (e0:P.underlying t0=some (.int .u8))
  (hr:AD (.one (.int .u8)) d w fz v xs oo):(convert t1 t2 v).run P w = .ok (.string ⟨(bytesOf xs).toArray⟩) w:=by
 obtain ⟨A,c,hv,hc',hnone,hsome⟩:=hr.KL
 have hv:v = .slice A (List.length (α:=Int) xs) c:=hv
 have hc':List.length (α:=Int) xs≤c:=hc'
 rw [hv]
 cases A with
 | none =>
  obtain ⟨hc0,_⟩:=hnone rfl
  have hx0:xs=[]:=List.eq_nil_of_length_eq_zero (by omega)
  subst hx0
  rw [run_convert_bytes_nil w t1 t0 e1 e0 _ _ t2 e2]
  rfl
 | some ad =>
  by_cases hpos:0<c
  ·obtain ⟨arr,T,fr,os,hs,hh,hsz,_,hel,_⟩:=hsome ad rfl (.inl hpos)
   obtain ⟨b,off,sp⟩:=ad
   dsimp only at hs hh hsz hel
   subst hs
   rw [run_convert_bytes_arg w t1 t0 e1 e0 b off (List.length (α:=Int) xs) c xs rfl (fun i hi=>by
    obtain ⟨y,hy,hr2⟩:=hel i hi
    have hy:arr[off+(i * 1+0)]? = some y:=hy
    have hy2:y = .int .u8 (xs[i]'hi):=hr2.1
    simp only [World.cell?,hh]
    simp only [Nat.mul_one,Nat.add_zero] at hy
    simp [hy,hy2,List.getD,List.getElem?_eq_getElem hi]) t2 e2]
   rfl
  ·have hx0:xs=[]:=List.eq_nil_of_length_eq_zero (by omega)
   subst hx0
   rw [run_convert_bytes_string w t1 t2 t0 (some ad) _ c e1 e0 e2]
   have:=run_bytesToString (P:=P) w ad 0 c [] (by
    have:=run_loadCells_list (P:=P) (w:=w) ad [] (fun j v hj=>by simp at hj)
    simpa using this)
   exact this
theorem Ka (hc:Dg P cx) (h:AW E s a.tmps W) {t1 t2:TypeId} {x:Operand} (ho:o.op = .convert t1 t2 x) (hl:(AB cx v o s).leads ws):Bc P E o a W.w (s.app ws):=by
 simp only [AB,ho] at hl
 have h1:=Ad h x
 generalize s.Ai x=p at hl h1
 split at hl
 ·rename_i ta ty k0 n hta ht
  split at hl
  ·exact hl.elim
  ·rename_i hag
   split at hl
   ·rename_i k hls
    rw [AN hl]
    have hu:P.underlying t2=some (.int k):=Cg hc ht hls (by simpa using hag)
    have hd:∃ d,P.underlying t1=some d:=by
     cases hg:ta.agg with
     | true=>obtain ⟨fs,hfs,_⟩:=(hc _ _ hta).agg hg;exact ⟨_,hfs⟩
     | false=>obtain ⟨l,_,hlo⟩:=(hc _ _ hta).lone hg;obtain ⟨d,hd,_⟩:=hlo.JI;exact ⟨d,hd⟩
    obtain ⟨d,hd⟩:=hd
    refine AT h (u := .int k (k.wrap n)) ?_ (Bj _ _)
    have e1:a.eval x = .int k0 n:=h1.1
    simp only [execOp,ho,convert,Sem.run_bind,run_underlying hd,run_underlying hu,Result.andThen_ok,e1]
    simp [Conv.intToInt]
   ·exact hl.elim
 ·rename_i ta ty p hta ht hno
  split at hl
  ·exact hl.elim
  ·rename_i hag
   simp only [Bool.or_eq_true,not_or,Bool.not_eq_true] at hag
   obtain ⟨hg1,hg2⟩:=hag
   split at hl
   ·rename_i t0 hls1 hls2
    split at hl
    ·rename_i hu8
     have e1:P.underlying t1=some (.slice t0):=(Cg hc hta hls1 hg1).1
     have e2:P.underlying t2=some .string:=Cg hc ht hls2 hg2
     have e0:P.underlying t0=some (.int .u8):=by
      unfold IV at hu8
      split at hu8
      ·rename_i ty0 hty0
       simp only [Bool.and_eq_true,Bool.not_eq_true'] at hu8
       exact Cg hc hty0 (Ls.Dj hu8.2) hu8.1
      ·cases hu8
     obtain ⟨xs,hl,hr⟩:=Bl h h1 hl
     rw [AN hl]
     have hrun:=LF e1 e2 e0 (xs:=xs) hr
     refine AT h (u := .string ⟨(bytesOf xs).toArray⟩) ?_ (Kh _)
     simp [execOp,ho,hrun]
    ·exact hl.elim
   ·exact hl.elim
 ·exact hl.elim
end
end Go.Ev
namespace Go.Ev
set_option linter.unusedVariables false
set_option linter.unusedSimpArgs false
section
variable {P:Program} {E:Cq} {s:St} {W:Wd} {o:Oper} {a:Act} {ws:List Wr} {cx:Cx} {v:Nat} {tm:Array Value}
theorem IY (n m:Nat) (os os':Nat→List Nat):((List.range (n+m)).flatMap fun i=>if i<n then os i else os' (i - n))=(List.range n).flatMap os++(List.range m).flatMap os':=by
 rw [List.range_add,List.flatMap_append]
 congr 1
 ·rw [List.flatMap_def,List.flatMap_def]
  congr 1
  refine List.map_congr_left fun i hi => ?_
  rw [if_pos (List.mem_range.1 hi)]
 ·rw [List.flatMap_map,List.flatMap_def,List.flatMap_def]
  congr 1
  refine List.map_congr_left fun i hi => ?_
  rw [if_neg (by omega)];congr 1;omega
theorem LC (h:AW E s tm W) (hv:Ae s v) {t t0 ty:TypeId} {e:Ls} (hund:P.underlying t=some (.slice t0)) (hel:Lr P t0 e) {d:Nat} (hd:d<tm.size) {ux uy:Value} {xs ys:List e.D} {us1 us2:List (Nat×Nat)} {o1:List Nat}
  (hx:AD e 2 W.w W.fz ux xs o1) (hn1:o1.Nodup) (hfrom1:∀ b∈o1,∃ r j,(r,j)∈us1∧b∈W.om (.lf r j)) (hy:KO P s W e uy ys us2) (hap:∀ x∈us1,x∉us2) (hlen:xs.length+ys.length≤DZ) (t1:TypeId) :
  ∃ u w',(Builtin.append_ #[t,t] ty #[ux,uy]).run P W.w = .ok u w'∧∃ W',W'.w=w'∧AW E (s.app (gone (us1++us2)++ownRow d v t1 e (xs++ys))) (tm.setIfInBounds d u) W':=by
 obtain ⟨i,hi,hsz,hby,z,hz,hzc⟩:=hel.info
 have hpos:=hel.pos
 have hlen':xs.length+ys.length≤68719476736:=hlen
 obtain ⟨A1,c1,hux,hc1,hA1,hs1⟩:=hx.KL
 obtain ⟨A2,c2,g2,os2,huy,hA2,hs2,hel2,hnd2,hfrom2,hnus2⟩:=hy
 have hcross:∀ b∈o1,∀ i,i<ys.length→b∉os2 i:=by
  intro b hb i hi hb'
  obtain ⟨r,j,hm,h1⟩:=hfrom1 b hb
  obtain ⟨r',j',hm',h1'⟩:=hfrom2 i hi b hb'
  by_cases he:(r,j)=(r',j')
  ·exact hap _ hm (by rw [he];exact hm')
  ·exact h.sep.A6 (.lf r j) (.lf r' j') (fun e=>he (by injection e with e1 e2;rw [e1,e2])) b h1 h1'
 have hfl2:∀ b∈(List.range ys.length).flatMap os2,∃ i,i<ys.length∧b∈os2 i:=by
  intro b hb
  obtain ⟨i,hi,hb⟩:=List.mem_flatMap.1 hb
  exact ⟨i,List.mem_range.1 hi,hb⟩
 have hfromAll:∀ b,(b∈o1∨b∈(List.range ys.length).flatMap os2)→∃ r j,(r,j)∈us1++us2∧b∈W.om (.lf r j):=by
  intro b hb
  rcases hb with hb | hb
  ·obtain ⟨r,j,hm,h1⟩:=hfrom1 b hb;exact ⟨r,j,List.mem_append_left _ hm,h1⟩
  ·obtain ⟨i,hi,hb⟩:=hfl2 b hb
   obtain ⟨r,j,hm,h1⟩:=hfrom2 i hi b hb;exact ⟨r,j,List.mem_append_right _ hm,h1⟩
 have hlt:∀ b,(∃ r j,(r,j)∈us1++us2∧b∈W.om (.lf r j))→b<W.w.heap.size:=fun b ⟨r,j,_,hb⟩=>(h.sep.own _ b hb).2.1
 have hnews:∃ news:List Value,news.length=ys.length * e.n∧(∀ k,k<ys.length * e.n→news[k]? = g2 k)∧(∀ v∈news,v.oneCell'=true) ∧
   (Builtin.firstCells i.size ys.length (.slice A2 ys.length c2)).run P W.w = .ok news.toArray W.w∧∀ ad,A2=some ad→∀ j u,news[j]? = some u→W.w.cell? (ad.add j)=some u:=by
  have hcell:=hel2.cell
  have hadd:∀ ad,A2=some ad→∀ j u,(BV g2 (ys.length * e.n))[j]? = some u→W.w.cell? (ad.add j)=some u:=by
   intro ad had j u hj
   have hlt:j<ys.length * e.n:=by have:=(List.getElem?_eq_some_iff.1 hj).1;rwa [AF] at this
   rw [Bh hcell j hlt] at hj
   obtain ⟨hs,hg⟩:=hs2 ad had (fun h0=>by rw [h0] at hlt;simp at hlt)
   rw [EH hs,hg,hj]
  refine ⟨BV g2 (ys.length * e.n),AF _ _,Bh hcell,FE hcell, ?_,hadd⟩
  cases hA:A2 with
  | none =>
   have:=hA2 hA;subst this
   rw [run_firstCells_none]
   simp [BV]
  | some ad=>exact run_firstCells_some W.w i.size ys.length ad ys.length c2 _ (by rw [AF,hsz]) (hadd ad hA)
 obtain ⟨news,hnl,hng,hn1',hnf,hncell⟩:=hnews
 subst hux;subst huy
 have fresh:∀ (os1:Nat→List Nat) (arr:Array Value) (cap:Nat),xs.length+ys.length≤cap→cap * e.n≤arr.size→B3 e 2 W.w W.fz (fun k=>arr[k]?) xs os1→(∀ k,k<ys.length * e.n→arr[xs.length * e.n+k]? = g2 k) →
   (∀ b∈(List.range xs.length).flatMap os1,b∈o1)→((List.range xs.length).flatMap os1).Nodup →
   ∃ W',W'.w=W.w.drew.alloc (.cells arr t0)∧AW E (s.app (gone (us1++us2)++ownRow d v t1 e (xs++ys))) (tm.setIfInBounds d (.slice (some ⟨W.w.heap.size,0,none⟩) (xs.length+ys.length) cap)) W':=by
  intro os1 arr cap hcap hsize hx1 hy1 hsub hnd1
  have hold:∀ b,b<W.w.heap.size→(W.w.drew.alloc (.cells arr t0)).heap[b]? = W.w.heap[b]? := fun b hb=>A9 W.w.drew _ hb
  have hels:B3 e 2 (W.w.drew.alloc (.cells arr t0)) W.fz (fun k=>arr[0+k]?) (xs++ys) fun i=>if i<xs.length then os1 i else os2 (i - xs.length):=by
   refine B3.append ?_ ?_
   ·refine B3.congr (g:=fun k=>arr[k]?) ?_ fun k _=>by simp only [Nat.zero_add]
    refine hx1.frame (fun b hb=>hold b ?_) fun _ hb=>hb
    rcases hb with ⟨i,hi,hb⟩ | hb
    ·exact hlt b (hfromAll b (.inl (hsub b (List.mem_flatMap.2 ⟨i,List.mem_range.2 hi,hb⟩))))
    ·exact (h.sep.fz b hb).1
   ·refine B3.congr (g:=g2) ?_ fun k hk=>by simp only [Nat.zero_add];exact hy1 k hk
    refine hel2.frame (fun b hb=>hold b ?_) fun _ hb=>hb
    rcases hb with ⟨i,hi,hb⟩ | hb
    ·obtain ⟨r,j,hm,h1⟩:=hfrom2 i hi b hb;exact (h.sep.own _ b h1).2.1
    ·exact (h.sep.fz b hb).1
  have hrow:=Gc (w:=W.w.drew.alloc (.cells arr t0)) (ad:=⟨W.w.heap.size,0,none⟩) (c:=cap) (fr:=(0,0)) (T:=t0) (heap_alloc_new W.w.drew _) rfl (by intro j _;simp) (by simpa using hsize) (by simpa using hcap) hels
  rw [List.length_append,IY] at hrow
  refine h.Cl hv (us1++us2) hd (t0:=t1) (fun b hb=>hold b ?_) (fun b hb _=>hold b (by have:=h.sep.size;omega)) (by show _≤(W.w.drew.alloc _).heap.size;rw [Ac];simp) ⟨rfl,rfl,rfl⟩ hrow ?_ ?_
  ·rcases hb with hb | ⟨k,_,hb⟩
   ·exact (h.sep.fz b hb).1
   ·exact (h.sep.own k b hb).2.1
  ·refine List.nodup_cons.2 ⟨fun hin => ?_,List.nodup_append.2 ⟨hnd1,hnd2,fun x hx y hy e => ?_⟩⟩
   ·have:=hlt _ (hfromAll _ ((List.mem_append.1 hin).imp (hsub _) id));exact absurd this (Nat.lt_irrefl _)
   ·subst e;obtain ⟨i,hi,hb⟩:=hfl2 x hy;exact hcross x (hsub x hx) i hi hb
  ·intro b hb
   rcases List.mem_cons.1 hb with rfl | hb
   ·exact .inr ⟨Nat.le_refl _,by show _<(W.w.drew.alloc _).heap.size;rw [Ac];simp⟩
   ·exact .inl (hfromAll b ((List.mem_append.1 hb).imp (hsub b) id))
 cases A1 with
 | none =>
  obtain ⟨rfl,rfl⟩:=hA1 rfl
  have hx0:xs=[]:=List.eq_nil_of_length_eq_zero (by omega)
  subst hx0
  cases ys with
  | nil =>
   refine ⟨_,_,Cn t ty t0 i hund hi 0 A2 c2 news hnf, ?_⟩
   exact h.Cl hv (us1++us2) hd (t0:=t1) (fun _ _=>rfl) (fun _ _ _=>rfl) (Nat.le_refl _) ⟨rfl,rfl,rfl⟩ Bz List.nodup_nil (fun b hb=>by cases hb)
  | cons y ys =>
   cases A2 with
   | none=>have:=hA2 rfl;cases this
   | some ad2 =>
    refine ⟨_,_,run_append_nil W.w t ty t0 i z hund hi hz ad2 (y::ys).length c2 news (by rw [hnl,hsz]) (hncell ad2 rfl) (by simp) (by simp at hlen' ⊢;omega) (Nat.le_trans (Nat.mul_le_mul (show _≤68719476736 by simp at hlen' ⊢;omega) hby) (by decide)), ?_⟩
    have hge:=grownCap_ge W.w (y::ys).length 0 t0
    have:=fresh (fun _=>[]) (news.toArray++Builtin.zeroCells z.cells (grownCap W.w (y::ys).length 0 t0 - (y::ys).length)) (grownCap W.w (y::ys).length 0 t0) (by simpa using hge)
     (by
      have:(y::ys).length * e.n+(grownCap W.w (y::ys).length 0 t0 - (y::ys).length) * e.n=grownCap W.w (y::ys).length 0 t0 * e.n:=by rw [← Nat.add_mul];congr 1;omega
      simp only [Array.size_append,List.size_toArray,hnl,Builtin.zeroCells,Array.size_map,Array.size_range,hzc,List.length_map,BB]
      omega) (fun i hi=>by simp at hi)
     (by
      intro k hk
      rw [← hng k hk]
      simp only [List.length_nil,Nat.zero_mul,Nat.zero_add]
      rw [Array.getElem?_append_left (by simpa [hnl] using hk)]
      simp) (by simp) (by simp)
    simpa using this
 | some ad1 =>
  obtain ⟨arr,T,fr,os1,hs,hh,hfit,hbare0,hx1,ho10,_⟩:=hs1 ad1 rfl (.inr (by decide))
  have ho1:o1=ad1.block::(List.range xs.length).flatMap os1:=ho10 (by decide)
  have hbare:=hbare0 (by decide)
  clear ho10 hbare0 hs1
  obtain ⟨b1,off1,sp1⟩:=ad1
  dsimp only at hs hh hfit hx1 ho1
  subst hs
  have hnd1:(b1::(List.range xs.length).flatMap os1).Nodup:=ho1 ▸ hn1
  by_cases hcap:xs.length+ys.length≤c1
  ·
   have hmul:(xs.length+ys.length) * e.n≤c1 * e.n:=Nat.mul_le_mul_right _ hcap
   rw [Nat.add_mul] at hmul
   obtain ⟨w',hst,hput⟩:=DR (P:=P) (o:=off1+xs.length * e.n) news hh hbare (by rw [hnl];omega) hn1'
   have hadd:(⟨b1,off1,none⟩:Addr).add (xs.length * i.size)=⟨b1,off1+xs.length * e.n,none⟩:=by rw [hsz];exact B4 _ _ _
   refine ⟨_,_,DA t ty t0 i hund hi ⟨b1,off1,none⟩ xs.length c1 A2 ys.length c2 news hnf hcap (by rw [hadd];exact hst), ?_⟩
   have hb1:b1∈o1:=by rw [ho1];simp
   have hget:=CS news (off1+xs.length * e.n) arr (by rw [hnl];omega)
   have hels:B3 e 2 w' W.fz (fun k=>(B9 news (off1+xs.length * e.n) arr)[off1+k]?) (xs++ys) fun i=>if i<xs.length then os1 i else os2 (i - xs.length):=by
    refine B3.append ?_ ?_
    ·refine B3.congr (g:=fun k=>arr[off1+k]?) ?_ fun k hk => ?_
     ·refine hx1.frame (fun b hb=>hput.CG b ?_) fun _ hb=>hb
      rintro rfl
      rcases hb with ⟨i,hi,hb⟩ | hb
      ·exact (List.nodup_cons.1 hnd1).1 (List.mem_flatMap.2 ⟨i,List.mem_range.2 hi,hb⟩)
      ·obtain ⟨r,j,_,h1⟩:=hfrom1 b hb1;exact (h.sep.own _ b h1).1 hb
     ·rw [hget,if_neg (by omega)]
    ·refine B3.congr (g:=g2) ?_ fun k hk => ?_
     ·refine hel2.frame (fun b hb=>hput.CG b ?_) fun _ hb=>hb
      rintro rfl
      rcases hb with ⟨i,hi,hb⟩ | hb
      ·exact hcross b hb1 i hi hb
      ·obtain ⟨r,j,_,h1⟩:=hfrom1 b hb1;exact (h.sep.own _ b h1).1 hb
     ·rw [← hng k hk,hget,if_pos (by rw [hnl];omega)]
      congr 1;omega
   have hrow:=Gc (w:=w') (ad:=⟨b1,off1,none⟩) (c:=c1) hput.here rfl (by rw [Al];exact hbare) (by rw [Al];exact hfit) (by simpa using hcap) hels
   rw [List.length_append,IY] at hrow
   refine h.Cl hv (us1++us2) hd (t0:=t1) (fun b hb=>hput.CG b ?_) (fun b hb hio=>hput.CG b ?_) (by rw [hput.size];exact Nat.le_refl _) hput.rest hrow ?_ ?_
   ·rintro rfl
    obtain ⟨r,j,hm,h1⟩:=hfrom1 b hb1
    rcases hb with hb | ⟨k,hk,hb⟩
    ·exact (h.sep.own _ b h1).1 hb
    ·by_cases hkk:k = .lf r j
     ·subst hkk;exact hk.2 (List.mem_append_left _ hm)
     ·exact h.sep.A6 k _ hkk b hb h1
   ·rintro rfl
    obtain ⟨r,j,hm,h1⟩:=hfrom1 b hb1
    rcases (h.sep.own _ b h1).2.2 with h2 | h2
    ·omega
    ·exact hio h2
   ·refine List.nodup_cons.2 ⟨fun hin => ?_,List.nodup_append.2 ⟨(List.nodup_cons.1 hnd1).2,hnd2,fun x hx y hy e => ?_⟩⟩
    ·rcases List.mem_append.1 hin with hin | hin
     ·exact (List.nodup_cons.1 hnd1).1 hin
     ·obtain ⟨i,hi,hb⟩:=hfl2 _ hin;exact hcross _ hb1 i hi hb
    ·subst e;obtain ⟨i,hi,hb⟩:=hfl2 x hy;exact hcross x (by rw [ho1];exact List.mem_cons_of_mem _ hx) i hi hb
   ·intro b hb
    rcases List.mem_cons.1 hb with rfl | hb
    ·exact .inl (hfromAll _ (.inl hb1))
    ·exact .inl (hfromAll b ((List.mem_append.1 hb).imp (fun hx=>by rw [ho1];exact List.mem_cons_of_mem _ hx) id))
  ·
   cases A2 with
   | none=>have:=hA2 rfl;subst this;exact absurd hc1 (by simpa using hcap)
   | some ad2 =>
    have hcell1:=hx1.cell
    have hg1:=Bh hcell1
    have holds:∀ j u,(BV (fun k=>arr[off1+k]?) (xs.length * e.n))[j]? = some u→W.w.cell? ((⟨b1,off1,none⟩:Addr).add j)=some u:=by
     intro j u hj
     have hlt:j<xs.length * e.n:=by have:=(List.getElem?_eq_some_iff.1 hj).1;rwa [AF] at this
     rw [hg1 j hlt] at hj
     rw [B4];simp only [World.cell?,hh];simpa using hj
    refine ⟨_,_,run_append_grow W.w t ty t0 i z hund hi hz ⟨b1,off1,none⟩ xs.length c1 (BV (fun k=>arr[off1+k]?) (xs.length * e.n)) (by rw [AF,hsz]) holds ad2 ys.length c2 news (by rw [hnl,hsz]) (hncell ad2 rfl) (by omega) (by omega)
     (growslice_fits (by omega) (Nat.le_trans (Nat.mul_le_mul hlen' hby) (by decide))), ?_⟩
    have hge:=grownCap_ge W.w (xs.length+ys.length) c1 t0
    refine fresh os1 _ _ hge ?_ ?_ ?_ (fun b hb=>by rw [ho1];exact List.mem_cons_of_mem _ hb) (List.nodup_cons.1 hnd1).2
    ·have:xs.length * e.n+ys.length * e.n+(grownCap W.w (xs.length+ys.length) c1 t0 - (xs.length+ys.length)) * e.n=grownCap W.w (xs.length+ys.length) c1 t0 * e.n:=by
      rw [← Nat.add_mul, ← Nat.add_mul];congr 1;omega
     simp only [Array.size_append,List.size_toArray,hnl,AF,Builtin.zeroCells,Array.size_map,Array.size_range,hzc,List.length_map,BB]
     omega
    ·refine B3.congr hx1 fun k hk => ?_
     rw [← hg1 k hk]
     rw [Array.getElem?_append_left (by simp [AF];omega),Array.getElem?_append_left (by simp [AF];omega)]
     simp
    ·intro k hk
     rw [← hng k hk]
     rw [Array.getElem?_append_left (by simp [AF,hnl];omega),Array.getElem?_append_right (by simp [AF])]
     simp [AF]
end
end Go.Ev
namespace Go.Ev
set_option linter.unusedVariables false
set_option linter.unusedSimpArgs false
theorem Hl:∀ (vs:List Value) (off n:Nat) (arr:Array Value),(vs.zipIdx n).foldl (fun cs (p:Value×Nat)=>cs.setIfInBounds (off+p.2) p.1) arr=B9 vs (off+n) arr
 | [],_,_,_=>rfl
 | v::vs,off,n,arr=>by
  rw [List.zipIdx_cons,List.foldl_cons,Hl vs off (n+1)]
  rfl
theorem Ie {place:Nat→Option (Nat×Nat)} {cells:Array Value} {i:Nat} {v:Value} {rest:List (Nat×Value)} {off size:Nat} (hp:place i=some (off,size)) (hs:v.cells.size=size) (hl:off+size≤cells.size) :
  Instr.fill place cells ((i,v)::rest)=Instr.fill place (B9 v.cells.toList off cells) rest:=by
 have h1:(v.cells.zipIdx.foldl (fun cs (x:Value×Nat)=>match x with | (c,j)=>cs.setIfInBounds (off+j) c) cells)=B9 v.cells.toList off cells:=by
  rw [← Array.foldl_toList,Array.toList_zipIdx]
  exact Hl _ off 0 cells
 simp only [Instr.fill,hp]
 rw [if_neg (by simp [hs];omega)]
 rw [← h1]
theorem Fl {α β:Type} {f:α→Option β}:∀ {l:List α} {r:List β},l.mapM f=some r→∀ (i:Nat) (x:α),l[i]? = some x→∃ y,f x=some y∧r[i]? = some y
 | [],r,h,i,x,hx=>by simp at hx
 | a::l,r,h,i,x,hx=>by
  simp only [List.mapM_cons,Option.bind_eq_bind,Option.pure_def] at h
  cases ha:f a with
  | none=>simp [ha] at h
  | some b =>
   cases hr:l.mapM f with
   | none=>simp [ha,hr] at h
   | some r' =>
    simp [ha,hr] at h
    subst h
    cases i with
    | zero=>simp at hx;subst hx;exact ⟨b,ha,rfl⟩
    | succ i=>obtain ⟨y,h1,h2⟩:=Fl hr i x (by simpa using hx);exact ⟨y,h1,by simpa using h2⟩
theorem IL:∀ (as:List LA) (ls:List LA) (j:Nat),(Ed ls j as).length=ls.length
 | [],_,_=>rfl
 | b::as,ls,j=>by rw [Ed,IL as,CU]
theorem IK:∀ (as:List LA) (ls:List LA) (o:Nat),o+as.length≤ls.length→∀ k,(Ed ls o as)[k]? = if o≤k∧k<o+as.length then as[k - o]? else ls[k]?
 | [],ls,o,h,k=>by rw [Ed,if_neg (by simp)]
 | v::r,ls,o,h,k=>by
  simp only [List.length_cons] at h
  rw [Ed,IK r _ (o+1) (by rw [CU];omega) k,Bk,List.getElem?_set]
  by_cases h1:k=o
  ·subst h1
   rw [if_neg (by omega),if_pos rfl,if_pos (by omega),if_pos (by simp)]
   simp
  ·by_cases h2:o+1≤k∧k<o+1+r.length
   ·rw [if_pos h2,if_pos (by simp;omega)]
    obtain ⟨j,rfl⟩:∃ j,k=o+1+j:=⟨k - (o+1),by omega⟩
    rw [show o+1+j - (o+1)=j by omega,show o+1+j - o=j+1 by omega]
    rfl
   ·rw [if_neg h2,if_neg (fun e=>h1 e.symm),if_neg (by simp;omega)]
section
variable {P:Program} {E:Cq} {s:St} {W:Wd} {o:Oper} {a:Act} {ws:List Wr} {cx:Cx} {v:Nat}
theorem NW (h:AW E s a.tmps W) {b:LA} {u:Value} (hu:AR s W b u) (hs:s.sure b=true):u.oneCell'=true:=by
 cases b with
 | sc l x=>exact L.Db l hu
 | DC=>rw [show u=_ from hu];rfl
 | JH=>rw [show u=_ from hu];rfl
 | D1 e x off=>obtain ⟨ad,_,_,_,_,hv,_⟩:=hu;rw [hv];rfl
 | fn f=>rw [show u=_ from hu];rfl
 | ptr r j AA =>
  simp only [St.sure,Bool.and_eq_true,beq_iff_eq] at hs
  rw [hu hs.1 hs.2];rfl
 | ref c =>
  simp only [St.sure] at hs
  split at hs
  ·rename_i AA gen t e xs d hleaf
   simp only [Bool.and_eq_true,Bool.or_eq_true,beq_iff_eq] at hs
   obtain ⟨hver,hp⟩:=hs
   subst hver
   have hp:c.p=[]∨gen=c.gen:=hp.imp (fun h=>by cases hq:c.p <;> simp_all [isNil]) id
   obtain ⟨h',e',hcv,hn⟩:=hu gen _ _ _ _ hleaf hp
   obtain ⟨u',hu',hrd⟩:=(h.roots c.r).row hleaf
   rw [hcv] at hu';injection hu' with hu';subst hu'
   obtain ⟨d',ys,o',hr,_⟩:=MP c.p hrd hn
   exact L.Db (.sl 0 e') hr
  ·cases hs
 | D7 c lo hi =>
  simp only [St.sure] at hs
  split at hs
  ·rename_i AA gen t e xs d hleaf
   simp only [Bool.and_eq_true,Bool.or_eq_true,beq_iff_eq] at hs
   obtain ⟨hver,hp⟩:=hs
   subst hver
   have hp:c.p=[]∨gen=c.gen:=hp.imp (fun h=>by cases hq:c.p <;> simp_all [isNil]) id
   obtain ⟨h',e',A,n,k,hcv,hn,_,_,hv⟩:=hu gen _ _ _ _ hleaf hp
   rw [hv];rfl
  ·cases hs
 | Bm c=>obtain ⟨ad,hv⟩:=G9 hu hs;rw [hv];rfl
 | _=>cases hs
theorem Kk (h:AW E s a.tmps W) {g:Bool} {as:List LA} {u:Value} (hu:Ex s W g as u) (hs:(g||as.all s.sure)=true):u.cells.size=as.length∧∀ (j:Nat) (b:LA),as[j]? = some b→∃ y,u.cells[j]? = some y∧AR s W b y:=by
 refine I0 hu fun hg => ?_
 subst hg
 cases as with
 | nil=>exact hu.elim
 | cons b bs=>cases bs with
  | cons=>exact hu.elim
  | nil=>exact Ej (NW h hu (by simpa using hs))
def IW (s:St) (W:Wd) (ls:List LA) (cells:Array Value):Prop:=cells.size=ls.length∧∀ (j:Nat) (b:LA),ls[j]? = some b→∃ u,cells[j]? = some u∧AR s W b u
theorem IW.CV {ls as:List LA} {cells:Array Value} {u:Value} {off:Nat} (hb:IW s W ls cells) (hl:off+as.length≤ls.length) (hu:u.cells.size=as.length∧∀ (j:Nat) (b:LA),as[j]? = some b→∃ y,u.cells[j]? = some y∧AR s W b y) :
  IW s W (Ed ls off as) (B9 u.cells.toList off cells):=by
 refine ⟨by rw [Al,IL,hb.1],fun j b hj => ?_⟩
 rw [IK _ _ _ hl] at hj
 rw [CS _ _ _ (by rw [hb.1];simp [hu.1];omega)]
 by_cases hc:off≤j∧j<off+as.length
 ·rw [if_pos hc] at hj
  rw [if_pos (by simp [hu.1];omega)]
  obtain ⟨y,hy,hok⟩:=hu.2 _ b hj
  exact ⟨y,by simpa using hy,hok⟩
 ·rw [if_neg hc] at hj
  rw [if_neg (by simp [hu.1];omega)]
  exact hb.2 j b hj
theorem Jo (hc:Dg P cx) (h:AW E s a.tmps W) {fs:List (Nat×TypeId)} {place:Nat→Option (Nat×Nat)} (hpl:∀ (i off:Nat) (t:TypeId),fs[i]? = some (off,t)→∃ inf,P.info? t=some inf∧place i=some (off,inf.size)) :
  ∀ (parts:List (Nat×Operand)) {ls ls':List LA} {cells:Array Value},IW s W ls cells→Hi cx s fs parts ls=some ls'→∃ cells',Instr.fill place cells (parts.map fun p=>(p.1,a.eval p.2))=some cells'∧IW s W ls' cells'
 | [],ls,ls',cells,hb,hl=>by
  injection hl with hl;subst hl
  exact ⟨cells,rfl,hb⟩
 | (i,x)::ps,ls,ls',cells,hb,hl=>by
  simp only [Hi] at hl
  have h1:=BG h x
  generalize s.Ap x=p at hl h1
  split at hl
  ·rename_i g as off t hfs
   split at hl
   ·rename_i tf htf
    split at hl
    ·rename_i hcond
     rw [Fm] at hfs
     obtain ⟨inf,hinf,hp⟩:=hpl i off t hfs
     obtain ⟨inf',hinf',hsz,_⟩:=(hc t tf htf).info
     rw [hinf] at hinf';injection hinf' with hinf';subst hinf'
     rw [Bool.and_eq_true,Bool.and_eq_true,beq_iff_eq,decide_eq_true_eq] at hcond
     obtain ⟨⟨hlen,hoff⟩,hsure⟩:=hcond
     have hu:=Kk h h1 hsure
     have hb':=hb.CV (off:=off) (by omega) hu
     obtain ⟨cells',hf,hb''⟩:=Jo hc h hpl ps hb' hl
     refine ⟨cells', ?_,hb''⟩
     rw [List.map_cons,Ie hp (by rw [hu.1,hlen,hsz]) (by rw [hb.1,hsz];exact hoff)]
     exact hf
    ·cases hl
   ·cases hl
  ·cases hl
theorem Lp (l:L):AR s W (zeroOf l) (CJ l):=by
 cases l with
 | int k=>exact ⟨rfl,rfl⟩
 | bool=>exact ⟨rfl,rfl⟩
 | str=>exact ⟨rfl,rfl⟩
 | sl t e=>exact rfl
theorem MU (hc:Dg P cx) (h:AW E s a.tmps W) {t:TypeId} {parts:Array (Nat×Operand)} (ho:o.op = .build t parts) (hl:(AB cx v o s).leads ws):Bc P E o a W.w (s.app ws):=by
 simp only [AB,ho] at hl
 split at hl
 ·rename_i ty ht
  split at hl
  ·rename_i ls hls
   rw [AN hl]
   split at hls
   ·rename_i hag
    obtain ⟨fs,hfs,hfl,pl,hpl⟩:=(hc t ty ht).agg hag
    obtain ⟨i,hi,hsz,z,hz,hzc,_⟩:=(hc t ty ht).info
    have hplace:∀ (i off:Nat) (t':TypeId),ty.fs[i]? = some (off,t')→∃ inf,P.info? t'=some inf∧pl.toArray[i]? = some (off,inf.size):=by
     intro i off t' hq
     rw [← hfl,List.getElem?_map] at hq
     cases hf:fs.toList[i]? with
     | none=>rw [hf] at hq;cases hq
     | some f =>
      rw [hf] at hq
      simp only [Option.map_some,Option.some.injEq,Prod.mk.injEq] at hq
      obtain ⟨rfl,rfl⟩:=hq
      obtain ⟨y,h1,h2⟩:=Fl hpl i f hf
      cases hinf:P.info? f.type with
      | none=>rw [hinf] at h1;cases h1
      | some inf=>rw [hinf] at h1;injection h1 with h1;subst h1;exact ⟨inf,rfl,by simpa using h2⟩
    have hz0:IW s W (ty.ls.kinds.map zeroOf) z.cells:=by
     refine ⟨by rw [hzc];simp,fun j b hj => ?_⟩
     rw [List.getElem?_map] at hj
     cases hk:ty.ls.kinds[j]? with
     | none=>rw [hk] at hj;cases hj
     | some l=>rw [hk] at hj;injection hj with hj;subst hj;exact ⟨CJ l,by rw [hzc];simp [hk],Lp l⟩
    obtain ⟨cells,hf,hb⟩:=Jo hc h hplace parts.toList hz0 hls
    refine AT h (u := .agg cells) ?_ ⟨cells,rfl,hb.1,hb.2⟩
    have hbuilt:P.built t (parts.map fun (i,x)=>(i,a.eval x)).toList=some cells:=by
     unfold Program.built
     rw [hi,hfs]
     simp only [hz,hpl]
     rw [Array.toList_map];exact hf
    unfold execOp
    simp only [ho,Sem.run_bind,run_build W.w t _ cells hbuilt,Result.andThen_ok]
    rfl
   ·cases hls
  ·exact hl.elim
 ·exact hl.elim
end
end Go.Ev
namespace Go.Ev
set_option linter.unusedVariables false
set_option linter.unusedSimpArgs false
theorem Da:∀ (ls:Ls) {d:Nat} {w:World} {fz:Nat→Prop} {g:Nat→Option Value} {x:ls.D} {os:Nat→List Nat},
  (∀ (j:Nat) (lv:Lv),(unpack ls x)[j]? = some lv→∃ u,g j=some u∧lv.l.rd d w fz u lv.x (os j))→ls.rd d w fz g x ((List.range ls.n).flatMap os)
 | .nil,_,_,_,_,_,_,_=>by simp only [Ls.rd,Ls.n];rfl
 | .one l,_,w,fz,g,x,os,h=>by
  simp only [Ls.rd,Ls.n]
  obtain ⟨u,hu,hr⟩:=h 0 ⟨l,x⟩ rfl
  have:List.flatMap os (List.range 1)=os 0:=by simp [List.range_succ]
  rw [this]
  exact ⟨u,hu,hr⟩
 | .cons l ls,_,w,fz,g,x,os,h=>by
  simp only [Ls.rd,Ls.n]
  obtain ⟨u,hu,hr⟩:=h 0 ⟨l,x.1⟩ rfl
  have ih:=Da ls (g:=fun j=>g (j+1)) (os:=fun j=>os (j+1)) fun j lv hj=>h (j+1) lv (by simpa [unpack] using hj)
  refine ⟨u,os 0,_,hu,hr,ih, ?_⟩
  rw [Nat.add_comm,List.range_add,List.flatMap_append,List.flatMap_map]
  simp [List.range_succ,Nat.add_comm]
def FC (b:LA):Option Lv:=match b with
 | .arr _ _ t e xs 2=>some ⟨.sl t e,xs⟩
 | .sc l x=>if Bw l then none else some ⟨l,x⟩
 | _=>none
section
variable {P:Program} {E:Cq} {s:St} {W:Wd} {o:Oper} {a:Act} {ws:List Wr} {cx:Cx} {v:Nat}
theorem Ia {b:LA} {u:Value} {oo:List Nat} {us:List (Nat×Nat)} (ht:Jc s W v b u oo us) {lv:Lv} (hb:FC b=some lv):lv.l.rd 2 W.w W.fz u lv.x oo:=by
 unfold FC at hb
 split at hb
 ·injection hb with hb;subst hb
  exact ht.2.2.2.2.2
 ·split at hb
  ·cases hb
  ·rename_i l x hs
   injection hb with hb;subst hb
   obtain ⟨h1,h2,_⟩:=ht.2.2.2
   subst h1
   exact (L.AZ l (by simpa using hs) h2).1
 ·cases hb
def A7 (g:Bool) (u:Value):Nat→Option Value:=fun j=>match g with
 | true=>u.cells[j]?
 | false=>if j=0 then some u else none
theorem B8 {g:Bool} {as:List LA} {u:Value} (hu:Ex s W g as u) (j:Nat) (b:LA) (hj:as[j]? = some b):∃ y,A7 g u j=some y∧AR s W b y:=by
 cases g with
 | true=>obtain ⟨cs,hcs,_,hget⟩:=hu;obtain ⟨y,hy,hok⟩:=hget j b hj;exact ⟨y,by simp only [A7,hcs];exact hy,hok⟩
 | false =>
  cases as with
  | nil=>exact hu.elim
  | cons b' bs=>cases bs with
   | cons=>exact hu.elim
   | nil=>cases j with
    | zero=>simp at hj;subst hj;exact ⟨u,by simp [A7],hu⟩
    | succ j=>simp at hj
theorem Br {g:Bool} {as:List LA} {u:Value} (hu:Ex s W g as u) (h1:∀ (j:Nat) (b:LA),as[j]? = some b→∃ y,A7 g u j=some y∧y.oneCell'=true):u.cells.size=as.length∧∀ j,j<as.length→u.cells[j]? = A7 g u j:=by
 cases g with
 | true=>obtain ⟨cs,hcs,hsz,_⟩:=hu;subst hcs;exact ⟨hsz,fun j _=>rfl⟩
 | false =>
  cases as with
  | nil=>exact hu.elim
  | cons b' bs=>cases bs with
   | cons=>exact hu.elim
   | nil =>
    obtain ⟨y,hy,hone⟩:=h1 0 b' rfl
    simp [A7] at hy;subst hy
    rw [Ej hone]
    refine ⟨rfl,fun j hj => ?_⟩
    have:j=0:=by simpa using hj
    subst this;simp [A7]
structure Mv (P:Program) (s:St) (W:Wd) (a:Act) (e:Ls) (ps:List (Nat×Operand)) (n:Nat) (ys:List e.D) (us:List (Nat×Nat)) (os:Nat→List Nat):Prop where
 len:ys.length=ps.length
 nodup:us.Nodup
 Ol:∀ i j,i≠j→∀ b∈os i,b∉os j
 Ou:∀ i,(os i).Nodup
 Oz:∀ i,ys.length≤i→os i=[]
 OK:∀ i,∀ b∈os i,∃ r j,(r,j)∈us∧b∈W.om (.lf r j)
 el:∀ m (hm:m<ys.length),∃ x,ps[m]? = some (n+m,x)∧(a.eval x).cells.size=e.n∧e.rd 2 W.w W.fz (fun j=>(a.eval x).cells[j]?) ys[m] (os m)
theorem D4 {os:Nat→List Nat} (hn:∀ i,(os i).Nodup) (hd:∀ i j,i≠j→∀ b∈os i,b∉os j):∀ n,((List.range n).flatMap os).Nodup
 | 0=>by simp
 | n+1=>by
  rw [List.range_succ,List.flatMap_append]
  refine List.nodup_append.2 ⟨D4 hn hd n,by simpa using hn n,fun x hx y hy e => ?_⟩
  obtain ⟨i,hi,hx⟩:=List.mem_flatMap.1 hx
  simp at hy
  subst e
  exact hd i n (Nat.ne_of_lt (List.mem_range.1 hi)) x hx hy
theorem He (h:AW E s a.tmps W) (hv:Ae s v) {e:Ls} {β:Type} {z:β}:∀ (ps:List (Nat×Operand)) (n:Nat) {k:List e.D→List (Nat×Nat)→Step β},(Cf cx s v e ps n k).leads z →
  ∃ ys us os,(k ys us).leads z∧Mv P s W a e ps n ys us os
 | [],n,k,hl=>⟨[],[],fun _=>[],hl,rfl,List.nodup_nil,(fun _ _ _ b hb=>by cases hb),fun _=>List.nodup_nil,fun _ _=>rfl,(fun _ b hb=>by cases hb),fun m hm=>by simp at hm⟩
 | (i,x)::ps,n,k,hl=>by
  simp only [Cf] at hl
  split at hl
  ·rename_i hi
   have hi:i=n:=by simpa using hi
   subst hi
   have h1:=BG h x
   have hva:=Fo hv x
   generalize s.Ap x=p at hl h1 hva
   split at hl
   ·rename_i g as
    split at hl
    ·rename_i hflat
     obtain ⟨vs,hl,hvl,hvm,hvs⟩:=Ek h (g:=A7 g (a.eval x)) (fun j b hj=>B8 h1 j b hj) hl
     split at hl
     ·rename_i y hy
      obtain ⟨ys,us,os,hl,hrest⟩:=He h hv ps (i+1) hl
      have hup:=Ax e vs y hy
      have hen:as.length=e.n:=by rw [← hvl, ← hup,CA]
      have hcells:=Br h1 fun j b hj=>by
       have hlt:j<vs.length:=by rw [hvl];exact (List.getElem?_eq_some_iff.1 hj).1
       obtain ⟨u,hu,hr⟩:=hvs j vs[j] (List.getElem?_eq_getElem hlt)
       exact ⟨u,hu,L.Db _ hr⟩
      have hrd:e.rd 0 W.w (Seen W (as.flatMap LA.roots)) (A7 g (a.eval x)) y []:=Bi e fun j lv hj=>by rw [hup] at hj;exact hvs j lv hj
      have hrd2:=(Ls.AZ e hflat hrd (d':=2) (w':=W.w) (fz':=W.fz)).1
      refine ⟨y::ys,us,fun m=>match m with | 0=>[] | m+1=>os m,hl,by simp [hrest.len],hrest.nodup, ?_, ?_, ?_, ?_, ?_⟩
      ·intro i j hij b hb
       cases i with
       | zero=>cases hb
       | succ i=>cases j with
        | zero=>simp
        | succ j=>exact hrest.Ol i j (fun e=>hij (by rw [e])) b hb
      ·intro i;cases i with
       | zero=>exact List.nodup_nil
       | succ i=>exact hrest.Ou i
      ·intro i hi;cases i with
       | zero=>simp at hi
       | succ i=>exact hrest.Oz i (by simpa using hi)
      ·intro i b hb;cases i with
       | zero=>cases hb
       | succ i=>exact hrest.OK i b hb
      ·intro m hm
       cases m with
       | zero=>exact ⟨x,rfl,by rw [hcells.1,hen],Ls.BE e hrd2 fun j hj=>hcells.2 j (by omega)⟩
       | succ m =>
        obtain ⟨x',h1,h2,h3⟩:=hrest.el m (by simpa using hm)
        exact ⟨x',by simp only [List.getElem?_cons_succ];rw [h1];congr 2;omega,h2,h3⟩
     ·exact hl.elim
    ·obtain ⟨bs,vs,os0,hl,hblen,halen,hvnd,_,hdis0,hbig0,hbs⟩:=Ec (v:=v) h (g:=A7 g (a.eval x)) (fun j b hj=>⟨fun hin=>hva (List.mem_flatMap.2 ⟨b,List.mem_of_getElem? hj,hin⟩),B8 h1 j b hj⟩) hl
     split at hl
     ·rename_i lvs hlvs
      have hlvs:bs.mapM FC=some lvs:=hlvs
      split at hl
      ·rename_i y hy
       obtain ⟨ys,us,os,hl,hrest⟩:=He h hv ps (i+1) hl
       split at hl
       ·rename_i hall
        have hapart:∀ x∈vs,x∉us:=by
         intro x hx hx'
         have:=List.all_eq_true.1 hall x hx
         simp at this
         exact this hx'
        have hup:=Ax e lvs y hy
        have hlen:lvs.length=bs.length:=by
         have:∀ {l:List LA} {r:List Lv},l.mapM FC=some r→r.length=l.length:=by
          intro l
          induction l with
          | nil=>intro r hr;simp at hr;subst hr;rfl
          | cons b l ih =>
           intro r hr
           simp only [List.mapM_cons,Option.bind_eq_bind,Option.pure_def] at hr
           cases hb:FC b with
           | none=>simp [hb] at hr
           | some c =>
            cases hr':l.mapM FC with
            | none=>simp [hb,hr'] at hr
            | some r'=>simp [hb,hr'] at hr;subst hr;simp [ih hr']
         exact this hlvs
        have hen:as.length=e.n:=by rw [← hblen, ← hlen, ← hup,CA]
        have hcells:=Br h1 fun j b hj=>by
         have hlt:j<bs.length:=by rw [hblen];exact (List.getElem?_eq_some_iff.1 hj).1
         obtain ⟨u,hu,hr⟩:=hbs j bs[j] (List.getElem?_eq_getElem hlt)
         exact ⟨u,hu,hr.1⟩
        have hrd:e.rd 2 W.w W.fz (A7 g (a.eval x)) y ((List.range e.n).flatMap os0):=Da e fun j lv hj=>by
         rw [hup] at hj
         have hlt:j<bs.length:=by rw [← hlen];exact (List.getElem?_eq_some_iff.1 hj).1
         obtain ⟨y',hy',hy''⟩:=Fl hlvs j bs[j] (List.getElem?_eq_getElem hlt)
         rw [hj] at hy'';injection hy'' with hy'';subst hy''
         obtain ⟨u,hu,ht⟩:=hbs j bs[j] (List.getElem?_eq_getElem hlt)
         exact ⟨u,hu,Ia ht hy'⟩
        have hnod0:∀ j,(os0 j).Nodup:=by
         intro j
         by_cases hj:j<bs.length
         ·obtain ⟨u,_,ht⟩:=hbs j bs[j] (List.getElem?_eq_getElem hj);exact ht.2.1
         ·rw [hbig0 j (by omega)];exact List.nodup_nil
        have hfrom0:∀ b∈(List.range e.n).flatMap os0,∃ r j,(r,j)∈vs∧b∈W.om (.lf r j):=by
         intro b hb
         obtain ⟨j,hj,hb⟩:=List.mem_flatMap.1 hb
         have hj:j<bs.length:=by rw [hblen,hen];exact List.mem_range.1 hj
         obtain ⟨u,_,ht⟩:=hbs j bs[j] (List.getElem?_eq_getElem hj);exact ht.2.2.1 b hb
        have hcross:∀ i,∀ b∈(List.range e.n).flatMap os0,b∉os i:=by
         intro i b hb hb'
         obtain ⟨r,j,hm,h1⟩:=hfrom0 b hb
         obtain ⟨r',j',hm',h1'⟩:=hrest.OK i b hb'
         by_cases he:(r,j)=(r',j')
         ·exact hapart _ hm (by rw [he];exact hm')
         ·exact h.sep.A6 (.lf r j) (.lf r' j') (fun e=>he (by injection e with e1 e2;rw [e1,e2])) b h1 h1'
        refine ⟨y::ys,vs++us,fun m=>match m with | 0=>(List.range e.n).flatMap os0 | m+1=>os m,hl,by simp [hrest.len], ?_, ?_, ?_, ?_, ?_, ?_⟩
        ·exact List.nodup_append.2 ⟨hvnd,hrest.nodup,fun x hx y hy e=>hapart x hx (e ▸ hy)⟩
        ·intro i j hij b hb
         cases i with
         | zero=>cases j with
          | zero=>exact absurd rfl hij
          | succ j=>exact hcross j b hb
         | succ i=>cases j with
          | zero=>exact fun hb'=>hcross i b hb' hb
          | succ j=>exact hrest.Ol i j (fun e=>hij (by rw [e])) b hb
        ·intro i;cases i with
         | zero=>exact D4 hnod0 hdis0 e.n
         | succ i=>exact hrest.Ou i
        ·intro i hi;cases i with
         | zero=>simp at hi
         | succ i=>exact hrest.Oz i (by simpa using hi)
        ·intro i b hb;cases i with
         | zero=>obtain ⟨r,j,hm,h1⟩:=hfrom0 b hb;exact ⟨r,j,List.mem_append_left _ hm,h1⟩
         | succ i=>obtain ⟨r,j,hm,h1⟩:=hrest.OK i b hb;exact ⟨r,j,List.mem_append_right _ hm,h1⟩
        ·intro m hm
         cases m with
         | zero=>exact ⟨x,rfl,by rw [hcells.1,hen],Ls.BE e hrd fun j hj=>hcells.2 j (by omega)⟩
         | succ m =>
          obtain ⟨x',h1,h2,h3⟩:=hrest.el m (by simpa using hm)
          exact ⟨x',by simp only [List.getElem?_cons_succ];rw [h1];congr 2;omega,h2,h3⟩
       ·exact hl.elim
      ·exact hl.elim
     ·exact hl.elim
   ·exact hl.elim
  ·exact hl.elim
theorem FD {e:Ls} (f:Operand→Value):∀ (ps:List (Nat×Operand)) (n:Nat) (arr:Array Value),(∀ m x i,ps[m]? = some (i,x)→i=n+m∧(f x).cells.size=e.n)→(n+ps.length) * e.n≤arr.size →
  ∃ arr',Instr.fill (fun i=>some (i * e.n,e.n)) arr (ps.map fun p=>(p.1,f p.2))=some arr'∧arr'.size=arr.size∧(∀ k,k<n * e.n→arr'[k]? = arr[k]?)∧∀ m i x,ps[m]? = some (i,x)→∀ j,j<e.n→arr'[(n+m) * e.n+j]? = (f x).cells[j]?
 | [],n,arr,h,hs=>⟨arr,rfl,rfl,fun _ _=>rfl,fun m i x hm=>by simp at hm⟩
 | (i,x)::ps,n,arr,h,hs=>by
  obtain ⟨hi,hsz⟩:=h 0 x i rfl
  simp only [Nat.add_zero] at hi
  subst hi
  have hs':(i+(ps.length+1)) * e.n≤arr.size:=by simpa using hs
  have hfit:i * e.n+e.n≤arr.size:=by
   have h2:(i+1) * e.n≤(i+(ps.length+1)) * e.n:=Nat.mul_le_mul_right _ (by omega)
   rw [Nat.add_mul,Nat.one_mul] at h2;omega
  have hget:=CS (f x).cells.toList (i * e.n) arr (by simp [hsz];omega)
  obtain ⟨arr',hf,hsize,hlow,hel⟩:=FD f ps (i+1) (B9 (f x).cells.toList (i * e.n) arr) (fun m y j hm=>by
   obtain ⟨h1,h2⟩:=h (m+1) y j (by simpa using hm);exact ⟨by omega,h2⟩) (by rw [Al,show i+1+ps.length=i+(ps.length+1) by omega];exact hs')
  refine ⟨arr', ?_,by rw [hsize,Al], ?_, ?_⟩
  ·rw [List.map_cons,Ie (off:=i * e.n) (size:=e.n) rfl hsz hfit];exact hf
  ·intro k hk
   have:k<(i+1) * e.n:=by rw [Nat.add_mul];omega
   rw [hlow k this,hget,if_neg (by omega)]
  ·intro m j y hm q hq
   cases m with
   | zero =>
    simp at hm
    obtain ⟨rfl,rfl⟩:=hm
    simp only [Nat.add_zero]
    have:i * e.n+q<(i+1) * e.n:=by rw [Nat.add_mul];omega
    rw [hlow _ this,hget,if_pos (by simp [hsz];omega)]
    simp
   | succ m =>
    have:=hel m j y (by simpa using hm) q hq
    rw [show i+(m+1)=i+1+m by omega];exact this
theorem EY {P:Program} {w:World} {t t0:TypeId} {i:TypeInfo} {z:Value} {len:Nat} {parts:Array (Nat×Value)} {arr:Array Value} (ht:P.underlying t=some (.slice t0)) (hi:P.info? t0=some i) (hz:i.zero=some z)
  (hlen:len * i.size≤16777216) (hf:Instr.fill (fun j=>some (j * i.size,i.size)) (madeCells z.cells (len * i.size)) parts.toList=some arr) :
  (Instr.buildSlice t len parts).run P w = .ok (.slice (some ⟨w.heap.size,0,none⟩) len len) (w.alloc (.cells arr t0)):=by
 have n1:¬ (16777216<len * i.size):=by omega
 by_cases hn:len * i.size=0
 ·rw [hn] at hf
  have h0:madeCells z.cells 0 = #[]:=by simp [madeCells]
  rw [h0] at hf
  simp [Instr.buildSlice,run_underlying ht,sizeOf,typeInfo,hi,n1,hn,hf,newRow,Array.range_zero']
 ·unfold madeCells at hf
  simp [Instr.buildSlice,run_underlying ht,sizeOf,typeInfo,zeroValue,hi,hz,n1,hn,hf,newRow]
end
end Go.Ev
namespace Go.Ev
set_option linter.unusedVariables false
set_option linter.unusedSimpArgs false
theorem JS {s:St} {r:Nat} (h:(s.root r).box=true):r<s.ro.length:=by
 rcases Nat.lt_or_ge r s.ro.length with hlt | hge
 ·exact hlt
 ·have:s.root r=dead:=A3 _ hge
  rw [this] at h;cases h
theorem Gz {s:St} {r j AA gen:Nat} {t:TypeId} {e:Ls} {xs:List e.D} {d:Nat} (h:s.leaf r j = .arr AA gen t e xs d):r<s.ro.length∧j<(s.root r).ls.length:=by
 constructor
 ·rcases Nat.lt_or_ge r s.ro.length with hlt | hge
  ·exact hlt
  ·have:s.root r=dead:=A3 _ hge
   unfold St.leaf at h;rw [this] at h;cases j <;> cases h
 ·rcases Nat.lt_or_ge j (s.root r).ls.length with hlt | hge
  ·exact hlt
  ·unfold St.leaf at h;rw [A3 _ hge] at h;cases h
theorem D2 (r:Nat):∀ (bs:List LA) (j:Nat) (s:St),(bs=[]∨r<s.ro.length)→j+bs.length≤(s.root r).ls.length→Jb s (s.app (A4 r j bs)) ∧
  ∀ r' j',(s.app (A4 r j bs)).leaf r' j'=if r'=r∧j≤j'∧j'<j+bs.length then nth .bad bs (j' - j) else s.leaf r' j'
 | [],j,s,hr,hj=>⟨⟨rfl,rfl,fun _=>⟨rfl,rfl,rfl⟩⟩,fun r' j'=>by rw [if_neg (by simp)];rfl⟩
 | b::bs,j,s,hr,hj=>by
  simp only [List.length_cons] at hj
  have hr:r<s.ro.length:=hr.resolve_left (by simp)
  have h1:=BH s r j b
  obtain ⟨h2,h3⟩:=D2 r bs (j+1) (s.AG (.leaf r j b)) (by rw [h1.len];exact .inr hr) (by rw [(h1.box r).2.2];omega)
  refine ⟨⟨h2.sl.trans h1.sl,h2.len.trans h1.len,fun x=>⟨(h2.box x).1.trans (h1.box x).1,(h2.box x).2.1.trans (h1.box x).2.1,(h2.box x).2.2.trans (h1.box x).2.2⟩⟩,fun r' j' => ?_⟩
  show ((s.AG (.leaf r j b)).app (A4 r (j+1) bs)).leaf r' j'=_
  rw [h3,EU]
  by_cases hrr:r'=r
  ·subst hrr
   by_cases hjj:j'=j
   ·subst hjj
    rw [if_neg (by omega),if_pos ⟨rfl,rfl,hr,by omega⟩,if_pos ⟨rfl,by omega,by simp⟩]
    simp [nth]
   ·by_cases hin:j+1≤j'∧j'<j+1+bs.length
    ·rw [if_pos ⟨rfl,hin⟩,if_pos ⟨rfl,by omega,by simp;omega⟩]
     obtain ⟨k,rfl⟩:∃ k,j'=j+1+k:=⟨j' - (j+1),by omega⟩
     rw [show j+1+k - (j+1)=k by omega,show j+1+k - j=k+1 by omega]
     rfl
    ·rw [if_neg (fun hh=>hin hh.2),if_neg (fun hh=>hjj hh.2.1.symm),if_neg (fun hh=>hin (by simp at hh;omega))]
  ·rw [if_neg (fun hh=>hrr hh.1),if_neg (fun hh=>hrr hh.1.symm),if_neg (fun hh=>hrr hh.1)]
section
variable {P:Program} {E:Cq} {s:St} {W:Wd} {o:Oper} {a:Act} {ws:List Wr} {cx:Cx} {v:Nat} {tm:Array Value}
theorem LA.Dr (hv:Ae s v) (r j:Nat):(s.leaf r j).CH=true∨v∉(s.leaf r j).AH:=hv.2.1 r j
theorem AW.KH (h:AW E s tm W) (hv:Ae s v) {r j:Nat} (hbox:(s.root r).box=true) {us:List (Nat×Nat)} {bs:List LA} {os:Nat→List Nat} {cells:List Value} (hlen:cells.length=bs.length) (hfit:j+bs.length≤(s.root r).ls.length)
  (hbs:∀ (i:Nat) (b:LA),bs[i]? = some b→∃ u,cells[i]? = some u∧Jc s W v b u (os i) us) (hdis:∀ i j,i≠j→∀ b∈os i,b∉os j) (hbig:∀ i,bs.length≤i→os i=[])
  {arr:Array Value} {T:TypeId} {fr:Nat×Nat} (harr:W.w.heap[W.bk r]? = some (.cells arr T fr)) {w':World} (hput:My W.w w' (W.bk r) (B9 cells j arr) T fr) :
  ∃ W',W'.w=w'∧AW E (s.app (gone us++A4 r j bs)) tm W':=by
 have hr:r<s.ro.length:=JS hbox
 obtain ⟨_,hbx⟩:=h.roots r
 rw [if_pos hbox] at hbx
 obtain ⟨hom,arr0,T0,fr0,hh,hbare,hsz,hcv⟩:=hbx
 rw [harr] at hh;injection hh with hh;injection hh with e1 e2 e3;subst e1;subst e2;subst e3
 have hget:=CS cells j arr (by omega)
 have hblk:∀ b,(W.fz b∨∃ k,k ≠ .AX r∧b∈W.om k)→b≠W.bk r:=by
  rintro b hb rfl
  have h0:W.bk r∈W.om (.AX r):=by rw [hom];simp
  rcases hb with hb | ⟨k,hk,hb⟩
  ·exact (h.sep.own _ _ h0).1 hb
  ·exact h.sep.A6 k _ hk _ hb h0
 have hw:∀ b,(W.fz b∨∃ k,k ≠ .AX r∧b∈W.om k)→w'.heap[b]? = W.w.heap[b]? := fun b hb=>hput.CG b (hblk b hb)
 obtain ⟨hsame1,hleaf1⟩:=Dk s us
 rw [BD]
 generalize hs1:s.app (gone us)=s1 at hsame1 hleaf1
 obtain ⟨hsame2,hleaf2⟩:=D2 r bs j s1 (by rw [hsame1.len];exact .inr hr) (by rw [(hsame1.box r).2.2];exact hfit)
 generalize hs2:s1.app (A4 r j bs)=s' at hsame2 hleaf2
 have hsl:s'.sl=s.sl:=hsame2.sl.trans hsame1.sl
 have hbx':∀ r,(s'.root r).box=(s.root r).box∧(s'.root r).AA=(s.root r).AA∧(s'.root r).ls.length=(s.root r).ls.length:=fun r =>
  ⟨(hsame2.box r).1.trans (hsame1.box r).1,(hsame2.box r).2.1.trans (hsame1.box r).2.1,(hsame2.box r).2.2.trans (hsame1.box r).2.2⟩
 have hleaf:∀ r' j',s'.leaf r' j'=if r'=r∧j≤j'∧j'<j+bs.length then nth .bad bs (j' - j) else if (r',j')∈us then .bad else s.leaf r' j':=fun r' j'=>by rw [hleaf2,hleaf1]
 have hrol:s'.ro.length=s.ro.length:=hsame2.len.trans hsame1.len
 clear hleaf1 hleaf2 hsame1 hs1 hs2
 let W':Wd:={
  w:=w'
  fz:=W.fz
  cv:=fun r' j'=>if r'=r then (B9 cells j arr)[j']? else W.cv r' j'
  bk:=W.bk
  om:=fun k=>match k with
   | .lf r' j'=>if r'=r∧j≤j'∧j'<j+bs.length then os (j' - j) else if (r',j')∈us then [] else W.om (.lf r' j')
   | k=>W.om k }
 have hosub:∀ i,∀ b∈os i,∃ r' j',(r',j')∈us∧b∈W.om (.lf r' j'):=by
  intro i b hb
  by_cases hi:i<bs.length
  ·obtain ⟨u,_,ht⟩:=hbs i bs[i] (List.getElem?_eq_getElem hi);exact ht.2.2.1 b hb
  ·rw [hbig i (by omega)] at hb;cases hb
 have hnth:∀ i,i<bs.length→∃ u,cells[i]? = some u∧Jc s W v (nth .bad bs i) u (os i) us:=by
  intro i hi
  have:=hbs i bs[i] (List.getElem?_eq_getElem hi)
  rw [Ah,List.getElem?_eq_getElem hi];exact this
 have hcv':∀ r' j',¬ (r'=r∧j≤j'∧j'<j+bs.length)→W'.cv r' j'=W.cv r' j':=by
  intro r' j' hn
  by_cases hrr:r'=r
  ·subst hrr
   show (if r'=r' then _ else _)=_
   rw [if_pos rfl,hget,if_neg (fun hh=>hn ⟨rfl,hlen ▸ hh⟩),hcv]
  ·exact if_neg hrr
 have hturn:EG v s s' W W':={
  fz:=fun b hb=>hb
  LL:=fun b hb=>hw b (.inl hb)
  leaf:=by
   intro r' j' AA gen t e xs d hl hne
   rw [hleaf] at hl
   by_cases hin:r'=r∧j≤j'∧j'<j+bs.length
   ·rw [if_pos hin] at hl
    obtain ⟨u,_,ht⟩:=hnth (j' - j) (by omega)
    rw [hl] at ht
    exact absurd ht.2.2.2.1 hne
   ·rw [if_neg hin] at hl
    by_cases hm:(r',j')∈us
    ·rw [if_pos hm] at hl;cases hl
    ·rw [if_neg hm] at hl
     refine ⟨hcv' r' j' hin,gen,t,xs,d,hl,fun _=>⟨rfl,fun p h' e' u' hc hn => ?_⟩⟩
     obtain ⟨u0,hu0,hrd⟩:=(h.roots r').row hl
     rw [hc] at hu0;injection hu0 with hu0;subst hu0
     exact BN p hrd hn fun b hb=>hw b (hb.elim (fun hb => .inr ⟨.lf r' j',by simp,hb⟩) .inl)
  box:=fun r' hb hne=>⟨(hbx' r').1 ▸ hb,(hbx' r').2.1.symm,rfl⟩ }
 have hsep:Sep E W':=by
  refine h.sep.H9 (fun k=>∃ r' j',k = .lf r' j'∧((r',j')∈us∨(r'=r∧j≤j'∧j'<j+bs.length))) rfl (by show _≤w'.heap.size;rw [hput.size];exact Nat.le_refl _) ?_ hput.rest ?_ ?_ ?_ ?_
  ·intro b hb hio
   refine hput.CG b ?_
   rintro rfl
   have h0:W.bk r∈W.om (.AX r):=by rw [hom];simp
   rcases (h.sep.own _ _ h0).2.2 with h2 | h2
   ·omega
   ·exact hio h2
  ·intro k hk
   cases k with
   | lf r' j' =>
    show (if r'=r∧j≤j'∧j'<j+bs.length then os (j' - j) else if (r',j')∈us then [] else W.om (.lf r' j'))=_
    rw [if_neg (fun hh=>hk ⟨r',j',rfl, .inr hh⟩),if_neg (fun hh=>hk ⟨r',j',rfl, .inl hh⟩)]
   | AX r'=>rfl
   | fl k=>rfl
  ·rintro k ⟨r',j',rfl,hk⟩
   show (if r'=r∧j≤j'∧j'<j+bs.length then os (j' - j) else if (r',j')∈us then [] else W.om (.lf r' j')).Nodup
   by_cases hin:r'=r∧j≤j'∧j'<j+bs.length
   ·rw [if_pos hin]
    obtain ⟨u,_,ht⟩:=hnth (j' - j) (by omega);exact ht.2.1
   ·rw [if_neg hin,if_pos (hk.resolve_right hin)];exact List.nodup_nil
  ·rintro k k' ⟨r',j',rfl,hk⟩ ⟨r2,j2,rfl,hk2⟩ hne b hb hb'
   have hb:b∈(if r'=r∧j≤j'∧j'<j+bs.length then os (j' - j) else if (r',j')∈us then [] else W.om (.lf r' j')):=hb
   have hb':b∈(if r2=r∧j≤j2∧j2<j+bs.length then os (j2 - j) else if (r2,j2)∈us then [] else W.om (.lf r2 j2)):=hb'
   by_cases hin:r'=r∧j≤j'∧j'<j+bs.length
   ·rw [if_pos hin] at hb
    by_cases hin2:r2=r∧j≤j2∧j2<j+bs.length
    ·rw [if_pos hin2] at hb'
     exact hdis (j' - j) (j2 - j) (fun e=>hne (by rw [hin.1,hin2.1,show j'=j2 by omega])) b hb hb'
    ·rw [if_neg hin2,if_pos (hk2.resolve_right hin2)] at hb';cases hb'
   ·rw [if_neg hin,if_pos (hk.resolve_right hin)] at hb;cases hb
  ·rintro k ⟨r',j',rfl,hk⟩ b hb
   have hb:b∈(if r'=r∧j≤j'∧j'<j+bs.length then os (j' - j) else if (r',j')∈us then [] else W.om (.lf r' j')):=hb
   by_cases hin:r'=r∧j≤j'∧j'<j+bs.length
   ·rw [if_pos hin] at hb
    obtain ⟨r2,j2,hm,h1⟩:=hosub _ b hb
    exact .inl ⟨.lf r2 j2,⟨r2,j2,rfl, .inl hm⟩,h1⟩
   ·rw [if_neg hin,if_pos (hk.resolve_right hin)] at hb;cases hb
 refine ⟨W',rfl,h.H9 hv hturn hsep (by rw [hsl,h.DB]) ?_ (fun t => .inl ⟨by show nth _ s'.sl t=_;rw [hsl];rfl,rfl⟩) ?_⟩
 ·rw [hrol,h.Bx]
 ·intro r'
  obtain ⟨h1,h2⟩:=h.roots r'
  refine ⟨fun j' => ?_, ?_⟩
  ·show Aa s' W' (s'.leaf r' j') (W'.cv r' j') (W'.om (.lf r' j'))
   have hom':W'.om (.lf r' j')=if r'=r∧j≤j'∧j'<j+bs.length then os (j' - j) else if (r',j')∈us then [] else W.om (.lf r' j'):=rfl
   rw [hleaf,hom']
   by_cases hin:r'=r∧j≤j'∧j'<j+bs.length
   ·rw [if_pos hin,if_pos hin]
    obtain ⟨u,hu,ht⟩:=hnth (j' - j) (by omega)
    have hcvv:W'.cv r' j'=some u:=by
     show (if r'=r then _ else _)=_
     rw [if_pos hin.1,hget,if_pos (by omega),hu]
    rw [hcvv]
    obtain ⟨_,_,_,ht⟩:=ht
    generalize nth LA.bad bs (j' - j)=b at ht
    unfold Aa
    cases b with
    | arr AA gen t e xs dd =>
     obtain ⟨_,_,hr⟩:=ht
     refine ⟨u,rfl,hr.frame (fun b hb=>hw b ?_) fun b hb=>hb⟩
     rcases hb with hb | hb
     ·obtain ⟨r2,j2,_,h1⟩:=hosub _ b hb;exact .inr ⟨.lf r2 j2,by simp,h1⟩
     ·exact .inl hb
    | _=>exact ⟨ht.1,fun u' hu'=>by injection hu' with hu';subst hu';exact AR.Df hturn ht.2.2 ht.2.1⟩
   ·rw [if_neg hin,if_neg hin,hcv' r' j' hin]
    by_cases hm:(r',j')∈us
    ·rw [if_pos hm,if_pos hm];exact ⟨rfl,fun _ _=>trivial⟩
    ·rw [if_neg hm,if_neg hm]
     exact Aa.Df hturn (LA.Dr hv r' j') (fun b hb=>hw b (.inr ⟨.lf r' j',by simp,hb⟩)) (h1 j')
  ·rw [(hbx' r').1]
   split
   ·rename_i hb
    rw [if_pos hb] at h2
    obtain ⟨ho',arr',T',fr',hh',a1,a2,a3⟩:=h2
    by_cases hrr:r'=r
    ·subst hrr
     rw [harr] at hh';injection hh' with hh';injection hh' with e1 e2 e3;subst e1;subst e2;subst e3
     exact ⟨ho',_,_,_,hput.here,by rw [Al];exact a1,by rw [Al,(hbx' r').2.2];exact a2,fun j'=>if_pos rfl⟩
    ·refine ⟨ho',arr',T',fr',(hw (W.bk r') (.inr ⟨.AX r',by simpa using hrr,by rw [ho'];simp⟩)).trans hh',a1,by rw [(hbx' r').2.2];exact a2,fun j' => ?_⟩
     rw [← a3 j'];exact if_neg hrr
   ·rename_i hb;rw [if_neg hb] at h2;exact h2
theorem AW.JR (h:AW E s tm W) (hv:Ae s v) {r j AA gen:Nat} {t:TypeId} {e:Ls} {xs xs':List e.D} {d:Nat} (hl:s.leaf r j = .arr AA gen t e xs d) {u:Value} (hcv:W.cv r j=some u) {w':World}
  (hrd:AD e d w' W.fz u xs' (W.om (.lf r j))) (hw:∀ b,b∉W.om (.lf r j)→w'.heap[b]? = W.w.heap[b]?) (hsz:w'.heap.size=W.w.heap.size) (hrest:w'.os=W.w.os∧w'.tape=W.w.tape∧w'.output=W.w.output) :
  AW E (s.app [.leaf r j (.arr AA v t e xs' d)]) tm { W with w:=w' }:=by
 obtain ⟨hr,hj⟩:=Gz hl
 show AW E (s.AG (.leaf r j (.arr AA v t e xs' d))) tm _
 have hsame:=BH s r j (.arr AA v t e xs' d)
 have hleaf:=EU s r j (.arr AA v t e xs' d)
 generalize s.AG (.leaf r j (.arr AA v t e xs' d))=s' at hsame hleaf
 have hfz:∀ b,W.fz b→w'.heap[b]? = W.w.heap[b]? := fun b hb=>hw b fun hin=>(h.sep.own _ b hin).1 hb
 have hoth:∀ k,k ≠ .lf r j→∀ b∈W.om k,w'.heap[b]? = W.w.heap[b]? := fun k hk b hb=>hw b fun hin=>h.sep.A6 k _ hk b hb hin
 have hturn:EG v s s' W { W with w:=w' }:={
  fz:=fun b hb=>hb
  LL:=hfz
  leaf:=by
   intro r' j' ver' gen' t' e' ys d' hl' hne
   rw [hleaf] at hl'
   by_cases hin:r=r'∧j=j'
   ·obtain ⟨rfl,rfl⟩:=hin
    rw [if_pos ⟨rfl,rfl,hr,hj⟩] at hl'
    injection hl' with e1 e2 e3 e4 e5 e6
    subst e1;subst e2;subst e3;subst e4;subst e6
    exact ⟨rfl,gen,t,xs,d,hl,fun hg=>absurd rfl hg⟩
   ·rw [if_neg (fun hh=>hin ⟨hh.1,hh.2.1⟩)] at hl'
    refine ⟨rfl,gen',t',ys,d',hl',fun _=>⟨rfl,fun p h' e2 u' hc hn => ?_⟩⟩
    obtain ⟨u0,hu0,hrd0⟩:=(h.roots r').row hl'
    rw [hc] at hu0;injection hu0 with hu0;subst hu0
    exact BN p hrd0 hn fun b hb=>hb.elim (fun hb=>hoth _ (by simp;intro e1 e2;exact hin ⟨e1.symm,e2.symm⟩) b hb) (hfz b)
  box:=fun r' hb hne=>⟨(hsame.box r').1 ▸ hb,(hsame.box r').2.1.symm,rfl⟩ }
 have hsep:Sep E { W with w:=w' }:={
  nodup:=h.sep.nodup
  A6:=h.sep.A6
  own:=fun k b hb=>by obtain ⟨a,c,d⟩:=h.sep.own k b hb;exact ⟨a,by show b<w'.heap.size;omega,d⟩
  fz:=fun b hb=>by obtain ⟨a,c⟩:=h.sep.fz b hb;exact ⟨by show b<w'.heap.size;omega,c⟩
  frame:=fun b h1 h2=>(hw b fun hin=>by
   rcases (h.sep.own _ b hin).2.2 with h3 | h3
   ·omega
   ·exact h2 h3).trans (h.sep.frame b h1 h2)
  size:=by show _≤w'.heap.size;rw [hsz];exact h.sep.size
  rest:=⟨hrest.1.trans h.sep.rest.1,hrest.2.1.trans h.sep.rest.2.1,hrest.2.2.trans h.sep.rest.2.2⟩ }
 refine h.H9 hv hturn hsep (by rw [hsame.sl,h.DB]) (by rw [hsame.len,h.Bx]) (fun t => .inl ⟨by show nth _ s'.sl t=_;rw [hsame.sl];rfl,rfl⟩) ?_
 intro r'
 obtain ⟨h1,h2⟩:=h.roots r'
 refine ⟨fun j' => ?_, ?_⟩
 ·show Aa s' _ (s'.leaf r' j') (W.cv r' j') (W.om (.lf r' j'))
  rw [hleaf]
  by_cases hin:r=r'∧j=j'
  ·obtain ⟨rfl,rfl⟩:=hin
   rw [if_pos ⟨rfl,rfl,hr,hj⟩]
   exact ⟨u,hcv,hrd⟩
  ·rw [if_neg (fun hh=>hin ⟨hh.1,hh.2.1⟩)]
   exact Aa.Df hturn (LA.Dr hv r' j') (hoth _ (by simp;intro e1 e2;exact hin ⟨e1.symm,e2.symm⟩)) (h1 j')
 ·rw [(hsame.box r').1]
  split
  ·rename_i hb
   rw [if_pos hb] at h2
   obtain ⟨ho',arr',T',fr',hh',a1,a2,a3⟩:=h2
   exact ⟨ho',arr',T',fr',(hoth (.AX r') (by simp) _ (by rw [ho'];simp)).trans hh',a1,by rw [(hsame.box r').2.2];exact a2,a3⟩
  ·rename_i hb;rw [if_neg hb] at h2;exact h2
end
end Go.Ev
namespace Go.Ev
set_option linter.unusedVariables false
set_option linter.unusedSimpArgs false
def Plain (w:World) (fz:Nat→Prop) (vs:List Lv) (cells:List Value):Prop :=
 cells.length=vs.length∧∀ (m:Nat) (lv:Lv),vs[m]? = some lv→Bw lv.l=false∧∃ u,cells[m]? = some u∧∀ d w' fz',lv.l.rd d w' fz' u lv.x []
theorem DS {w:World} {fz:Nat→Prop}:∀ (e:Ls) (off:Nat) (vs:List Lv) (cells:List Value) {f:e.D→e.D} {d:Nat} {g g':Nat→Option Value} {x:e.D} {o:List Nat},Bs e off vs=some f→Plain w fz vs cells →
  e.rd d w fz g x o→(∀ m,m<e.n→g' m=if off≤m∧m<off+vs.length then cells[m - off]? else g m)→off+vs.length≤e.n∧e.rd d w fz g' (f x) o
 | .nil,off,vs,cells,f,d,g,g',x,o,hf,hp,hr,hg=>by simp [Bs] at hf
 | .one l,off,vs,cells,f,d,g,g',x,o,hf,hp,hr,hg=>by
  simp only [Bs] at hf
  split at hf
  ·rename_i v
   split at hf
   ·rename_i y hy
    injection hf with hf;subst hf
    obtain ⟨l',z⟩:=v
    obtain ⟨e1,e2⟩:=L.AI hy
    dsimp only at e1;subst e1
    have e2:z=y:=e2
    subst e2
    obtain ⟨hns,u,hu,hu'⟩:=hp.2 0 ⟨l',z⟩ rfl
    simp only [Ls.rd] at hr ⊢
    obtain ⟨v0,hv0,hr⟩:=hr
    have ho:=(L.AZ l' hns hr (d':=d) (w':=w) (fz':=fz)).2
    subst ho
    refine ⟨by simp [Ls.n],u, ?_,hu' _ _ _⟩
    rw [hg 0 (by simp [Ls.n]),if_pos (by simp), ← hu]
   ·cases hf
  ·cases hf
 | .cons l ls,off,vs,cells,f,d,g,g',x,o,hf,hp,hr,hg=>by
  simp only [Bs] at hf
  simp only [Ls.rd] at hr ⊢
  obtain ⟨v0,o1,o2,hv0,h1,h2,rfl⟩:=hr
  cases off with
  | zero =>
   simp only at hf
   split at hf
   ·cases hf
   ·rename_i v
    split at hf
    ·rename_i y hy
     injection hf with hf;subst hf
     obtain ⟨l',z⟩:=v
     obtain ⟨e1,e2⟩:=L.AI hy
     dsimp only at e1;subst e1
     have e2:z=y:=e2
     subst e2
     obtain ⟨hns,u,hu,hu'⟩:=hp.2 0 ⟨l',z⟩ rfl
     have ho:=(L.AZ l' hns h1 (d':=d) (w':=w) (fz':=fz)).2
     subst ho
     refine ⟨by simp [Ls.n] <;> omega,u,[],o2, ?_,hu' _ _ _, ?_,rfl⟩
     ·rw [hg 0 (by simp [Ls.n] <;> omega),if_pos (by simp), ← hu]
     ·exact Ls.BE ls h2 fun j hj=>by rw [hg (j+1) (by simp [Ls.n] <;> omega),if_neg (by simp)]
    ·cases hf
   ·rename_i v u0 vs'
    split at hf
    ·rename_i y f' hy hf'
     injection hf with hf;subst hf
     obtain ⟨l',z⟩:=v
     obtain ⟨e1,e2⟩:=L.AI hy
     dsimp only at e1;subst e1
     have e2:z=y:=e2
     subst e2
     obtain ⟨hns,u,hu,hu'⟩:=hp.2 0 ⟨l',z⟩ rfl
     have ho:=(L.AZ l' hns h1 (d':=d) (w':=w) (fz':=fz)).2
     subst ho
     obtain ⟨c0,cs,rfl⟩:∃ c0 cs,cells=c0::cs:=by
      cases cells with
      | nil=>have:=hp.1;simp at this
      | cons c cs=>exact ⟨c,cs,rfl⟩
     obtain ⟨ih1,ih2⟩:=DS ls 0 (u0::vs') cs (g':=fun j=>g' (j+1)) hf' ⟨by have:=hp.1;simpa using this,fun m lv hm=>by
      have:=hp.2 (m+1) lv (by simpa using hm);simpa using this⟩ h2 (fun m hm=>by
       rw [hg (m+1) (by simp [Ls.n] <;> omega)]
       by_cases hc:m<(u0::vs').length
       ·rw [if_pos (by simp at hc ⊢;omega),if_pos (by simp at hc ⊢;omega)];simp
       ·rw [if_neg (by simp at hc ⊢;omega),if_neg (by simp at hc ⊢;omega)])
     refine ⟨by simp [Ls.n] at ih1 ⊢ <;> omega,u,[],o2, ?_,hu' _ _ _,ih2,rfl⟩
     rw [hg 0 (by simp [Ls.n] <;> omega),if_pos (by simp), ← hu]
    ·cases hf
  | succ off =>
   simp only at hf
   split at hf
   ·rename_i f' hf'
    injection hf with hf;subst hf
    obtain ⟨ih1,ih2⟩:=DS ls off vs cells (g':=fun j=>g' (j+1)) hf' hp h2 (fun m hm=>by
     rw [hg (m+1) (by simp [Ls.n] <;> omega)]
     by_cases hc:off≤m∧m<off+vs.length
     ·rw [if_pos (by omega),if_pos hc];congr 1;omega
     ·rw [if_neg (by omega),if_neg hc])
    refine ⟨by simp [Ls.n] <;> omega,v0,o1,o2, ?_,h1,ih2,rfl⟩
    rw [hg 0 (by simp [Ls.n] <;> omega),if_neg (by omega)];exact hv0
   ·cases hf
theorem J4 {w:World} {fz:Nat→Prop}:∀ (e:Ls) (j:Nat) {G:(t:TypeId)→(f:Ls)→Option (List f.D→List f.D)} {hh:e.D→e.D} {g:Nat→Option Value} {x:e.D} {o:List Nat} {t:TypeId} {f:Ls} {h':Value},CI e j G=some hh →
  e.kinds[j]? = some (.sl t f)→e.rd 2 w fz g x o→g j=some h'→∃ (fn:List f.D→List f.D) (ys:List f.D) (o':List Nat),G t f=some fn∧AD f 2 w fz h' ys o'∧(∀ b∈o',b∈o)∧(o.Nodup→o'.Nodup) ∧
   ∀ w',AD f 2 w' fz h' (fn ys) o'→(∀ b,b∈o∨fz b→b∉o'→w'.heap[b]? = w.heap[b]?)→(∀ b,fz b→b∉o')→o.Nodup→e.rd 2 w' fz g (hh x) o
 | .nil,j,G,hh,g,x,o,t,f,h',hm,hk,hr,hg=>by simp [CI] at hm
 | .one l,j,G,hh,g,x,o,t,f,h',hm,hk,hr,hg=>by
  simp only [CI] at hm
  simp only [Ls.rd] at hr
  obtain ⟨v,hv,hr⟩:=hr
  cases j with
  | succ j=>cases hm
  | zero =>
   simp [Ls.kinds] at hk
   subst hk
   rw [hg] at hv;injection hv with hv;subst hv
   refine ⟨hh,x,o,hm,hr,fun b hb=>hb,id,fun w' hr' _ _ _ => ?_⟩
   simp only [Ls.rd]
   exact ⟨h',hg,hr'⟩
 | .cons l ls,j,G,hh,g,x,o,t,f,h',hm,hk,hr,hg=>by
  simp only [CI] at hm
  simp only [Ls.rd] at hr
  obtain ⟨v,o1,o2,hv,h1,h2,rfl⟩:=hr
  cases j with
  | zero =>
   simp [Ls.kinds] at hk
   subst hk
   rw [hg] at hv;injection hv with hv;subst hv
   simp only at hm
   split at hm
   ·rename_i fn hfn
    injection hm with hm;subst hm
    refine ⟨fn,x.1,o1,hfn,h1,fun b hb=>List.mem_append_left _ hb,fun hn=>(List.nodup_append.1 hn).1,fun w' hr' hf hz hn => ?_⟩
    simp only [Ls.rd]
    refine ⟨h',o1,o2,hg,hr',Ls.AJ ls h2 (fun b hb=>hf b (hb.imp (List.mem_append_right _) id) ?_) (fun b hb=>hb),rfl⟩
    intro hb1
    rcases hb with hb | hb
    ·exact (List.nodup_append.1 hn).2.2 b hb1 b hb rfl
    ·exact hz b hb hb1
   ·cases hm
  | succ j =>
   simp only at hm
   split at hm
   ·rename_i h2' hh'
    injection hm with hm;subst hm
    obtain ⟨fn,ys,o',a1,a2,a3,a4,a5⟩:=J4 ls j hh' (by simpa [Ls.kinds] using hk) h2 (show (fun j=>g (j+1)) j=_ from hg)
    refine ⟨fn,ys,o',a1,a2,fun b hb=>List.mem_append_right _ (a3 b hb),fun hn=>a4 (List.nodup_append.1 hn).2.1,fun w' hr' hf hz hn => ?_⟩
    simp only [Ls.rd]
    refine ⟨v,o1,o2,hv,L.AJ l h1 (fun b hb=>hf b (hb.imp (List.mem_append_left _) id) ?_) (fun b hb=>hb),a5 w' hr' (fun b hb hnb=>hf b (hb.imp (List.mem_append_right _) id) hnb) hz (List.nodup_append.1 hn).2.1,rfl⟩
    intro hb1
    rcases hb with hb | hb
    ·exact (List.nodup_append.1 hn).2.2 b hb b (a3 b hb1) rfl
    ·exact hz b hb hb1
   ·cases hm
theorem E2:∀ (e:Ls),(∀ l∈e.kinds,Bw l=false)→Bq e=true
 | .nil,_=>rfl
 | .one l,h=>by simp [Bq,h l (by simp [Ls.kinds])]
 | .cons l ls,h=>by simp [Bq,h l (by simp [Ls.kinds]),E2 ls fun l hl=>h l (by simp [Ls.kinds,hl])]
theorem FL {α:Type} (xs:List α) (i:Nat) (f:α→α) (m:Nat) (hm:m<(xs.modify i f).length):(xs.modify i f)[m]=if i=m then f (xs[m]'(by simpa using hm)) else xs[m]'(by simpa using hm):=by
 rw [List.getElem_modify]
theorem G5 {e:Ls} {d:Nat} {w:World} {fz:Nat→Prop} {a:Addr} {n k:Nat} {xs:List e.D} {o:List Nat} (hr:AD e d w fz (.slice (some a) n k) xs o) (hd:0<d) (hn:o.Nodup) (hz:∀ b∈o,¬ fz b) {i:Nat} (hi:i<n)
  {off:Nat} {cells:List Value} {F:e.D→e.D} (hfit:off+cells.length≤e.n)
  (hF:∀ g g' x oo,e.rd (dec d) w fz g x oo→(∀ m,m<e.n→g' m=if off≤m∧m<off+cells.length then cells[m - off]? else g m)→e.rd (dec d) w fz g' (F x) oo) :
  a.spot=none∧∃ arr T fr,w.heap[a.block]? = some (.cells arr T fr)∧(∀ j,j<arr.size→¬(fr.1≤j∧j<fr.2))∧a.off+(i * e.n+off)+cells.length≤arr.size∧a.block∈o ∧
   ∀ w',My w w' a.block (B9 cells (a.off+(i * e.n+off)) arr) T fr→AD e d w' fz (.slice (some a) n k) (xs.modify i F) o:=by
 obtain ⟨A,c,hv,hc,_,hsome⟩:=hr.KL
 injection hv with hA hl hk
 subst hA;subst hl;subst hk
 obtain ⟨arr,T,fr,os,hs,hh,hsz,hbare,hel,ho,_⟩:=hsome a rfl (.inr hd)
 have ho:=ho hd
 have hbare:=hbare hd
 have hmul:i * e.n+e.n≤k * e.n:=by
  have:(i+1) * e.n≤k * e.n:=Nat.mul_le_mul_right _ (by omega)
  rw [Nat.add_mul,Nat.one_mul] at this;omega
 have hbnd:a.off+(i * e.n+off)+cells.length≤arr.size:=by omega
 refine ⟨hs,arr,T,fr,hh,hbare,hbnd,by rw [ho];simp,fun w' hput => ?_⟩
 have hget:=CS cells (a.off+(i * e.n+off)) arr hbnd
 have hd':decide (0<d)=true:=by simpa using hd
 refine ⟨some a,k,by simp,by simpa using hc, ?_⟩
 refine .inr ⟨fun q=>(B9 cells (a.off+(i * e.n+off)) arr)[a.off+q]?,os,⟨hs,_,T,fr,hput.here,by rw [Al];exact hsz,fun _=>by rw [Al];exact hbare,fun _=>rfl⟩,fun m hm => ?_, ?_⟩
 ·have hm':m<xs.length:=by simpa using hm
  have hnod:a.block∉os m:=by
   intro hin
   rw [ho] at hn
   exact (List.nodup_cons.1 hn).1 (List.mem_flatMap.2 ⟨m,List.mem_range.2 hm',hin⟩)
  rw [FL]
  have hframe:∀ {g x},e.rd (dec d) w fz g x (os m)→e.rd (dec d) w' fz g x (os m):=fun h=>Ls.AJ e h (fun b hb=>hput.CG b (by
   rintro rfl
   rcases hb with hb | hb
   ·exact hnod hb
   ·exact hz _ (by rw [ho];simp) hb)) fun _ hb=>hb
  by_cases him:i=m
  ·subst him
   rw [if_pos rfl]
   refine hframe (hF _ _ _ _ (hel i hm') fun q hq => ?_)
   show (B9 cells (a.off+(i * e.n+off)) arr)[a.off+(i * e.n+q)]? = _
   rw [hget]
   by_cases hc:off≤q∧q<off+cells.length
   ·rw [if_pos (by omega),if_pos hc];congr 1;omega
   ·rw [if_neg (by omega),if_neg hc]
  ·rw [if_neg him]
   refine hframe (Ls.BE e (hel m hm') fun q hq => ?_)
   show (B9 cells (a.off+(i * e.n+off)) arr)[a.off+(m * e.n+q)]? = _
   rw [hget,if_neg]
   intro hc
   rcases Nat.lt_or_gt_of_ne him with h1 | h1
   ·have:(i+1) * e.n≤m * e.n:=Nat.mul_le_mul_right _ h1
    rw [Nat.add_mul,Nat.one_mul] at this;omega
   ·have:(m+1) * e.n≤i * e.n:=Nat.mul_le_mul_right _ h1
    rw [Nat.add_mul,Nat.one_mul] at this;omega
 ·rw [hd']
  show o=_
  rw [ho];simp
theorem Ke {w:World} {fz:Nat→Prop} {e:Ls} {vs:List Lv} {y:e.D} {cells:List Value} (hy:pack e vs=some y) (hp:Plain w fz vs cells) {g:Nat→Option Value} (hg:∀ m,m<e.n→g m=cells[m]?) :
  Bq e=true∧vs.length=e.n∧∀ d w' fz',e.rd d w' fz' g y []:=by
 have hup:=Ax e vs y hy
 have hlen:vs.length=e.n:=by rw [← hup,CA]
 have hfl:Bq e=true:=E2 e fun l hl=>by
  rw [← D5 e y,hup] at hl
  obtain ⟨lv,hm,rfl⟩:=List.mem_map.1 hl
  obtain ⟨m,hm⟩:=List.getElem?_of_mem hm
  exact (hp.2 m lv hm).1
 refine ⟨hfl,hlen,fun d w' fz' => ?_⟩
 have:e.rd 0 w' fz' g y []:=Bi e fun j lv hj=>by
  rw [hup] at hj
  have hlt:j<e.n:=by rw [← hlen];exact (List.getElem?_eq_some_iff.1 hj).1
  obtain ⟨_,u,hu,hr⟩:=hp.2 j lv hj
  exact ⟨u,(hg j hlt).trans hu,hr _ _ _⟩
 exact (Ls.AZ e hfl this).1
theorem D6 {α:Type}:∀ (xs:List α) (i:Nat) (y:α),CV xs i y=xs.modify i fun _=>y
 | [],i,y=>by cases i <;> simp [CV]
 | x::xs,0,y=>by simp [CV]
 | x::xs,i+1,y=>by simp [CV,D6 xs i y]
theorem IG {x:Nat×Nat} {p:List (Nat×Nat)} (hp:p≠[]) {q:List (Nat×Nat)} {i off:Nat} (h:Aj (x::p)=some (q,i,off)):∃ q',q=x::q'∧Aj p=some (q',i,off):=by
 cases p with
 | nil=>exact absurd rfl hp
 | cons y r =>
  simp only [Aj] at h
  split at h
  ·rename_i q' i' off' hq
   injection h with h;injection h with h1 h2;injection h2 with h2 h3
   subst h1;subst h2;subst h3
   exact ⟨q',rfl,hq⟩
  ·cases h
theorem CQ {os:Nat→List Nat}:∀ {l:List Nat},(l.flatMap os).Nodup→∀ {i j:Nat},i∈l→j∈l→i≠j→∀ b∈os i,b∉os j
 | [],_,i,j,hi,_,_=>by cases hi
 | x::l,h,i,j,hi,hj,hne=>by
  rw [List.flatMap_cons] at h
  obtain ⟨h1,h2,h3⟩:=List.nodup_append.1 h
  intro b hb hb'
  rcases List.mem_cons.1 hi with hi' | hi'
  ·rcases List.mem_cons.1 hj with hj' | hj'
   ·exact hne (hi'.trans hj'.symm)
   ·rw [hi'] at hb;exact h3 b hb b (List.mem_flatMap.2 ⟨j,hj',hb'⟩) rfl
  ·rcases List.mem_cons.1 hj with hj' | hj'
   ·rw [hj'] at hb';exact h3 b hb' b (List.mem_flatMap.2 ⟨i,hi',hb⟩) rfl
   ·exact CQ h2 hi' hj' hne b hb hb'
theorem Bf {os:Nat→List Nat}:∀ {l:List Nat},(l.flatMap os).Nodup→∀ {i:Nat},i∈l→(os i).Nodup
 | [],_,i,hi=>by cases hi
 | x::l,h,i,hi=>by
  rw [List.flatMap_cons] at h
  obtain ⟨h1,h2,h3⟩:=List.nodup_append.1 h
  rcases List.mem_cons.1 hi with rfl | hi
  ·exact h1
  ·exact Bf h2 hi
theorem Ks {vs:List Lv} {cells:List Value} {w:World} {fz:Nat→Prop} (hp:Plain w fz vs cells) {i off:Nat} {e':Ls} {a:Addr} {n k:Nat} (hi:i<n):∀ (p q:List (Nat×Nat)) {e:Ls} {d:Nat} {h:Value} {xs:List e.D} {o:List Nat} {f:List e.D→List e.D},
  Gp vs p e=some f→AD e d w fz h xs o→o.Nodup→(∀ b∈o,¬ fz b)→0<d→(p.length≤1∨d=2)→Aj p=some (q,i,off)→JV w q e h e' (.slice (some a) n k) →
  a.spot=none∧∃ arr T fr,w.heap[a.block]? = some (.cells arr T fr)∧(∀ j,j<arr.size→¬(fr.1≤j∧j<fr.2))∧a.off+(i * e'.n+off)+cells.length≤arr.size∧a.block∈o ∧
   ∀ w',My w w' a.block (B9 cells (a.off+(i * e'.n+off)) arr) T fr→AD e d w' fz h (f xs) o
 | [],q,e,d,h,xs,o,f,hm,hr,hn,hz,hd,hpl,hs,hnav=>by simp [Gp] at hm
 | [(i0,j0)],q,e,d,h,xs,o,f,hm,hr,hn,hz,hd,hpl,hs,hnav=>by
  simp only [Aj,Option.some.injEq,Prod.mk.injEq] at hs
  obtain ⟨rfl,rfl,rfl⟩:=hs
  obtain ⟨rfl,rfl⟩:=hnav
  simp only [Gp] at hm
  split at hm
  ·rename_i y hy
   injection hm with hm;subst hm
   split at hy
   ·rename_i hc
    simp only [Bool.and_eq_true,beq_iff_eq] at hc
    obtain ⟨rfl,hlen⟩:=hc
    have:=G5 (F:=fun _=>y) (off:=0) (cells:=cells) hr hd hn hz hi (by rw [hp.1,hlen];omega) (fun g g' x oo hx hg=>by
     obtain ⟨hfl,_,hall⟩:=Ke hy hp (g:=g') fun m hm=>by rw [hg m hm,if_pos (by rw [hp.1,hlen];omega)];simp
     have:=(Ls.AZ e' hfl hx (d':=0) (w':=w) (fz':=fz)).2
     subst this
     exact hall _ _ _)
    simpa only [D6] using this
   ·cases hy
  ·split at hm
   ·rename_i f' hf'
    injection hm with hm;subst hm
    have hlen:∀ g x oo,e'.rd (dec d) w fz g x oo→j0+vs.length≤e'.n:=fun g x oo hx=>(DS e' j0 vs cells (g':=fun m=>if j0≤m∧m<j0+vs.length then cells[m - j0]? else g m) hf' hp hx fun m _=>rfl).1
    obtain ⟨A,c,hv,hc,_,hsome⟩:=hr.KL
    injection hv with hA hl hk
    subst hA;subst hl;subst hk
    obtain ⟨arr,T,fr,os,_,_,_,_,hel,_,_⟩:=hsome a rfl (.inr hd)
    have hfit:=hlen _ _ _ (hel i0 hi)
    exact G5 (F:=f') (off:=j0) (cells:=cells) hr hd hn hz hi (by rw [hp.1];exact hfit) (fun g g' x oo hx hg=>(DS e' j0 vs cells hf' hp hx fun m hm=>by rw [hg m hm,hp.1]).2)
   ·cases hm
 | (i0,j0)::p0::ps,q,e,d,h,xs,o,f,hm,hr,hn,hz,hd,hpl,hs,hnav=>by
  have hd2:d=2:=hpl.resolve_left (by simp)
  subst hd2
  obtain ⟨q',rfl,hs'⟩:=IG (by simp) hs
  simp only [Gp] at hm
  split at hm
  ·rename_i hh hhh
   injection hm with hm;subst hm
   obtain ⟨a0,len,c,t,ff,h',rfl,hs0,hi0,hk,hcell,hnav'⟩:=hnav
   obtain ⟨A,cc,hv,hc,_,hsome⟩:=hr.KL
   injection hv with hA hl hk'
   subst hA;subst hl;subst hk'
   obtain ⟨arr,T,fr,os,_,hhp,hsz,hbare,hel,ho,_⟩:=hsome a0 rfl (.inr hd)
   have ho:=ho hd
   have hbare:=hbare hd
   have hcell':arr[a0.off+(i0 * e.n+j0)]? = some h':=by
    simp only [World.cell?,at_,hhp] at hcell
    simpa using hcell
   have hnd:=hn
   rw [ho] at hnd
   have hosn:(os i0).Nodup:=by
    exact Bf (List.nodup_cons.1 hnd).2 (List.mem_range.2 hi0)
   have hsub:∀ m,m<xs.length→∀ b∈os m,b∈o:=fun m hm b hb=>by rw [ho];exact List.mem_cons_of_mem _ (List.mem_flatMap.2 ⟨m,List.mem_range.2 hm,hb⟩)
   have hdis:∀ m,m<xs.length→m≠i0→∀ b∈os i0,b∉os m:=by
    intro m hm hne b hb hb'
    have h3:=(List.nodup_cons.1 hnd).2
    have:=CQ h3 (List.mem_range.2 hi0) (List.mem_range.2 hm) (fun e=>hne e.symm) b hb
    exact this hb'
   obtain ⟨fn,ys,o',hfn,hrow,hosub,hond,hback⟩:=J4 e j0 hhh hk (hel i0 hi0) hcell'
   obtain ⟨hspot,arr2,T2,fr2,hh2,hb2,hbnd,hin,hput2⟩:=Ks hp hi (p0::ps) q' hfn hrow (hond hosn) (fun b hb=>hz b (hsub i0 hi0 b (hosub b hb))) hd (.inr rfl) hs' hnav'
   refine ⟨hspot,arr2,T2,fr2,hh2,hb2,hbnd,hsub i0 hi0 _ (hosub _ hin),fun w' hput => ?_⟩
   have hrow':=hput2 w' hput
   have hne0:a0.block≠a.block:=fun e=>(List.nodup_cons.1 hnd).1 (List.mem_flatMap.2 ⟨i0,List.mem_range.2 hi0,by rw [e];exact hosub _ hin⟩)
   refine ⟨some a0,c,by simp,by simpa using hc, .inr ⟨fun qq=>arr[a0.off+qq]?,os,⟨hs0,arr,T,fr,(hput.CG _ hne0).trans hhp,hsz,fun _=>hbare,fun _=>rfl⟩,fun m hm => ?_, ?_⟩⟩
   ·have hm':m<xs.length:=by simpa using hm
    rw [FL]
    by_cases him:i0=m
    ·subst him
     rw [if_pos rfl]
     refine hback w' hrow' (fun b hb hnb=>hput.CG b (fun e=>hnb (e ▸ hin))) (fun b hb hb'=>hz b (hsub i0 hi0 b (hosub b hb')) hb) hosn
    ·rw [if_neg him]
     refine Ls.AJ e (hel m hm') (fun b hb=>hput.CG b ?_) fun _ hb=>hb
     rintro rfl
     rcases hb with hb | hb
     ·exact hdis m hm' (fun e=>him e.symm) _ (hosub _ hin) hb
     ·exact hz _ (hsub i0 hi0 _ (hosub _ hin)) hb
   ·show o=_
    rw [ho];simp
  ·cases hm
end Go.Ev
namespace Go.Ev
set_option linter.unusedVariables false
set_option linter.unusedSimpArgs false
def Gl (w:World) (fz:Nat→Prop) (g:Bool) (ls:List (L×Nat)) (u:Value) (vs:List Lv) (own:Nat→List Nat):Prop :=
 vs.map (·.l)=ls.map (·.1)∧(match g with
  | true=>∃ cs:Array Value,u = .agg cs∧cs.size=ls.length
  | false=>ls.length=1)∧∀ (j:Nat) (p:L×Nat) (lv:Lv),ls[j]? = some p→vs[j]? = some lv→∃ y,A7 g u j=some y∧lv.l.rd p.2 w fz y lv.x (own j)
def Mu (w:World) (fz:Nat→Prop) (ls:List (L×Nat)) (u:Value) (vs:List Lv) (AX:Nat) (own:Nat→List Nat):Prop :=
 u = .pointer (some ⟨AX,0,none⟩)∧vs.map (·.l)=ls.map (·.1)∧∃ (arr:Array Value) (T:TypeId) (fr:Nat×Nat),w.heap[AX]? = some (.cells arr T fr)∧(∀ j,j<arr.size→¬(fr.1≤j∧j<fr.2))∧arr.size=ls.length ∧
  ∀ (j:Nat) (p:L×Nat) (lv:Lv),ls[j]? = some p→vs[j]? = some lv→∃ y,arr[j]? = some y∧lv.l.rd p.2 w fz y lv.x (own j)
def Mx (w:World) (fz:Nat→Prop) (pm:PM) (u:Value) (vs:List Lv) (AX:Nat) (own:Nat→List Nat):Prop:=match pm with
 | .val g ls=>Gl w fz g (ls.map fun l=>(l,0)) u vs fun _=>[]
 | .box ls=>Mu w fz ls u vs AX own
 | .row g ls=>Gl w fz g ls u vs own
 | .fn f=>u = .func (.func f) #[] #[]∧vs=[]
def JZ (w:World) (fz:Nat→Prop) (pm:PM) (u:Value) (vs:List Lv) (AX:Nat) (own:Nat→List Nat):Prop:=match pm with
 | .val _ _=>vs=[]
 | .box ls=>Mu w fz ls u vs AX own
 | .row g ls=>Gl w fz g ls u vs own
 | .fn _=>vs=[]
def EE (w:World) (fz:Nat→Prop) (om:Nat→List Nat):List (Bool×List (L×Nat))→List Value→List (List Lv)→Nat→Prop
 | [],[],[],_=>True
 | (g,ls)::rs,u::us,vs::vss,off=>Gl w fz g ls u vs (fun j=>om (off+j))∧EE w fz om rs us vss (off+ls.length)
 | _,_,_,_=>False
structure EC (ps:List PM) (w:World) (fz:Nat→Prop) (args:List Value) (vss:List (List Lv)) (bk:Nat→Nat) (om:Key→List Nat):Prop where
 len:args.length=ps.length
 Bx:vss.length=ps.length
 each:∀ (i:Nat) (pm:PM) (u:Value) (vs:List Lv),ps[i]? = some pm→args[i]? = some u→vss[i]? = some vs→Mx w fz pm u vs (bk i) fun j=>om (.lf i j)
 AX:∀ i,om (.AX i)=match ps[i]? with
  | some (.box _)=>[bk i]
  | _=>[]
 none:∀ i,(∀ ls,ps[i]? ≠ some (.box ls))→(∀ g ls,ps[i]? ≠ some (.row g ls))→∀ j,om (.lf i j)=[]
 box:∀ i ls,ps[i]? = some (.box ls)→∀ j,ls.length≤j→om (.lf i j)=[]
 row:∀ i g ls,ps[i]? = some (.row g ls)→∀ j,ls.length≤j→om (.lf i j)=[]
 fl:∀ k,om (.fl k)=[]
 nodup:∀ k,(om k).Nodup
 A6:∀ k k',k≠k'→∀ b∈om k,b∉om k'
 own:∀ k,∀ b∈om k,¬ fz b∧b<w.heap.size
 fz:∀ b,fz b→b<w.heap.size
def Kg:List Value→Value
 | [u]=>u
 | us => .tuple us.toArray
structure FR (g:Sm) (w:World) (fz:Nat→Prop) (args:List Value) (bk:Nat→Nat) (om:Key→List Nat) (z:g.outs.D) (r:Value) (w':World) (fz':Nat→Prop) (om':Key→List Nat) (rv:List Value) (vsR vsP:List (List Lv)):Prop where
 outs:unpack g.outs z=vsR.flatten++vsP.flatten
 res:r=Kg rv
 Mf:EE w' fz' (fun k=>om' (.fl k)) g.rs rv vsR 0
 len:vsP.length=g.ps.length
 each:∀ (i:Nat) (pm:PM) (u:Value) (vs:List Lv),g.ps[i]? = some pm→args[i]? = some u→vsP[i]? = some vs→JZ w' fz' pm u vs (bk i) fun j=>om' (.lf i j)
 AX:∀ i,om' (.AX i)=om (.AX i)
 nodup:∀ k,(om' k).Nodup
 A6:∀ k k',k≠k'→∀ b∈om' k,b∉om' k'
 own:∀ k,∀ b∈om' k,¬ fz' b∧b<w'.heap.size∧(w.heap.size≤b∨∃ k0,b∈om k0)
 fz:∀ b,fz' b→b<w'.heap.size∧(fz b∨w.heap.size≤b∨∃ k0,b∈om k0)
 frame:∀ b,b<w.heap.size→(∀ k,b∉om k)→w'.heap[b]? = w.heap[b]?
 size:w.heap.size≤w'.heap.size
 rest:w'.os=w.os∧w'.tape=w.tape∧w'.output=w.output
structure Lu (g:Sm) (w:World) (fz:Nat→Prop) (z:g.outs.D) (r:Value) (w':World) (fz':Nat→Prop) (b:Nat):Prop where
 box:Mu w' fz' g.Gq r (unpack g.outs z) b fun _=>[]
 new:w.heap.size≤b∧b<w'.heap.size∧¬ fz' b
 fz:∀ x,fz' x→x<w'.heap.size∧(fz x∨w.heap.size≤x)
 frame:∀ x,x<w.heap.size→w'.heap[x]? = w.heap[x]?
 size:w.heap.size≤w'.heap.size
 rest:w'.os=w.os∧w'.tape=w.tape∧w'.output=w.output
def Oy (P:Program) (T:List (String×Array Value)) (w:World) (io:Nat→Prop):Prop:=∀ x∈T,w.var? P x.1=some x.2∧∃ g,P.globalNamed x.1=some g∧¬ io g∧g<w.heap.size
def K6 (P:Program) (T:List (String×Array Value)) (f:FuncId) (g:Mz):Prop :=
 ∀ (args:List Value) (w:World) (fz:Nat→Prop) (vss:List (List Lv)) (bk:Nat→Nat) (om:Key→List Nat) (x:g.s.ins.D) (z:g.s.outs.D),Oy P T w (fun b=>∃ k,b∈om k)→EC g.s.ps w fz args vss bk om→pack g.s.ins vss.flatten=some x→g.f x=some z →
  Calls P f args.toArray w fun en w'=>match g.s.mk? with
   | false=>∃ r fz' om' rv vsR vsP,en = .returned r∧FR g.s w fz args bk om z r w' fz' om' rv vsR vsP
   | true=>∃ r fz' b,en = .returned r∧Lu g.s w fz z r w' fz' b
def G7 (w:World) (fz:Nat→Prop) (ls:List L) (u:Value) (vs:List Lv):Prop :=
 ∃ (b:Nat) (arr:Array Value) (T:TypeId) (fr:Nat×Nat),u = .pointer (some ⟨b,0,none⟩)∧fz b∧w.heap[b]? = some (.cells arr T fr)∧arr.size=ls.length∧vs.map (·.l)=ls∧∀ (j:Nat) (lv:Lv),vs[j]? = some lv→∃ y,arr[j]? = some y∧lv.l.rd 0 w fz y lv.x []
def Ds (w:World) (fz:Nat→Prop):List (List L)→List Value→List Lv→Prop
 | [],[],vs=>vs=[]
 | ls::bs,u::us,vs=>∃ x y,vs=x++y∧G7 w fz ls u x∧Ds w fz bs us y
 | _,_,_=>False
def Kl (w:World) (fz:Nat→Prop) (rowv:Value):KK→Value→List Lv→Prop
 | .box ls,u,vs=>G7 w fz ls u vs
 | .EB g bs,u,vs=>∃ (b:Nat) (T:TypeId) (fr:Nat×Nat) (lb:Array Value),u = .pointer (some ⟨b,0,none⟩)∧fz b∧w.heap[b]? = some (.cells #[.func (.func g) #[] lb] T fr)∧Ds w fz bs lb.toList vs
 | .row,u,vs=>vs=[]∧∃ (b:Nat) (T:TypeId) (fr:Nat×Nat),u = .pointer (some ⟨b,0,none⟩)∧fz b∧w.heap[b]? = some (.cells #[rowv] T fr)
def ED (w:World) (fz:Nat→Prop) (rowv:Value):List KK→List Value→List Lv→Prop
 | [],[],vs=>vs=[]
 | c::cs,u::us,vs=>∃ x y,vs=x++y∧Kl w fz rowv c u x∧ED w fz rowv cs us y
 | _,_,_=>False
def Ni (P:Program) (g:FuncId) (σ:ON):Prop :=
 ∀ (w:World) (fz:Nat→Prop) (us:List Value) (vs:List Lv) (y:(Eu (σ.I8.flatMap KK.kinds)).D) (AX off n c:Nat) (G:Nat→Int),ED w fz (.slice (some ⟨AX,off,none⟩) n c) σ.I8 us vs→pack (Eu (σ.I8.flatMap KK.kinds)) vs=some y →
  (∀ t,t<n→w.cell? ⟨AX,off+t,none⟩=some (.int .i64 (G t)))→n≤20→∀ i j:Nat,i<n→j<n→∀ b,σ.lt y (G i) (G j)=some b →
  Calls P g (#[.int .i64 i, .int .i64 j]++us.toArray) w fun e w'=>e = .returned (.bool b)∧∃ q os,w'=Go.Sort.grow (w.drewN q) os
structure Nj (P:Program) (f:FuncId) (t:TypeId):Prop where
 many:∀ (α:Type) [Inhabited α] (enc:α→Value),(∀ x,(enc x).oneCell'=true)→∀ (lt:α→α→Bool) (g:Nat) (lb:Array Value),(∀ args w,(callFunc g args).run P w = .ok (.enter g args) w)→∀ (AX off c:Nat) (d:Array α),2≤d.size→d.size≤20→∀ (w:World),
  (∀ (m:Nat) (os:Array Obj) (dk:Array α),dk.size=d.size→∀ i j:Nat,i<d.size→j<d.size →
   Calls P g (#[.int .i64 i, .int .i64 j]++lb) (Go.Sort.grow (Go.Sort.putRow enc (Go.Sort.ahead w m) AX off dk) os) fun e w'=>e = .returned (.bool (lt dk[i]! dk[j]!))∧∃ q os',w'=Go.Sort.grow ((Go.Sort.grow (Go.Sort.putRow enc (Go.Sort.ahead w m) AX off dk) os).drewN q) os') →
  Go.Sort.Holds enc w AX off d→AX<w.heap.size →
  Calls P f #[.iface t (.slice (some ⟨AX,off,none⟩) d.size c), .func (.func g) #[] lb] w fun e w'=>e = .returned (.tuple #[])∧∃ n os,w'=Go.Sort.grow (Go.Sort.putRow enc (Go.Sort.ahead w n) AX off (Go.Sort.insertionSort lt d 0 d.size)) os
 OG:∀ (p:Option Addr) (n c:Nat),n≤1→∀ (lf:Fn) (la lb:Array Value) (w:World),Calls P f #[.iface t (.slice p n c), .func lf la lb] w fun e w'=>e = .returned (.tuple #[])∧∃ os,w'=Go.Sort.grow w os
 body : ∃ (fn : Func) (c : Code), P.funcs[f]? = some fn ∧ fn.body = some c ∧ (fn.name == "runtime.NumGoroutine") = false
structure Na (P:Program) (f g:FuncId) (σ:ON):Prop where
 sort:Nj P f σ.t
 less:Ni P g σ
 enters:∀ args w,(callFunc g args).run P w = .ok (.enter g args) w
def JX (P : Program) (T : List (String × Array Value)) (env : FuncId → Option Mz) : Prop := ∀ f g, env f = some g → K6 P T f g ∧ ∃ (fn : Func) (c : Code), P.funcs[f]? = some fn ∧ fn.body = some c ∧ (fn.name == "runtime.NumGoroutine") = false
structure Km (P:Program) (T:List (String×Array Value)) (env:Env):Prop where
 fns:JX P T env.fn
 Ow:∀ f g σ,env.O3 f g=some σ→Na P f g σ
 OT:Lt P env
def DD (P:Program) (E:Cq) (env:Env):Prop:=Km P E.NY env∧∀ x∈E.NY,E.w0.var? P x.1=some x.2∧∃ g,P.globalNamed x.1=some g∧¬ E.io g∧g<E.base
theorem DD.O1 {P:Program} {E:Cq} {env:Env} (h:DD P E env) {W:Wd} (hs:Sep E W) {om:Key→List Nat} (ho:∀ k,∀ b∈om k,∃ k',b∈W.om k'):Oy P E.NY W.w (fun b=>∃ k,b∈om k):=by
 intro x hx
 obtain ⟨h1,g,h2,h3,h4⟩:=h.2 x hx
 have hg:W.w.heap[g]? = E.w0.heap[g]? := hs.frame g h4 h3
 refine ⟨?_,g,h2, ?_,by have:=hs.size;omega⟩
 ·unfold World.var? at h1 ⊢
  rw [h2] at h1 ⊢
  simp only [Option.bind_some] at h1 ⊢
  rw [hg];exact h1
 ·rintro ⟨k,hb⟩
  obtain ⟨k',hb⟩:=ho k g hb
  rcases (hs.own k' g hb).2.2 with h5 | h5
  ·omega
  ·exact h3 h5
section
variable {P:Program} {E:Cq} {s s':St} {W W':Wd} {v:Nat} {tm:Array Value}
theorem AW.MO (h:AW E s tm W) (hv:Ae s v) (hsame:Jb s s') (chk:Nat→Nat→Prop) (chb:Nat→Prop)
  (hl:∀ r j,¬ chk r j→s'.leaf r j=s.leaf r j) (hcv:∀ r,¬ chb r→∀ j,W'.cv r j=W.cv r j) (hcb:∀ r j,chb r→chk r j) (hbk:∀ r,W'.bk r=W.bk r)
  (hom:∀ r j,¬ chk r j→W'.om (.lf r j)=W.om (.lf r j)) (homb:∀ r,W'.om (.AX r)=W.om (.AX r))
  (hw:∀ b,(W.fz b∨(∃ r,¬ chb r∧b∈W.om (.AX r))∨∃ r j,¬ chk r j∧b∈W.om (.lf r j))→W'.w.heap[b]? = W.w.heap[b]?) (hfz:∀ b,W.fz b→W'.fz b)
  (hleaf:∀ (r j AA gen:Nat) (t:TypeId) (e:Ls) (xs:List e.D) (d:Nat),chk r j→s'.leaf r j = .arr AA gen t e xs d→AA≠v→¬ chb r∧∃ gen0 t0 xs0 d0,s.leaf r j = .arr AA gen0 t0 e xs0 d0∧(gen≠v→gen=gen0∧W'.w=W.w))
  (hsep:Sep E W') (hok:EG v s s' W W'→∀ r j,chk r j→Aa s' W' (s'.leaf r j) (W'.cv r j) (W'.om (.lf r j)))
  (hbox:∀ r,chb r→(s.root r).box=true→∃ (arr:Array Value) (T:TypeId) (fr:Nat×Nat),W'.w.heap[W.bk r]? = some (.cells arr T fr)∧(∀ j,j<arr.size→¬(fr.1≤j∧j<fr.2))∧arr.size=(s.root r).ls.length∧∀ j,W'.cv r j=arr[j]?):AW E s' tm W':=by
 have hturn:EG v s s' W W':={
  fz:=hfz
  LL:=fun b hb=>hw b (.inl hb)
  leaf:=by
   intro r j AA gen t e xs d hlf hne
   by_cases hc:chk r j
   ·obtain ⟨hb,gen0,t0,xs0,d0,hl0,hg⟩:=hleaf r j AA gen t e xs d hc hlf hne
    refine ⟨hcv r hb j,gen0,t0,xs0,d0,hl0,fun hgv => ?_⟩
    obtain ⟨h1,h2⟩:=hg hgv
    exact ⟨h1,fun p h' e' u hc hn=>by rw [h2];exact hn⟩
   ·rw [hl r j hc] at hlf
    refine ⟨hcv r (fun hb=>hc (hcb r j hb)) j,gen,t,xs,d,hlf,fun _=>⟨rfl,fun p h' e' u' hc' hn => ?_⟩⟩
    obtain ⟨u0,hu0,hrd⟩:=(h.roots r).row hlf
    rw [hc'] at hu0;injection hu0 with hu0;subst hu0
    exact BN p hrd hn fun b hb=>hw b (hb.elim (fun hb => .inr (.inr ⟨r,j,hc,hb⟩)) .inl)
  box:=fun r hb hne=>⟨(hsame.box r).1 ▸ hb,(hsame.box r).2.1.symm,hbk r⟩ }
 refine h.H9 hv hturn hsep (by rw [hsame.sl,h.DB]) (by rw [hsame.len,h.Bx]) (fun t => .inl ⟨by show nth _ s'.sl t=_;rw [hsame.sl];rfl,rfl⟩) ?_
 intro r
 obtain ⟨h1,h2⟩:=h.roots r
 refine ⟨fun j => ?_, ?_⟩
 ·show Aa s' W' (s'.leaf r j) (W'.cv r j) (W'.om (.lf r j))
  by_cases hc:chk r j
  ·exact hok hturn r j hc
  ·rw [hl r j hc,hcv r (fun hb=>hc (hcb r j hb)) j,hom r j hc]
   exact Aa.Df hturn (LA.Dr hv r j) (fun b hb=>hw b (.inr (.inr ⟨r,j,hc,hb⟩))) (h1 j)
 ·rw [(hsame.box r).1,homb,hbk]
  split
  ·rename_i hb
   rw [if_pos hb] at h2
   obtain ⟨ho',arr',T',fr',hh',a1,a2,a3⟩:=h2
   refine ⟨ho', ?_⟩
   by_cases hc:chb r
   ·obtain ⟨arr,T,fr,q1,q2,q3,q4⟩:=hbox r hc hb
    exact ⟨arr,T,fr,q1,q2,by rw [q3,(hsame.box r).2.2],q4⟩
   ·exact ⟨arr',T',fr',(hw _ (.inr (.inl ⟨r,hc,by rw [ho'];simp⟩))).trans hh',a1,by rw [(hsame.box r).2.2];exact a2,fun j=>(hcv r hc j).trans (a3 j)⟩
  ·rename_i hb;rw [if_neg hb] at h2;exact h2
structure Up where
 r:Nat
 lo:Nat
 news:List LA
def Ee (us:List Up):List Wr:=us.flatMap fun u=>A4 u.r u.lo u.news
theorem IM:∀ (us:List Up) (s:St),(∀ u∈us,(u.news=[]∨u.r<s.ro.length)∧u.lo+u.news.length≤(s.root u.r).ls.length)→Jb s (s.app (Ee us)) ∧
  ∀ r j,(s.app (Ee us)).leaf r j=us.foldl (fun a u=>if r=u.r∧u.lo≤j∧j<u.lo+u.news.length then nth .bad u.news (j - u.lo) else a) (s.leaf r j)
 | [],s,h=>⟨⟨rfl,rfl,fun _=>⟨rfl,rfl,rfl⟩⟩,fun r j=>rfl⟩
 | u::us,s,h=>by
  obtain ⟨hr,hf⟩:=h u (by simp)
  obtain ⟨h1,h2⟩:=D2 u.r u.news u.lo s hr hf
  obtain ⟨h3,h4⟩:=IM us (s.app (A4 u.r u.lo u.news)) fun x hx=>by
   obtain ⟨q1,q2⟩:=h x (List.mem_cons_of_mem _ hx)
   exact ⟨by rw [h1.len];exact q1,by rw [(h1.box x.r).2.2];exact q2⟩
  have he:s.app (Ee (u::us))=(s.app (A4 u.r u.lo u.news)).app (Ee us):=by
   show s.app (A4 u.r u.lo u.news++Ee us)=_
   rw [BD]
  rw [he]
  refine ⟨⟨h3.sl.trans h1.sl,h3.len.trans h1.len,fun x=>⟨(h3.box x).1.trans (h1.box x).1,(h3.box x).2.1.trans (h1.box x).2.1,(h3.box x).2.2.trans (h1.box x).2.2⟩⟩,fun r j => ?_⟩
  rw [h4,h2];rfl
end
end Go.Ev
namespace Go.Ev
set_option linter.unusedVariables false
set_option linter.unusedSimpArgs false
theorem CK.uniq {α:Type} {n:Nat} {R R':(Nat→Option Value)→α→List Nat→Prop} {own:Bool} {w:World} {fz fz':Nat→Prop} {v:Value} {xs xs':List α} {o o':List Nat}
  (h:CK n R own w fz v xs o) (h':CK n R' own w fz' v xs' o') (hr:∀ g x y p q,R g x p→R' g y q→x=y∧p=q):xs=xs'∧o=o':=by
 obtain ⟨A,c,hv,hc,h⟩:=h
 obtain ⟨A',c',hv',hc',h'⟩:=h'
 rw [hv] at hv'
 injection hv' with e1 e2 e3
 subst e1;subst e3
 cases A with
 | none =>
  have z1:xs=[]:=List.eq_nil_of_length_eq_zero (by have:=h.1;omega)
  have z2:xs'=[]:=List.eq_nil_of_length_eq_zero (by omega)
  exact ⟨z1.trans z2.symm,h.2.trans h'.2.symm⟩
 | some a =>
  by_cases hc0:c=0
  ·have z1:xs=[]:=List.eq_nil_of_length_eq_zero (by omega)
   have z2:xs'=[]:=List.eq_nil_of_length_eq_zero (by omega)
   subst z1;subst z2
   refine ⟨rfl, ?_⟩
   cases own with
   | true =>
    rcases h with ⟨h1,_,_⟩ | ⟨g,os,_,_,h⟩
    ·cases h1
    rcases h' with ⟨h1,_,_⟩ | ⟨g',os',_,_,h'⟩
    ·cases h1
    have h:o=a.block::(List.range 0).flatMap os:=h
    have h':o'=a.block::(List.range 0).flatMap os':=h'
    rw [h,h'];simp
   | false =>
    have e1:o=[]:=by
     rcases h with ⟨_,_,h3⟩ | ⟨g,os,_,_,h⟩
     ·exact h3
     ·exact h.2.1
    have e2:o'=[]:=by
     rcases h' with ⟨_,_,h3⟩ | ⟨g,os,_,_,h'⟩
     ·exact h3
     ·exact h'.2.1
    rw [e1,e2]
  ·rcases h with ⟨_,h,_⟩ | ⟨g,os,hrow,hel,ho⟩
   ·exact absurd h hc0
   rcases h' with ⟨_,h,_⟩ | ⟨g',os',hrow',hel',ho'⟩
   ·exact absurd h hc0
   have hgg:g=g':=by
    funext j
    rw [← hrow.cell j, ← hrow'.cell j]
   subst hgg
   have hlen:xs.length=xs'.length:=e2
   have hel2:∀ i (h1:i<xs.length) (h2:i<xs'.length),xs[i]=xs'[i]∧os i=os' i:=fun i h1 h2=>hr _ _ _ _ _ (hel i h1) (hel' i h2)
   have hxs:xs=xs':=List.ext_getElem hlen fun i h1 h2=>(hel2 i h1 h2).1
   refine ⟨hxs, ?_⟩
   cases own with
   | true =>
    have ho:o=a.block::(List.range xs.length).flatMap os:=ho
    have ho':o'=a.block::(List.range xs'.length).flatMap os':=ho'
    rw [ho,ho', ← hlen]
    congr 1
    have:∀ (l:List Nat),(∀ i∈l,i<xs.length)→l.flatMap os=l.flatMap os':=by
     intro l
     induction l with
     | nil=>intro _;rfl
     | cons i l ih =>
      intro hi
      rw [List.flatMap_cons,List.flatMap_cons,ih fun k hk=>hi k (List.mem_cons_of_mem _ hk),(hel2 i (hi i List.mem_cons_self) (hlen ▸ hi i List.mem_cons_self)).2]
    exact this _ fun i hi=>List.mem_range.1 hi
   | false=>rw [ho.2.1,ho'.2.1]
mutual
theorem L.Eo:∀ (l:L) {d:Nat} {w:World} {fz fz':Nat→Prop} {v:Value} {x y:l.D} {o p:List Nat},l.rd d w fz v x o→l.rd d w fz' v y p→x=y∧o=p
 | .int _,_,_,_,_,_,_,_,_,_,h,h'=>by
  have:=h.1.symm.trans h'.1
  injection this with _ e
  exact ⟨e,h.2.trans h'.2.symm⟩
 | .bool,_,_,_,_,_,_,_,_,_,h,h'=>by
  have:=h.1.symm.trans h'.1
  injection this with e
  exact ⟨e,h.2.trans h'.2.symm⟩
 | .str,_,_,_,_,_,x,y,_,_,h,h'=>by
  have:=h.1.symm.trans h'.1
  injection this with e
  have e2:List.toArray (show List UInt8 from x)=List.toArray (show List UInt8 from y):=by injection e
  have e3:(show List UInt8 from x)=(show List UInt8 from y):=by
   have:=congrArg Array.toList e2
   simpa using this
  exact ⟨e3,h.2.trans h'.2.symm⟩
 | .sl _ e,d,w,fz,fz',v,x,y,o,p,h,h'=>by
  rw [L.Ix] at h h'
  exact CK.uniq h h' fun g a b q r h1 h2=>Ls.Eo e h1 h2
theorem Ls.Eo:∀ (ls:Ls) {d:Nat} {w:World} {fz fz':Nat→Prop} {g:Nat→Option Value} {x y:ls.D} {o p:List Nat},ls.rd d w fz g x o→ls.rd d w fz' g y p→x=y∧o=p
 | .nil,_,_,_,_,_,x,y,_,_,h,h'=>⟨by cases x;cases y;rfl,by rw [show _=_ from h,show _=_ from h']⟩
 | .one l,_,_,_,_,_,_,_,_,_,h,h'=>by
  simp only [Ls.rd] at h h'
  obtain ⟨v,hv,h⟩:=h
  obtain ⟨v',hv',h'⟩:=h'
  rw [hv] at hv';injection hv' with hv';subst hv'
  exact L.Eo l h h'
 | .cons l ls,_,_,_,_,_,x,y,_,_,h,h'=>by
  simp only [Ls.rd] at h h'
  obtain ⟨v,o1,o2,hv,h1,h2,rfl⟩:=h
  obtain ⟨v',p1,p2,hv',h1',h2',rfl⟩:=h'
  rw [hv] at hv';injection hv' with hv';subst hv'
  obtain ⟨a1,a2⟩:=L.Eo l h1 h1'
  obtain ⟨b1,b2⟩:=Ls.Eo ls h2 h2'
  exact ⟨Prod.ext a1 b1,by rw [a2,b2]⟩
end
theorem AD.uniq {e:Ls} {d:Nat} {w:World} {fz fz':Nat→Prop} {v:Value} {xs ys:List e.D} {o p:List Nat} (h:AD e d w fz v xs o) (h':AD e d w fz' v ys p):xs=ys∧o=p :=
 L.Eo (.sl 0 e) h h'
def Nh (o p o' q:List Nat):Prop:=q.Nodup∧∀ b∈q,b∈o'∨(b∈o∧b∉p)
structure Nb (w w':World) (fz fz':Nat→Prop) (o p o':List Nat):Prop where
 nd:o'.Nodup
 new:∀ b∈o',b∈o→b∈p
 rest:∀ b,(b∈o∧b∉p)∨fz b→w'.heap[b]? = w.heap[b]?
 fz:∀ b,fz b→fz' b
theorem Hu {G:(t:TypeId)→(f:Ls)→Option (List f.D→List f.D)} {d:Nat} {w:World} {fz:Nat→Prop}:∀ (e:Ls) (j:Nat) {F:e.D→e.D} {g:Nat→Option Value} {x:e.D} {o:List Nat} {t:TypeId} {f:Ls} {h:Value},
  CI e j G=some F→e.kinds[j]? = some (.sl t f)→e.rd d w fz g x o→g j=some h→o.Nodup →
  ∃ fn ys p,G t f=some fn∧AD f d w fz h ys p∧(∀ b∈p,b∈o)∧p.Nodup∧∀ w' fz' o',AD f d w' fz' h (fn ys) o'→Nb w w' fz fz' o p o'→∃ q,e.rd d w' fz' g (F x) q∧Nh o p o' q
 | .nil,j,F,g,x,o,t,f,h,hm,hk,hr,hg,hn=>by simp [Ls.kinds] at hk
 | .one l,j+1,F,g,x,o,t,f,h,hm,hk,hr,hg,hn=>by simp [Ls.kinds] at hk
 | .one l,0,F,g,x,o,t,f,h,hm,hk,hr,hg,hn=>by
  simp [Ls.kinds] at hk
  subst hk
  simp only [Ls.rd] at hr
  obtain ⟨v,hv,hr⟩:=hr
  rw [hg] at hv;injection hv with hv;subst hv
  simp only [CI] at hm
  exact ⟨F,x,o,hm,hr,fun b hb=>hb,hn,fun w' fz' o' hr' hs=>⟨o',⟨h,hg,hr'⟩,hs.nd,fun b hb => .inl hb⟩⟩
 | .cons l ls,0,F,g,x,o,t,f,h,hm,hk,hr,hg,hn=>by
  simp [Ls.kinds] at hk
  subst hk
  simp only [Ls.rd] at hr
  obtain ⟨v,o1,o2,hv,hr,hr2,rfl⟩:=hr
  rw [hg] at hv;injection hv with hv;subst hv
  simp only [CI] at hm
  split at hm
  ·rename_i fn hfn
   injection hm with hm;subst hm
   obtain ⟨n1,n2,n3⟩:=List.nodup_append.1 hn
   refine ⟨fn,x.1,o1,hfn,hr,fun b hb=>List.mem_append_left _ hb,n1,fun w' fz' o' hr' hs=>⟨o'++o2,⟨h,o',o2,hg,hr', ?_,rfl⟩, ?_, ?_⟩⟩
   ·exact Ls.AJ ls hr2 (fun b hb=>hs.rest b (hb.imp (fun hb=>⟨List.mem_append_right _ hb,fun hb'=>n3 b hb' b hb rfl⟩) id)) hs.fz
   ·refine List.nodup_append.2 ⟨hs.nd,n2,fun b hb c hc e => ?_⟩
    subst e
    exact n3 b (hs.new b hb (List.mem_append_right _ hc)) b hc rfl
   ·intro b hb
    rcases List.mem_append.1 hb with hb | hb
    ·exact .inl hb
    ·exact .inr ⟨List.mem_append_right _ hb,fun hb'=>n3 b hb' b hb rfl⟩
  ·cases hm
 | .cons l ls,j+1,F,g,x,o,t,f,h,hm,hk,hr,hg,hn=>by
  simp only [Ls.rd] at hr
  obtain ⟨v,o1,o2,hv,hr,hr2,rfl⟩:=hr
  simp only [CI] at hm
  split at hm
  ·rename_i F2 hF
   injection hm with hm;subst hm
   obtain ⟨n1,n2,n3⟩:=List.nodup_append.1 hn
   obtain ⟨fn,ys,p,h1,h2,h3,h4,h5⟩:=Hu ls j (g:=fun j=>g (j+1)) hF (by simpa [Ls.kinds] using hk) hr2 hg n2
   refine ⟨fn,ys,p,h1,h2,fun b hb=>List.mem_append_right _ (h3 b hb),h4,fun w' fz' o' hr' hs => ?_⟩
   obtain ⟨q,hq,hq1,hq2⟩:=h5 w' fz' o' hr' ⟨hs.nd,fun b hb hb'=>hs.new b hb (List.mem_append_right _ hb'),fun b hb=>hs.rest b (hb.imp (fun hb=>⟨List.mem_append_right _ hb.1,hb.2⟩) id),hs.fz⟩
   have hno:∀ b∈o1,b∉p:=fun b hb hp=>n3 b hb b (h3 b hp) rfl
   refine ⟨o1++q,⟨v,o1,q,hv, ?_,hq,rfl⟩, ?_, ?_⟩
   ·exact L.AJ l hr (fun b hb=>hs.rest b (hb.imp (fun hb=>⟨List.mem_append_left _ hb,hno b hb⟩) id)) hs.fz
   ·refine List.nodup_append.2 ⟨n1,hq1,fun b hb c hc e => ?_⟩
    subst e
    rcases hq2 b hc with h6 | h6
    ·exact hno b hb (hs.new b h6 (List.mem_append_left _ hb))
    ·exact n3 b hb b h6.1 rfl
   ·intro b hb
    rcases List.mem_append.1 hb with hb | hb
    ·exact .inr ⟨List.mem_append_left _ hb,hno b hb⟩
    ·exact (hq2 b hb).imp id fun h6=>⟨List.mem_append_right _ h6.1,h6.2⟩
  ·cases hm
theorem FF {os:Nat→List Nat}:∀ {l:List Nat},l.Nodup→(∀ i∈l,(os i).Nodup)→(∀ i∈l,∀ j∈l,i≠j→∀ b∈os i,b∉os j)→(l.flatMap os).Nodup
 | [],_,_,_=>by simp
 | x::l,h,h1,h2=>by
  obtain ⟨hx,hl⟩:=List.nodup_cons.1 h
  rw [List.flatMap_cons]
  refine List.nodup_append.2 ⟨h1 x List.mem_cons_self,FF hl (fun i hi=>h1 i (List.mem_cons_of_mem _ hi)) (fun i hi j hj=>h2 i (List.mem_cons_of_mem _ hi) j (List.mem_cons_of_mem _ hj)),fun b hb c hc e => ?_⟩
  subst e
  obtain ⟨j,hj,hb'⟩:=List.mem_flatMap.1 hc
  exact h2 x List.mem_cons_self j (List.mem_cons_of_mem _ hj) (fun e=>hx (e ▸ hj)) b hb hb'
theorem Nz {G:(t:TypeId)→(f:Ls)→Option (List f.D→List f.D)} {w:World} {fz:Nat→Prop}:∀ (p:List (Nat×Nat)) {t:TypeId} {e:Ls} {d:Nat} {h:Value} {xs:List e.D} {o:List Nat} {e':Ls} {v:Value} {F:List e.D→List e.D},
  Ht G p t e=some F→AD e d w fz h xs o→JV w p e h e' v→(p≠[]→d=2)→o.Nodup →
  ∃ t' fn ys po,G t' e'=some fn∧AD e' d w fz v ys po∧(∀ b∈po,b∈o)∧po.Nodup∧∀ w' fz' o',AD e' d w' fz' v (fn ys) o'→Nb w w' fz fz' o po o'→∃ q,AD e d w' fz' h (F xs) q∧Nh o po o' q
 | [],t,e,d,h,xs,o,e',v,F,hm,hr,hn,hp,hnd=>by
  obtain ⟨rfl,rfl⟩:=hn
  exact ⟨t,F,xs,o,hm,hr,fun b hb=>hb,hnd,fun w' fz' o' hr' hs=>⟨o',hr',hs.nd,fun b hb => .inl hb⟩⟩
 | (i,j)::p,t,e,d,h,xs,o,e',v,F,hm,hr,hn,hp,hnd=>by
  have hd:d=2:=hp (by simp)
  subst hd
  obtain ⟨a,len,c,t',f,h',rfl,hs,hi,hk,hc,hn⟩:=hn
  obtain ⟨A,cc,hv,hle,hrr⟩:=hr
  injection hv with hA hl hcc
  subst hA;subst hl;subst hcc
  rcases hrr with ⟨h0,_⟩ | ⟨g,os,hrow,hel,ho⟩
  ·simp at h0
  have ho:o=a.block::(List.range xs.length).flatMap os:=ho
  have hel:∀ i (h:i<xs.length),e.rd 2 w fz (fun j=>g (i * e.n+j)) xs[i] (os i):=hel
  simp only [Ht] at hm
  split at hm
  ·rename_i H hH
   injection hm with hm;subst hm
   rw [ho] at hnd
   obtain ⟨nb,nf⟩:=List.nodup_cons.1 hnd
   have hone:∀ m,m<xs.length→(os m).Nodup:=fun m hm=>Bf nf (List.mem_range.2 hm)
   have hdis:∀ m,m<xs.length→∀ k,k<xs.length→m≠k→∀ b∈os m,b∉os k:=fun m hm k hk hne=>CQ nf (List.mem_range.2 hm) (List.mem_range.2 hk) hne
   have hblk:∀ m,m<xs.length→a.block∉os m:=fun m hm hb=>nb (List.mem_flatMap.2 ⟨m,List.mem_range.2 hm,hb⟩)
   have hg:g (i * e.n+j)=some h':=by rw [← hrow.cell];exact hc
   obtain ⟨fn,ys,po,h1,h2,h3,h4,h5⟩:=Hu e j hH hk (hel i hi) hg (hone i hi)
   obtain ⟨t2,fn2,zs,po2,g1,g2,g3,g4,g5⟩:=Nz p h1 h2 hn (fun _=>rfl) h4
   have hin:∀ m,m<xs.length→∀ b∈os m,b∈o:=fun m hm b hb=>by rw [ho];exact List.mem_cons_of_mem _ (List.mem_flatMap.2 ⟨m,List.mem_range.2 hm,hb⟩)
   refine ⟨t2,fn2,zs,po2,g1,g2,fun b hb=>hin i hi b (h3 b (g3 b hb)),g4,fun w' fz' o' hr' hst => ?_⟩
   obtain ⟨q1,hq1,hb1,hb1'⟩:=g5 w' fz' o' hr' ⟨hst.nd,fun b hb hb'=>hst.new b hb (hin i hi b (h3 b hb')),fun b hb=>hst.rest b (hb.imp (fun hb=>⟨hin i hi b (h3 b hb.1),hb.2⟩) id),hst.fz⟩
   have hpo2:∀ b∈po2,b∈os i:=fun b hb=>h3 b (g3 b hb)
   obtain ⟨q2,hq2,hb2,hb2'⟩:=h5 w' fz' q1 hq1 ⟨hb1,fun b hb hb'=>by
     rcases hb1' b hb with h6 | h6
     ·exact g3 b (hst.new b h6 (hin i hi b hb'))
     ·exact h6.1,fun b hb=>hst.rest b (hb.imp (fun hb=>⟨hin i hi b hb.1,fun h7=>hb.2 (g3 b h7)⟩) id),hst.fz⟩
   have hq2o:∀ b∈q2,b∈o'∨(b∈os i∧b∉po2):=by
    intro b hb
    rcases hb2' b hb with h6 | h6
    ·rcases hb1' b h6 with h7 | h7
     ·exact .inl h7
     ·exact .inr ⟨h3 b h7.1,h7.2⟩
    ·exact .inr ⟨h6.1,fun h7=>h6.2 (g3 b h7)⟩
   let os':Nat→List Nat:=fun m=>if m=i then q2 else os m
   have hrow':Row w' a (c * e.n) true g:=hrow.frame (hst.rest _ (.inl ⟨by rw [ho];simp,fun h7=>hblk i hi (hpo2 _ h7)⟩))
   have hlen:(xs.modify i H).length=xs.length:=by simp
   refine ⟨a.block::(List.range xs.length).flatMap os',⟨some a,c,by simp,by simpa using hle, .inr ⟨g,os',hrow',fun m hm => ?_, ?_⟩⟩, ?_, ?_⟩
   ·have hm':m<xs.length:=by simpa using hm
    show e.rd 2 w' fz' _ (xs.modify i H)[m] (os' m)
    rw [List.getElem_modify]
    by_cases him:i=m
    ·subst him
     rw [if_pos rfl,show os' i=q2 from if_pos rfl]
     exact hq2
    ·rw [if_neg him,show os' m=os m from if_neg fun e=>him e.symm]
     exact Ls.AJ e (hel m hm') (fun b hb=>hst.rest b (hb.imp (fun hb=>⟨hin m hm' b hb,fun h7=>hdis m hm' i hi (fun e=>him e.symm) b hb (hpo2 b h7)⟩) id)) hst.fz
   ·show a.block::(List.range xs.length).flatMap os'=a.block::(List.range (xs.modify i H).length).flatMap os'
    rw [hlen]
   ·refine List.nodup_cons.2 ⟨fun hb => ?_,FF List.nodup_range (fun m hm => ?_) (fun m hm k hk hne b hb hb' => ?_)⟩
    ·obtain ⟨m,hm,hb⟩:=List.mem_flatMap.1 hb
     have hm:=List.mem_range.1 hm
     by_cases him:m=i
     ·subst him
      rw [show os' m=q2 from if_pos rfl] at hb
      rcases hq2o _ hb with h6 | h6
      ·exact hblk m hm (hpo2 _ (hst.new _ h6 (by rw [ho];simp)))
      ·exact hblk m hm h6.1
     ·rw [show os' m=os m from if_neg him] at hb
      exact hblk m hm hb
    ·have hm:=List.mem_range.1 hm
     by_cases him:m=i
     ·rw [show os' m=q2 from if_pos him];exact hb2
     ·rw [show os' m=os m from if_neg him];exact hone m hm
    ·have hm:=List.mem_range.1 hm
     have hk:=List.mem_range.1 hk
     by_cases him:m=i
     ·have hki:k≠i:=fun e=>hne (him.trans e.symm)
      rw [show os' m=q2 from if_pos him] at hb
      rw [show os' k=os k from if_neg hki] at hb'
      rcases hq2o b hb with h6 | h6
      ·exact hdis k hk i hi hki b hb' (hpo2 b (hst.new b h6 (hin k hk b hb')))
      ·exact hdis k hk i hi hki b hb' h6.1
     ·rw [show os' m=os m from if_neg him] at hb
      by_cases hki:k=i
      ·rw [show os' k=q2 from if_pos hki] at hb'
       rcases hq2o b hb' with h6 | h6
       ·exact hdis m hm i hi him b hb (hpo2 b (hst.new b h6 (hin m hm b hb)))
       ·exact hdis m hm i hi him b hb h6.1
      ·rw [show os' k=os k from if_neg hki] at hb'
       exact hdis m hm k hk hne b hb hb'
   ·intro b hb
    rcases List.mem_cons.1 hb with rfl | hb
    ·exact .inr ⟨by rw [ho];simp,fun h7=>hblk i hi (hpo2 _ h7)⟩
    ·obtain ⟨m,hm,hb⟩:=List.mem_flatMap.1 hb
     have hm:=List.mem_range.1 hm
     by_cases him:m=i
     ·rw [show os' m=q2 from if_pos him] at hb
      exact (hq2o b hb).imp id fun h6=>⟨hin i hi b h6.1,h6.2⟩
     ·rw [show os' m=os m from if_neg him] at hb
      exact .inr ⟨hin m hm b hb,fun h7=>hdis m hm i hi him b hb (hpo2 b h7)⟩
  ·cases hm
theorem Il {β:Type} {d:Nat} {w:World} {fz:Nat→Prop} {k:(t:TypeId)→(f:Ls)→List f.D→Step β} {t:β}:∀ (e:Ls) (j:Nat) {g:Nat→Option Value} {x:e.D} {o:List Nat} {t':TypeId} {f:Ls} {h:Value},
  (JF e j x k).leads t→e.rd d w fz g x o→e.kinds[j]? = some (.sl t' f)→g j=some h→o.Nodup→∃ (ys:List f.D) (o':List Nat),(k t' f ys).leads t∧AD f d w fz h ys o'∧(∀ b∈o',b∈o)∧o'.Nodup
 | .nil,j,_,_,_,_,_,_,hl,_,_,_,_=>hl.elim
 | .one l,0,g,x,o,t',f,h,hl,hr,hk,hg,hn=>by
  simp only [Ls.rd] at hr
  obtain ⟨v,hv,hr⟩:=hr
  simp [Ls.kinds] at hk
  subst hk
  rw [hg] at hv;injection hv with hv;subst hv
  exact ⟨x,o,hl,hr,fun b hb=>hb,hn⟩
 | .one _,_+1,_,_,_,_,_,_,hl,_,_,_,_=>hl.elim
 | .cons l ls,0,g,x,o,t',f,h,hl,hr,hk,hg,hn=>by
  simp only [Ls.rd] at hr
  obtain ⟨v,o1,o2,hv,hr,hr2,rfl⟩:=hr
  simp [Ls.kinds] at hk
  subst hk
  rw [hg] at hv;injection hv with hv;subst hv
  exact ⟨x.1,o1,hl,hr,fun b hb=>List.mem_append_left _ hb,(List.nodup_append.1 hn).1⟩
 | .cons l ls,j+1,g,x,o,t',f,h,hl,hr,hk,hg,hn=>by
  simp only [Ls.rd] at hr
  obtain ⟨v,o1,o2,hv,hr,hr2,rfl⟩:=hr
  obtain ⟨ys,o',a,b,c,d⟩:=Il ls j (g:=fun j=>g (j+1)) hl hr2 (by simpa [Ls.kinds] using hk) hg (List.nodup_append.1 hn).2.1
  exact ⟨ys,o',a,b,fun x hx=>List.mem_append_right _ (c x hx),d⟩
theorem Fb {β:Type} {w:World} {fz:Nat→Prop} {k:(t:TypeId)→(e:Ls)→List e.D→Nat→Step β} {z:β}:∀ (p:List (Nat×Nat)) {t0:TypeId} {e:Ls} {xs:List e.D} {d:Nat} {h:Value} {o:List Nat} {e':Ls} {v:Value},
  (OU k p t0 e xs d).leads z→AD e d w fz h xs o→JV w p e h e' v→(p≠[]→d=2)→o.Nodup→∃ (t':TypeId) (ys:List e'.D) (o':List Nat),(k t' e' ys d).leads z∧AD e' d w fz v ys o'∧(∀ b∈o',b∈o)∧o'.Nodup
 | [],t0,e,xs,d,h,o,e',v,hl,hr,hn,hp,hnd=>by
  obtain ⟨rfl,rfl⟩:=hn
  exact ⟨t0,xs,o,hl,hr,fun b hb=>hb,hnd⟩
 | (i,j)::p,t0,e,xs,d,h,o,e',v,hl,hr,hn,hp,hnd=>by
  have hd:d=2:=hp (by simp)
  subst hd
  obtain ⟨a,len,c,t',f,h',rfl,hs,hi,hk,hc,hn⟩:=hn
  obtain ⟨A,cc,hv,hle,hrr⟩:=hr
  injection hv with hA hl' hcc
  subst hA;subst hl';subst hcc
  rcases hrr with ⟨h0,_⟩ | ⟨g,os,hrow,hel,ho⟩
  ·simp at h0
  have ho:o=a.block::(List.range xs.length).flatMap os:=ho
  have hel:∀ i (h:i<xs.length),e.rd 2 w fz (fun j=>g (i * e.n+j)) xs[i] (os i):=hel
  obtain ⟨x,hx,hl⟩:=hl
  rw [List.getElem?_eq_getElem hi] at hx
  injection hx with hx;subst hx
  have hg:g (i * e.n+j)=some h':=by rw [← hrow.cell];exact hc
  rw [ho] at hnd
  obtain ⟨nb,nf⟩:=List.nodup_cons.1 hnd
  obtain ⟨ys,o',hl,hrd,hsub,hnd'⟩:=Il e j hl (hel i hi) hk hg (Bf nf (List.mem_range.2 hi))
  obtain ⟨t2,zs,o2,hl,hz,hs2,hn2⟩:=Fb p hl hrd hn (fun _=>rfl) hnd'
  exact ⟨t2,zs,o2,hl,hz,fun b hb=>by rw [ho];exact List.mem_cons_of_mem _ (List.mem_flatMap.2 ⟨i,List.mem_range.2 hi,hsub b (hs2 b hb)⟩),hn2⟩
end Go.Ev
namespace Go.Ev
set_option linter.unusedVariables false
set_option linter.unusedSimpArgs false
def GL (ovs:Nat→List Nat) (o:List Nat):Prop:=(∀ m,(ovs m).Nodup)∧(∀ m m',m≠m'→∀ b∈ovs m,b∉ovs m')∧∀ m,∀ b∈ovs m,b∉o
theorem GL.sub {ovs:Nat→List Nat} {o o':List Nat} (h:GL ovs o) (hs:∀ b∈o',b∈o):GL ovs o':=⟨h.1,h.2.1,fun m b hb hb'=>h.2.2 m b hb (hs b hb')⟩
theorem B0 {w:World} {fz:Nat→Prop} {d:Nat} {ovs:Nat→List Nat}:∀ (e:Ls) (off:Nat) (vs:List Lv) (cells:List Value) (sh:Nat) {f:e.D→e.D} {g g':Nat→Option Value} {x:e.D} {o:List Nat},Bs e off vs=some f→cells.length=vs.length →
  (∀ (m:Nat) (lv:Lv),vs[m]? = some lv→∃ u,cells[m]? = some u∧lv.l.rd d w fz u lv.x (ovs (sh+m)))→e.rd d w fz g x o→(∀ m,m<e.n→g' m=if off≤m∧m<off+vs.length then cells[m - off]? else g m) →
  off+vs.length≤e.n∧∃ o',e.rd d w fz g' (f x) o'∧(∀ b∈o',b∈o∨∃ m,sh≤m∧b∈ovs m)∧(o.Nodup→GL ovs o→o'.Nodup)
 | .nil,off,vs,cells,sh,f,g,g',x,o,hf,hl,hp,hr,hg=>by simp [Bs] at hf
 | .one l,off,vs,cells,sh,f,g,g',x,o,hf,hl,hp,hr,hg=>by
  simp only [Bs] at hf
  split at hf
  ·rename_i v
   split at hf
   ·rename_i y hy
    injection hf with hf;subst hf
    obtain ⟨l',z⟩:=v
    obtain ⟨e1,e2⟩:=L.AI hy
    dsimp only at e1;subst e1
    have e2:z=y:=e2
    subst e2
    obtain ⟨u,hu,hu'⟩:=hp 0 ⟨l',z⟩ rfl
    refine ⟨by simp [Ls.n],ovs sh, ?_,fun b hb => .inr ⟨sh,Nat.le_refl _,hb⟩,fun _ hn=>hn.1 sh⟩
    simp only [Ls.rd]
    refine ⟨u, ?_,by simpa using hu'⟩
    rw [hg 0 (by simp [Ls.n]),if_pos (by simp), ← hu]
   ·cases hf
  ·cases hf
 | .cons l ls,off,vs,cells,sh,f,g,g',x,o,hf,hl,hp,hr,hg=>by
  simp only [Bs] at hf
  simp only [Ls.rd] at hr
  obtain ⟨v0,o1,o2,hv0,h1,h2,rfl⟩:=hr
  cases off with
  | zero =>
   simp only at hf
   split at hf
   ·cases hf
   ·rename_i v
    split at hf
    ·rename_i y hy
     injection hf with hf;subst hf
     obtain ⟨l',z⟩:=v
     obtain ⟨e1,e2⟩:=L.AI hy
     dsimp only at e1;subst e1
     have e2:z=y:=e2
     subst e2
     obtain ⟨u,hu,hu'⟩:=hp 0 ⟨l',z⟩ rfl
     refine ⟨by simp [Ls.n] <;> omega,ovs sh++o2, ?_,fun b hb => ?_,fun hn hk => ?_⟩
     ·simp only [Ls.rd]
      refine ⟨u,ovs sh,o2, ?_,by simpa using hu',Ls.BE ls h2 fun j hj=>by rw [hg (j+1) (by simp [Ls.n] <;> omega),if_neg (by simp)],rfl⟩
      rw [hg 0 (by simp [Ls.n] <;> omega),if_pos (by simp), ← hu]
     ·rcases List.mem_append.1 hb with hb | hb
      ·exact .inr ⟨sh,Nat.le_refl _,hb⟩
      ·exact .inl (List.mem_append_right _ hb)
     ·refine List.nodup_append.2 ⟨hk.1 sh,(List.nodup_append.1 hn).2.1,fun a ha b hb e => ?_⟩
      subst e
      exact hk.2.2 sh a ha (List.mem_append_right _ hb)
    ·cases hf
   ·rename_i v u0 vs'
    split at hf
    ·rename_i y f' hy hf'
     injection hf with hf;subst hf
     obtain ⟨l',z⟩:=v
     obtain ⟨e1,e2⟩:=L.AI hy
     dsimp only at e1;subst e1
     have e2:z=y:=e2
     subst e2
     obtain ⟨u,hu,hu'⟩:=hp 0 ⟨l',z⟩ rfl
     obtain ⟨c0,cs,rfl⟩:∃ c0 cs,cells=c0::cs:=by
      cases cells with
      | nil=>simp at hl
      | cons c cs=>exact ⟨c,cs,rfl⟩
     obtain ⟨ih1,o',ih2,ih3,ih4⟩:=B0 ls 0 (u0::vs') cs (sh+1) (g':=fun j=>g' (j+1)) hf' (by simpa using hl) (fun m lv hm=>by
       have:=hp (m+1) lv (by simpa using hm)
       rw [show sh+(m+1)=sh+1+m by omega] at this
       simpa using this) h2 (fun m hm=>by
       rw [hg (m+1) (by simp [Ls.n] <;> omega)]
       by_cases hc:m<(u0::vs').length
       ·rw [if_pos (by simp at hc ⊢;omega),if_pos (by simp at hc ⊢;omega)];simp
       ·rw [if_neg (by simp at hc ⊢;omega),if_neg (by simp at hc ⊢;omega)])
     refine ⟨by simp [Ls.n] at ih1 ⊢ <;> omega,ovs sh++o', ?_,fun b hb => ?_,fun hn hk => ?_⟩
     ·simp only [Ls.rd]
      refine ⟨u,ovs sh,o', ?_,by simpa using hu',ih2,rfl⟩
      rw [hg 0 (by simp [Ls.n] <;> omega),if_pos (by simp), ← hu]
     ·rcases List.mem_append.1 hb with hb | hb
      ·exact .inr ⟨sh,Nat.le_refl _,hb⟩
      ·rcases ih3 b hb with hb | ⟨m,hm,hb⟩
       ·exact .inl (List.mem_append_right _ hb)
       ·exact .inr ⟨m,by omega,hb⟩
     ·refine List.nodup_append.2 ⟨hk.1 sh,ih4 (List.nodup_append.1 hn).2.1 (hk.sub fun b hb=>List.mem_append_right _ hb),fun a ha b hb e => ?_⟩
      subst e
      rcases ih3 a hb with hb | ⟨m,hm,hb⟩
      ·exact hk.2.2 sh a ha (List.mem_append_right _ hb)
      ·exact hk.2.1 sh m (by omega) a ha hb
    ·cases hf
  | succ off =>
   simp only at hf
   split at hf
   ·rename_i f' hf'
    injection hf with hf;subst hf
    obtain ⟨ih1,o',ih2,ih3,ih4⟩:=B0 ls off vs cells sh (g':=fun j=>g' (j+1)) hf' hl hp h2 (fun m hm=>by
     rw [hg (m+1) (by simp [Ls.n] <;> omega)]
     by_cases hc:off≤m∧m<off+vs.length
     ·rw [if_pos (by omega),if_pos hc];congr 1;omega
     ·rw [if_neg (by omega),if_neg hc])
    refine ⟨by simp [Ls.n] <;> omega,o1++o', ?_,fun b hb => ?_,fun hn hk => ?_⟩
    ·simp only [Ls.rd]
     refine ⟨v0,o1,o', ?_,h1,ih2,rfl⟩
     rw [hg 0 (by simp [Ls.n] <;> omega),if_neg (by omega)];exact hv0
    ·rcases List.mem_append.1 hb with hb | hb
     ·exact .inl (List.mem_append_left _ hb)
     ·exact (ih3 b hb).imp (List.mem_append_right _) id
    ·refine List.nodup_append.2 ⟨(List.nodup_append.1 hn).1,ih4 (List.nodup_append.1 hn).2.1 (hk.sub fun b hb=>List.mem_append_right _ hb),fun a ha b hb e => ?_⟩
     subst e
     rcases ih3 a hb with hb | ⟨m,_,hb⟩
     ·exact (List.nodup_append.1 hn).2.2 a ha a hb rfl
     ·exact hk.2.2 m a hb (List.mem_append_left _ ha)
   ·cases hf
theorem Kx {e:Ls} {w:World} {fz:Nat→Prop} {a:Addr} {n k:Nat} {xs:List e.D} {o:List Nat} (hr:AD e 2 w fz (.slice (some a) n k) xs o) (hn:o.Nodup) (hz:∀ b∈o,¬ fz b) {i:Nat} (hi:i<n)
  {off:Nat} {cells:List Value} {F:e.D→e.D} {ovs:Nat→List Nat} (hk:GL ovs o) (hkz:∀ m,∀ b∈ovs m,¬ fz b) (hfit:off+cells.length≤e.n)
  (hF:∀ g g' x oo,e.rd 2 w fz g x oo→(∀ m,m<e.n→g' m=if off≤m∧m<off+cells.length then cells[m - off]? else g m)→∃ o',e.rd 2 w fz g' (F x) o'∧(∀ b∈o',b∈oo∨∃ m,b∈ovs m)∧(oo.Nodup→GL ovs oo→o'.Nodup)) :
  a.spot=none∧∃ arr T fr,w.heap[a.block]? = some (.cells arr T fr)∧(∀ j,j<arr.size→¬(fr.1≤j∧j<fr.2))∧a.off+(i * e.n+off)+cells.length≤arr.size∧a.block∈o ∧
   ∃ o',o'.Nodup∧(∀ b∈o',b∈o∨∃ m,b∈ovs m)∧∀ w',My w w' a.block (B9 cells (a.off+(i * e.n+off)) arr) T fr→AD e 2 w' fz (.slice (some a) n k) (xs.modify i F) o':=by
 obtain ⟨A,c,hv,hc,_,hsome⟩:=hr.KL
 injection hv with hA hl hk'
 subst hA;subst hl;subst hk'
 obtain ⟨arr,T,fr,os,hs,hh,hsz,hbare,hel,ho,_⟩:=hsome a rfl (.inr (by omega))
 have ho:=ho (by omega)
 have hbare:=hbare (by omega)
 have hmul:i * e.n+e.n≤k * e.n:=by
  have:(i+1) * e.n≤k * e.n:=Nat.mul_le_mul_right _ (by omega)
  rw [Nat.add_mul,Nat.one_mul] at this;omega
 have hbnd:a.off+(i * e.n+off)+cells.length≤arr.size:=by omega
 have hin:a.block∈o:=by rw [ho];simp
 have hget:=CS cells (a.off+(i * e.n+off)) arr hbnd
 have hnd:=hn
 rw [ho] at hnd
 obtain ⟨hnb,hnf⟩:=List.nodup_cons.1 hnd
 have hosub:∀ m,m<xs.length→∀ b∈os m,b∈o:=fun m hm b hb=>by rw [ho];exact List.mem_cons_of_mem _ (List.mem_flatMap.2 ⟨m,List.mem_range.2 hm,hb⟩)
 obtain ⟨oi,hrd,hsub,hnod⟩:=hF _ (fun q=>(B9 cells (a.off+(i * e.n+off)) arr)[a.off+(i * e.n+q)]?) _ _ (hel i hi) (fun q hq=>by
  show (B9 cells (a.off+(i * e.n+off)) arr)[a.off+(i * e.n+q)]? = _
  rw [hget]
  by_cases hc:off≤q∧q<off+cells.length
  ·rw [if_pos (by omega),if_pos hc];congr 1;omega
  ·rw [if_neg (by omega),if_neg hc])
 have hnod:=hnod (Bf hnf (List.mem_range.2 hi)) (hk.sub (hosub i hi))
 let os':Nat→List Nat:=fun m=>if m=i then oi else os m
 have hos':∀ m,m<xs.length→∀ b∈os' m,b∈os m∨∃ q,b∈ovs q:=by
  intro m hm b hb
  simp only [os'] at hb
  split at hb
  ·rename_i e1;subst e1;exact hsub b hb
  ·exact .inl hb
 have hnoblk:∀ m,m<xs.length→a.block∉os' m:=by
  intro m hm hb
  rcases hos' m hm _ hb with hb | ⟨q,hb⟩
  ·exact hnb (List.mem_flatMap.2 ⟨m,List.mem_range.2 hm,hb⟩)
  ·exact hk.2.2 q _ hb hin
 refine ⟨hs,arr,T,fr,hh,hbare,hbnd,hin,a.block::(List.range xs.length).flatMap os', ?_, ?_,fun w' hput => ?_⟩
 ·refine List.nodup_cons.2 ⟨fun hb => ?_,FF List.nodup_range (fun m hm => ?_) fun m hm m' hm' hne b hb hb' => ?_⟩
  ·obtain ⟨m,hm,hb⟩:=List.mem_flatMap.1 hb
   exact hnoblk m (List.mem_range.1 hm) hb
  ·simp only [os']
   split
   ·exact hnod
   ·exact Bf hnf hm
  ·have hd:=CQ hnf hm hm' hne
   simp only [os'] at hb hb'
   split at hb
   ·rename_i e1
    split at hb'
    ·rename_i e2;exact hne (e1.trans e2.symm)
    ·subst e1
     rcases hsub b hb with hb | ⟨q,hb⟩
     ·exact hd b hb hb'
     ·exact hk.2.2 q b hb (hosub m' (List.mem_range.1 hm') b hb')
   ·split at hb'
    ·rename_i e2
     subst e2
     rcases hsub b hb' with hb' | ⟨q,hb'⟩
     ·exact hd b hb hb'
     ·exact hk.2.2 q b hb' (hosub m (List.mem_range.1 hm) b hb)
    ·exact hd b hb hb'
 ·intro b hb
  rcases List.mem_cons.1 hb with rfl | hb
  ·exact .inl hin
  ·obtain ⟨m,hm,hb⟩:=List.mem_flatMap.1 hb
   exact (hos' m (List.mem_range.1 hm) b hb).imp (hosub m (List.mem_range.1 hm) b) id
 ·refine ⟨some a,k,by simp,by simpa using hc, ?_⟩
  refine .inr ⟨fun q=>(B9 cells (a.off+(i * e.n+off)) arr)[a.off+q]?,os',⟨hs,_,T,fr,hput.here,by rw [Al];exact hsz,fun _=>by rw [Al];exact hbare,fun _=>rfl⟩,fun m hm => ?_, ?_⟩
  ·have hm':m<xs.length:=by simpa using hm
   rw [FL]
   have hframe:∀ {g x},e.rd 2 w fz g x (os' m)→e.rd 2 w' fz g x (os' m):=fun h=>Ls.AJ e h (fun b hb=>hput.CG b (by
    rintro rfl
    rcases hb with hb | hb
    ·exact hnoblk m hm' hb
    ·exact hz _ hin hb)) fun _ hb=>hb
   by_cases him:i=m
   ·subst him
    rw [if_pos rfl]
    refine hframe ?_
    have:os' i=oi:=by simp [os']
    rw [this]
    exact hrd
   ·rw [if_neg him]
    have:os' m=os m:=by simp only [os'];rw [if_neg (fun e=>him e.symm)]
    refine hframe ?_
    rw [this]
    refine Ls.BE e (hel m hm') fun q hq => ?_
    show (B9 cells (a.off+(i * e.n+off)) arr)[a.off+(m * e.n+q)]? = _
    rw [hget,if_neg]
    intro hc
    rcases Nat.lt_or_gt_of_ne him with h1 | h1
    ·have:(i+1) * e.n≤m * e.n:=Nat.mul_le_mul_right _ h1
     rw [Nat.add_mul,Nat.one_mul] at this;omega
    ·have:(m+1) * e.n≤i * e.n:=Nat.mul_le_mul_right _ h1
     rw [Nat.add_mul,Nat.one_mul] at this;omega
  ·show a.block::_=_
   simp
theorem MN {vs:List Lv} {cells:List Value} {w:World} {fz:Nat→Prop} {ovs:Nat→List Nat} (hl:cells.length=vs.length) (hp:∀ (m:Nat) (lv:Lv),vs[m]? = some lv→∃ u,cells[m]? = some u∧lv.l.rd 2 w fz u lv.x (ovs m)) (hbig:∀ m,vs.length≤m→ovs m=[])
  {i off:Nat} {e:Ls} {a:Addr} {n k:Nat} (hi:i<n) {xs:List e.D} {o:List Nat} {f:List e.D→List e.D} (hm:Gp vs [(i,off)] e=some f) (hr:AD e 2 w fz (.slice (some a) n k) xs o) (hn:o.Nodup) (hz:∀ b∈o,¬ fz b) (hk:GL ovs o) (hkz:∀ m,∀ b∈ovs m,¬ fz b) :
  a.spot=none∧∃ arr T fr,w.heap[a.block]? = some (.cells arr T fr)∧(∀ j,j<arr.size→¬(fr.1≤j∧j<fr.2))∧a.off+(i * e.n+off)+cells.length≤arr.size∧a.block∈o ∧
   ∃ o',o'.Nodup∧(∀ b∈o',b∈o∨∃ m,b∈ovs m)∧∀ w',My w w' a.block (B9 cells (a.off+(i * e.n+off)) arr) T fr→AD e 2 w' fz (.slice (some a) n k) (f xs) o':=by
 simp only [Gp] at hm
 split at hm
 ·rename_i y hy
  injection hm with hm;subst hm
  split at hy
  ·rename_i hc
   simp only [Bool.and_eq_true,beq_iff_eq] at hc
   obtain ⟨rfl,hlen⟩:=hc
   have hup:=Ax e vs y hy
   have:=Kx (F:=fun _=>y) (off:=0) (cells:=cells) (ovs:=ovs) hr hn hz hi hk hkz (by omega) (fun g g' x oo hx hg=>⟨_,Da e (os:=ovs) (fun j lv hj=>by
     rw [hup] at hj
     obtain ⟨u,hu,hru⟩:=hp j lv hj
     have hjl:j<vs.length:=(List.getElem?_eq_some_iff.1 hj).1
     exact ⟨u,by rw [hg j (by omega),if_pos (by omega)];simpa using hu,hru⟩),fun b hb=>by
     obtain ⟨m,_,hb⟩:=List.mem_flatMap.1 hb
     exact .inr ⟨m,hb⟩,fun _ hk=>D4 hk.1 hk.2.1 _⟩)
   simpa only [D6] using this
  ·cases hy
 ·split at hm
  ·rename_i f' hf'
   injection hm with hm;subst hm
   have hp':∀ (m:Nat) (lv:Lv),vs[m]? = some lv→∃ u,cells[m]? = some u∧lv.l.rd 2 w fz u lv.x (ovs (0+m)):=fun m lv hm=>by rw [Nat.zero_add];exact hp m lv hm
   obtain ⟨A,c,hv,hc,_,hsome⟩:=hr.KL
   injection hv with hA hl' hk'
   subst hA;subst hl';subst hk'
   obtain ⟨arr,T,fr,os,_,_,_,_,hel,_,_⟩:=hsome a rfl (.inr (by omega))
   have hfit:=(B0 e off vs cells 0 (g':=fun m=>if off≤m∧m<off+vs.length then cells[m - off]? else _) hf' hl hp' (hel i hi) fun m _=>rfl).1
   exact Kx (F:=f') (off:=off) (cells:=cells) (ovs:=ovs) hr hn hz hi hk hkz (by omega) (fun g g' x oo hx hg=>by
    obtain ⟨_,o',q1,q2,q3⟩:=B0 e off vs cells 0 (g':=g') (ovs:=ovs) hf' hl hp' hx fun m hm=>by rw [hg m hm,hl]
    exact ⟨o',q1,fun b hb=>(q2 b hb).imp id fun ⟨m,_,h⟩=>⟨m,h⟩,q3⟩)
  ·cases hm
section
variable {P:Program} {E:Cq} {s:St} {W:Wd} {v:Nat} {tm:Array Value}
def Ib (W:Wd) (w':World) (r j:Nat) (o':List Nat) (us:List (Nat×Nat)):Wd :=
 { W with w:=w',om:=fun k=>match k with
   | .lf a b=>if a=r∧b=j then o' else if (a,b)∈us then [] else W.om (.lf a b)
   | k=>W.om k }
theorem AW.Lj (h:AW E s tm W) (hv:Ae s v) {r j AA gen:Nat} {t:TypeId} {e:Ls} {xs xs':List e.D} (hl:s.leaf r j = .arr AA gen t e xs 2) {u:Value} (hcv:W.cv r j=some u) {us:List (Nat×Nat)} (hus:(r,j)∉us)
  {w':World} {AX:Nat} (hblk:AX∈W.om (.lf r j)) (hw:∀ b,b≠AX→w'.heap[b]? = W.w.heap[b]?) (hsz:w'.heap.size=W.w.heap.size) (hrest:w'.os=W.w.os∧w'.tape=W.w.tape∧w'.output=W.w.output)
  {o':List Nat} (hnd:o'.Nodup) (hfrom:∀ b∈o',b∈W.om (.lf r j)∨∃ a c,(a,c)∈us∧b∈W.om (.lf a c)) (hrd:AD e 2 w' W.fz u xs' o') :
  AW E (s.app (gone us++[.leaf r j (.arr AA v t e xs' 2)])) tm (Ib W w' r j o' us):=by
 obtain ⟨hr,hj⟩:=Gz hl
 rw [BD]
 show AW E ((s.app (gone us)).AG (.leaf r j (.arr AA v t e xs' 2))) tm _
 obtain ⟨hs1,hl1⟩:=Dk s us
 have hs2:=BH (s.app (gone us)) r j (.arr AA v t e xs' 2)
 have hl2:=EU (s.app (gone us)) r j (.arr AA v t e xs' 2)
 generalize (s.app (gone us)).AG (.leaf r j (.arr AA v t e xs' 2))=s' at hs2 hl2
 have hsame:Jb s s':=⟨hs2.sl.trans hs1.sl,hs2.len.trans hs1.len,fun x=>⟨(hs2.box x).1.trans (hs1.box x).1,(hs2.box x).2.1.trans (hs1.box x).2.1,(hs2.box x).2.2.trans (hs1.box x).2.2⟩⟩
 have hleaf:∀ a b,s'.leaf a b=if a=r∧b=j then .arr AA v t e xs' 2 else if (a,b)∈us then .bad else s.leaf a b:=by
  intro a b
  rw [hl2,hl1]
  by_cases hc:a=r∧b=j
  ·obtain ⟨rfl,rfl⟩:=hc
   rw [if_pos ⟨rfl,rfl,by rw [hs1.len];exact hr,by rw [(hs1.box a).2.2];exact hj⟩,if_pos ⟨rfl,rfl⟩]
  ·rw [if_neg (fun hh=>hc ⟨hh.1.symm,hh.2.1.symm⟩),if_neg hc]
 have hown:∀ k,∀ b∈W.om k,k ≠ .lf r j→b≠AX:=fun k b hb hk e=>h.sep.A6 k _ hk b hb (e ▸ hblk)
 have hfz:∀ b,W.fz b→b≠AX:=fun b hb e=>(h.sep.own _ _ hblk).1 (e ▸ hb)
 refine h.MO (W':=Ib W w' r j o' us) hv hsame (fun a b=>(a=r∧b=j)∨(a,b)∈us) (fun _=>False) (fun a b hc => ?_) (fun _ _ _=>rfl) (fun _ _ hh=>hh.elim) (fun _=>rfl) (fun a b hc => ?_) (fun _=>rfl) (fun b hb => ?_) (fun b hb=>hb) ?_ ?_ (fun _ a b hc => ?_) (fun _ hh=>hh.elim)
 ·rw [hleaf,if_neg (fun hh=>hc (.inl hh)),if_neg (fun hh=>hc (.inr hh))]
 ·show (if a=r∧b=j then o' else if (a,b)∈us then [] else W.om (.lf a b))=_
  rw [if_neg (fun hh=>hc (.inl hh)),if_neg (fun hh=>hc (.inr hh))]
 ·refine hw b ?_
  rcases hb with hb | ⟨r',_,hb⟩ | ⟨r',j',hc,hb⟩
  ·exact hfz b hb
  ·exact hown _ b hb (by simp)
  ·exact hown _ b hb (by intro e;injection e with e1 e2;exact hc (.inl ⟨e1,e2⟩))
 ·intro a b ver' gen' t' e' ys d' hc hl' hne
  rw [hleaf] at hl'
  split at hl'
  ·rename_i hh
   obtain ⟨rfl,rfl⟩:=hh
   injection hl' with e1 e2 e3 e4 e5 e6
   subst e1;subst e2;subst e3;subst e4;subst e6
   exact ⟨id,gen,t,xs,2,hl,fun hg=>absurd rfl hg⟩
  ·rename_i hh
   rw [if_pos (hc.resolve_left hh)] at hl'
   cases hl'
 ·refine h.sep.H9 (W':=Ib W w' r j o' us) (fun k=>match k with
   | .lf a b=>(a=r∧b=j)∨(a,b)∈us
   | _=>False) rfl (by show _≤w'.heap.size;omega) (fun b h1 h2=>hw b fun e => ?_) hrest (fun k hk => ?_) (fun k hk => ?_) (fun k k' hk hk' hne b hb hb' => ?_) fun k hk b hb => ?_
  ·have:=(h.sep.own _ _ hblk).2.2
   rw [← e] at this
   rcases this with h3 | h3
   ·omega
   ·exact h2 h3
  ·cases k with
   | lf a b =>
    show (if a=r∧b=j then o' else if (a,b)∈us then [] else W.om (.lf a b))=_
    rw [if_neg (fun hh=>hk (.inl hh)),if_neg (fun hh=>hk (.inr hh))]
   | _=>rfl
  ·cases k with
   | lf a b =>
    show (if a=r∧b=j then o' else if (a,b)∈us then [] else W.om (.lf a b)).Nodup
    split
    ·exact hnd
    ·split
     ·exact List.nodup_nil
     ·exact h.sep.nodup _
   | _=>exact hk.elim
  ·have one:∀ k:Key,(match k with | .lf a b=>(a=r∧b=j)∨(a,b)∈us | _=>False)→∀ b∈(Ib W w' r j o' us).om k,k = .lf r j:=by
    intro k hk b hb
    cases k with
    | lf a c =>
     have hb:b∈(if a=r∧c=j then o' else if (a,c)∈us then [] else W.om (.lf a c)):=hb
     split at hb
     ·rename_i hh;obtain ⟨rfl,rfl⟩:=hh;rfl
     ·rename_i hh
      rw [if_pos (hk.resolve_left hh)] at hb
      cases hb
    | _=>exact hk.elim
   exact hne ((one k hk b hb).trans (one k' hk' b hb').symm)
  ·cases k with
   | lf a c =>
    have hb:b∈(if a=r∧c=j then o' else if (a,c)∈us then [] else W.om (.lf a c)):=hb
    left
    split at hb
    ·rcases hfrom b hb with hb | ⟨x,y,hx,hb⟩
     ·exact ⟨.lf r j, .inl ⟨rfl,rfl⟩,hb⟩
     ·exact ⟨.lf x y, .inr hx,hb⟩
    ·rename_i hh
     rw [if_pos (hk.resolve_left hh)] at hb
     cases hb
   | _=>exact hk.elim
 ·show Aa s' (Ib W w' r j o' us) (s'.leaf a b) (W.cv a b) (if a=r∧b=j then o' else if (a,b)∈us then [] else W.om (.lf a b))
  rw [hleaf]
  by_cases hh:a=r∧b=j
  ·rw [if_pos hh,if_pos hh]
   obtain ⟨rfl,rfl⟩:=hh
   exact ⟨u,hcv,hrd⟩
  ·rw [if_neg hh,if_neg hh,if_pos (hc.resolve_left hh),if_pos (hc.resolve_left hh)]
   exact ⟨rfl,fun _ _=>trivial⟩
end
end Go.Ev
namespace Go.Ev
set_option linter.unusedVariables false
set_option linter.unusedSimpArgs false
section
variable {P:Program}
theorem Jq {t t0 ty:TypeId} {e:Ls} (hund:P.underlying t=some (.slice t0)) (hel:Lr P t0 e) (hf:Bq e=true) {w:World} {fz fz2:Nat→Prop} (hfz:∀ b,fz b→b<w.heap.size) {ux uy:Value} {xs ys:List e.D} {o1:List Nat}
  (hx:AD e 2 w fz ux xs o1) (hy:AD e 0 w fz2 uy ys []) (hlen:xs.length+ys.length≤DZ) :
  ∃ u w',(Builtin.append_ #[t,t] ty #[ux,uy]).run P w = .ok u w'∧(w'.os=w.os∧w'.tape=w.tape∧w'.output=w.output)∧w.heap.size≤w'.heap.size∧(∀ b,b<w.heap.size→b∉o1→w'.heap[b]? = w.heap[b]?) ∧
   AD e 2 w' fz ux xs o1∧∃ o',AD e 2 w' fz u (xs++ys) o'∧∀ b∈o',b∈o1∨(w.heap.size≤b∧b<w'.heap.size):=by
 obtain ⟨i,hi,hsz,hby,z,hz,hzc⟩:=hel.info
 have hpos:=hel.pos
 have hlen':xs.length+ys.length≤68719476736:=hlen
 have hdep:=hx.dep
 have hmore:∃ A c g,uy = .slice A ys.length c∧(A=none→ys=[])∧(∀ ad,A=some ad→ys≠[]→ad.spot=none∧∀ k,w.cell? (at_ ad k)=g k)∧B3 e 2 w fz g ys fun _=>[]:=by
  obtain ⟨A,c,hv,hc,hn,hsome⟩:=hy.KL
  cases A with
  | none =>
   have:ys=[]:=List.eq_nil_of_length_eq_zero (by have:=(hn rfl).1;omega)
   subst this
   exact ⟨none,c,fun _=>none,hv,fun _=>rfl,(fun ad had _=>by cases had),(fun i hi=>by simp at hi)⟩
  | some ad =>
   by_cases hc0:c=0
   ·have:ys=[]:=List.eq_nil_of_length_eq_zero (by omega)
    subst this
    exact ⟨some ad,c,fun _=>none,hv,fun _=>rfl,(fun ad had hne=>absurd rfl hne),(fun i hi=>by simp at hi)⟩
   obtain ⟨arr,T,fr,os,hs,hh,_,_,hel,_,_⟩:=hsome ad rfl (.inl (by omega))
   refine ⟨some ad,c,_,hv,(fun hA=>by cases hA), ?_,B3.flat hf hel 2 w fz⟩
   intro ad' had _
   injection had with had;subst had
   exact ⟨hs,fun k=>by simp [World.cell?,at_,hh]⟩
 obtain ⟨A1,c1,hux,hc1,hA1,hs1⟩:=hx.KL
 obtain ⟨A2,c2,g2,huy,hA2,hs2,hel2⟩:=hmore
 have hnews:∃ news:List Value,news.length=ys.length * e.n∧(∀ k,k<ys.length * e.n→news[k]? = g2 k)∧(∀ v∈news,v.oneCell'=true) ∧
   (Builtin.firstCells i.size ys.length (.slice A2 ys.length c2)).run P w = .ok news.toArray w∧∀ ad,A2=some ad→∀ j u,news[j]? = some u→w.cell? (ad.add j)=some u:=by
  have hcell:=hel2.cell
  have hadd:∀ ad,A2=some ad→∀ j u,(BV g2 (ys.length * e.n))[j]? = some u→w.cell? (ad.add j)=some u:=by
   intro ad had j u hj
   have hlt:j<ys.length * e.n:=by have:=(List.getElem?_eq_some_iff.1 hj).1;rwa [AF] at this
   rw [Bh hcell j hlt] at hj
   obtain ⟨hs,hg⟩:=hs2 ad had (fun h0=>by rw [h0] at hlt;simp at hlt)
   rw [EH hs,hg,hj]
  refine ⟨BV g2 (ys.length * e.n),AF _ _,Bh hcell,FE hcell, ?_,hadd⟩
  cases hA:A2 with
  | none =>
   have:=hA2 hA;subst this
   rw [run_firstCells_none]
   simp [BV]
  | some ad=>exact run_firstCells_some w i.size ys.length ad ys.length c2 _ (by rw [AF,hsz]) (hadd ad hA)
 obtain ⟨news,hnl,hng,hn1',hnf,hncell⟩:=hnews
 have fresh:∀ (arr:Array Value) (cap:Nat),xs.length+ys.length≤cap→cap * e.n≤arr.size→B3 e 2 w fz (fun k=>arr[k]?) xs (fun _=>[])→(∀ k,k<ys.length * e.n→arr[xs.length * e.n+k]? = g2 k) →
   AD e 2 (w.drew.alloc (.cells arr t0)) fz ux xs o1∧(∀ b,b<w.heap.size→b∉o1→(w.drew.alloc (.cells arr t0)).heap[b]? = w.heap[b]?)∧w.heap.size≤(w.drew.alloc (.cells arr t0)).heap.size ∧
   ∃ o',AD e 2 (w.drew.alloc (.cells arr t0)) fz (.slice (some ⟨w.heap.size,0,none⟩) (xs.length+ys.length) cap) (xs++ys) o'∧∀ b∈o',b∈o1∨(w.heap.size≤b∧b<(w.drew.alloc (.cells arr t0)).heap.size):=by
  intro arr cap hcap hsize hx1 hy1
  have hold:∀ b,b<w.heap.size→(w.drew.alloc (.cells arr t0)).heap[b]? = w.heap[b]? := fun b hb=>A9 w.drew _ hb
  refine ⟨hx.frame (fun b hb=>hold b (hb.elim (hdep b) (hfz b))) fun _ hb=>hb,fun b hb _=>hold b hb,by rw [Ac];show w.heap.size≤w.heap.size+1;omega, ?_⟩
  have hels:B3 e 2 (w.drew.alloc (.cells arr t0)) fz (fun k=>arr[0+k]?) (xs++ys) fun i=>if i<xs.length then [] else []:=by
   refine B3.append (os:=fun _=>[]) (os':=fun _=>[]) ?_ ?_
   ·exact B3.congr (g:=fun k=>arr[k]?) (hx1.flat hf 2 _ fz) fun k _=>by simp only [Nat.zero_add]
   ·exact B3.congr (g:=g2) (hel2.flat hf 2 _ fz) fun k hk=>by simp only [Nat.zero_add];exact hy1 k hk
  have hrow:=Gc (w:=w.drew.alloc (.cells arr t0)) (ad:=⟨w.heap.size,0,none⟩) (c:=cap) (fr:=(0,0)) (T:=t0) (heap_alloc_new w.drew _) rfl (by intro j _;simp) (by simpa using hsize) (by simpa using hcap) hels
  rw [List.length_append] at hrow
  refine ⟨_,hrow,fun b hb => ?_⟩
  rcases List.mem_cons.1 hb with rfl | hb
  ·exact .inr ⟨Nat.le_refl _,by rw [Ac];exact Nat.lt_succ_self _⟩
  ·obtain ⟨i,_,hb⟩:=List.mem_flatMap.1 hb
   simp at hb
 subst hux;subst huy
 cases A1 with
 | none =>
  obtain ⟨rfl,rfl⟩:=hA1 rfl
  have hx0:xs=[]:=List.eq_nil_of_length_eq_zero (by omega)
  subst hx0
  cases ys with
  | nil=>exact ⟨_,_,Cn t ty t0 i hund hi 0 A2 c2 news hnf,⟨rfl,rfl,rfl⟩,Nat.le_refl _,fun _ _ _=>rfl,hx,[],Bz,fun b hb=>by cases hb⟩
  | cons y ys =>
   cases A2 with
   | none=>have:=hA2 rfl;cases this
   | some ad2 =>
    have hge:=grownCap_ge w (y::ys).length 0 t0
    obtain ⟨f1,f2,f3,o',f4,f5⟩:=fresh (news.toArray++Builtin.zeroCells z.cells (grownCap w (y::ys).length 0 t0 - (y::ys).length)) (grownCap w (y::ys).length 0 t0) (by simpa using hge)
     (by
      have:(y::ys).length * e.n+(grownCap w (y::ys).length 0 t0 - (y::ys).length) * e.n=grownCap w (y::ys).length 0 t0 * e.n:=by rw [← Nat.add_mul];congr 1;omega
      simp only [Array.size_append,List.size_toArray,hnl,Builtin.zeroCells,Array.size_map,Array.size_range,hzc,List.length_map,BB]
      omega) (fun i hi=>by simp at hi)
     (by
      intro k hk
      rw [← hng k hk]
      simp only [List.length_nil,Nat.zero_mul,Nat.zero_add]
      rw [Array.getElem?_append_left (by simpa [hnl] using hk)]
      simp)
    refine ⟨_,_,run_append_nil w t ty t0 i z hund hi hz ad2 (y::ys).length c2 news (by rw [hnl,hsz]) (hncell ad2 rfl) (by simp) (by simp at hlen' ⊢;omega) (Nat.le_trans (Nat.mul_le_mul (show _≤68719476736 by simp at hlen' ⊢;omega) hby) (by decide)),⟨rfl,rfl,rfl⟩,f3,f2,f1,o', ?_,f5⟩
    simpa using f4
 | some ad1 =>
  obtain ⟨arr,T,fr,os1,hs,hh,hfit,hbare0,hx1,ho10,_⟩:=hs1 ad1 rfl (.inr (by decide))
  have ho1:o1=ad1.block::(List.range xs.length).flatMap os1:=ho10 (by decide)
  have hbare:=hbare0 (by decide)
  clear ho10 hbare0 hs1
  obtain ⟨b1,off1,sp1⟩:=ad1
  dsimp only at hs hh hfit hx1 ho1
  subst hs
  have hb1:b1∈o1:=by rw [ho1];simp
  by_cases hcap:xs.length+ys.length≤c1
  ·
   have hmul:(xs.length+ys.length) * e.n≤c1 * e.n:=Nat.mul_le_mul_right _ hcap
   rw [Nat.add_mul] at hmul
   obtain ⟨w',hst,hput⟩:=DR (P:=P) (o:=off1+xs.length * e.n) news hh hbare (by rw [hnl];omega) hn1'
   have hadd:(⟨b1,off1,none⟩:Addr).add (xs.length * i.size)=⟨b1,off1+xs.length * e.n,none⟩:=by rw [hsz];exact B4 _ _ _
   have hget:=CS news (off1+xs.length * e.n) arr (by rw [hnl];omega)
   have hpre:B3 e 2 w' fz (fun k=>(B9 news (off1+xs.length * e.n) arr)[off1+k]?) xs os1:=by
    intro i hi
    refine Ls.BE e (Ls.AZ e hf (hx1 i hi) (d':=2) (w':=w') (fz':=fz)).1 fun j hj => ?_
    have hlt:=KY hi hj
    show (B9 news (off1+xs.length * e.n) arr)[off1+(i * e.n+j)]? = _
    rw [hget,if_neg (by omega)]
   have hels:B3 e 2 w' fz (fun k=>(B9 news (off1+xs.length * e.n) arr)[off1+k]?) (xs++ys) fun i=>if i<xs.length then os1 i else []:=by
    refine B3.append (os':=fun _=>[]) hpre ?_
    refine B3.congr (g:=g2) (hel2.flat hf 2 w' fz) fun k hk => ?_
    rw [← hng k hk,hget,if_pos (by rw [hnl];omega)]
    congr 1;omega
   have hrow:=Gc (w:=w') (ad:=⟨b1,off1,none⟩) (c:=c1) hput.here rfl (by rw [Al];exact hbare) (by rw [Al];exact hfit) (by simpa using hcap) hels
   have hrow0:=Gc (w:=w') (ad:=⟨b1,off1,none⟩) (c:=c1) hput.here rfl (by rw [Al];exact hbare) (by rw [Al];exact hfit) hc1 hpre
   rw [List.length_append] at hrow
   refine ⟨_,_,DA t ty t0 i hund hi ⟨b1,off1,none⟩ xs.length c1 A2 ys.length c2 news hnf hcap (by rw [hadd];exact hst),hput.rest,by rw [hput.size];exact Nat.le_refl _,fun b hb hn=>hput.CG b fun e=>hn (e ▸ hb1),by rw [ho1];exact hrow0,_,hrow,fun b hb => ?_⟩
   left
   rcases List.mem_cons.1 hb with rfl | hb
   ·exact hb1
   ·obtain ⟨i,hi,hb⟩:=List.mem_flatMap.1 hb
    split at hb
    ·rename_i hlt
     rw [ho1];exact List.mem_cons_of_mem _ (List.mem_flatMap.2 ⟨i,List.mem_range.2 hlt,hb⟩)
    ·cases hb
  ·
   cases A2 with
   | none=>have:=hA2 rfl;subst this;exact absurd hc1 (by simpa using hcap)
   | some ad2 =>
    have hcell1:=hx1.cell
    have hg1:=Bh hcell1
    have holds:∀ j u,(BV (fun k=>arr[off1+k]?) (xs.length * e.n))[j]? = some u→w.cell? ((⟨b1,off1,none⟩:Addr).add j)=some u:=by
     intro j u hj
     have hlt:j<xs.length * e.n:=by have:=(List.getElem?_eq_some_iff.1 hj).1;rwa [AF] at this
     rw [hg1 j hlt] at hj
     rw [B4];simp only [World.cell?,hh];simpa using hj
    have hge:=grownCap_ge w (xs.length+ys.length) c1 t0
    obtain ⟨f1,f2,f3,o',f4,f5⟩:=fresh (((BV (fun k=>arr[off1+k]?) (xs.length * e.n)).toArray++news.toArray)++Builtin.zeroCells z.cells (grownCap w (xs.length+ys.length) c1 t0 - (xs.length+ys.length))) (grownCap w (xs.length+ys.length) c1 t0) hge
     (by
      have:xs.length * e.n+ys.length * e.n+(grownCap w (xs.length+ys.length) c1 t0 - (xs.length+ys.length)) * e.n=grownCap w (xs.length+ys.length) c1 t0 * e.n:=by
       rw [← Nat.add_mul, ← Nat.add_mul];congr 1;omega
      simp only [Array.size_append,List.size_toArray,hnl,AF,Builtin.zeroCells,Array.size_map,Array.size_range,hzc,List.length_map,BB]
      omega)
     (B3.congr (hx1.flat hf 2 w fz) fun k hk=>by
      rw [← hg1 k hk]
      rw [Array.getElem?_append_left (by simp [AF];omega),Array.getElem?_append_left (by simp [AF];omega)]
      simp)
     (by
      intro k hk
      rw [← hng k hk]
      rw [Array.getElem?_append_left (by simp [AF,hnl];omega),Array.getElem?_append_right (by simp [AF])]
      simp [AF])
    exact ⟨_,_,run_append_grow w t ty t0 i z hund hi hz ⟨b1,off1,none⟩ xs.length c1 (BV (fun k=>arr[off1+k]?) (xs.length * e.n)) (by rw [AF,hsz]) holds ad2 ys.length c2 news (by rw [hnl,hsz]) (hncell ad2 rfl) (by omega) (by omega)
     (growslice_fits (by omega) (Nat.le_trans (Nat.mul_le_mul hlen' hby) (by decide))),⟨rfl,rfl,rfl⟩,f3,f2,f1,o',f4,f5⟩
theorem AD.half {e:Ls} {w:World} {fz:Nat→Prop} {v:Value} {xs:List e.D} {o:List Nat} (h:AD e 2 w fz v xs o) (hn:o.Nodup) :
  ∃ o1,(∀ b∈o1,b∈o∧∃ a n c,v = .slice (some a) n c∧b=a.block)∧o1.Nodup∧∀ fz':Nat→Prop,(∀ b,fz b→fz' b)→(∀ b∈o,b∉o1→fz' b)→AD e 1 w fz' v xs o1:=by
 obtain ⟨A,c,hv,hc,h⟩:=h
 cases A with
 | none=>exact ⟨[],(fun b hb=>by cases hb),List.nodup_nil,fun _ _ _=>⟨none,c,hv,hc,h.1,rfl⟩⟩
 | some a =>
  rcases h with ⟨h,_⟩ | ⟨g,os,hrow,hel,ho⟩
  ·cases h
  have ho:o=a.block::(List.range xs.length).flatMap os:=ho
  refine ⟨[a.block],fun b hb=>⟨by rw [List.mem_singleton.1 hb,ho];exact List.mem_cons_self,a,_,_,hv,List.mem_singleton.1 hb⟩,List.nodup_cons.2 ⟨by simp,List.nodup_nil⟩,fun fz' hz hf => ?_⟩
  obtain ⟨hs,arr,T,fr,hh,hnn,hb,hg⟩:=hrow
  refine ⟨some a,c,hv,hc, .inr ⟨g,fun _=>[],⟨hs,arr,T,fr,hh,hnn,fun _=>hb rfl,hg⟩,fun i hi => ?_, ?_⟩⟩
  ·refine Ls.Cc e (hel i hi) fun b hb => ?_
   rcases hb with hb | hb
   ·exact hz b hb
   ·have hin:b∈(List.range xs.length).flatMap os:=List.mem_flatMap.2 ⟨i,List.mem_range.2 hi,hb⟩
    refine hf b (by rw [ho];exact List.mem_cons_of_mem _ hin) fun hb1 => ?_
    rw [List.mem_singleton.1 hb1] at hin
    rw [ho] at hn
    exact (List.nodup_cons.1 hn).1 hin
  ·show _=_
   simp [DJ]
theorem Hx {e f:Ls} {w:World} {fz:Nat→Prop} {a:Addr} {len c i off:Nat} {xs:List e.D} {o:List Nat} {t:TypeId} {u:Value} {ys:List f.D} {po:List Nat} (h:AD e 2 w fz (.slice (some a) len c) xs o) (hn:o.Nodup) (hi:i<len)
  (hk:e.kinds[off]? = some (.sl t f)) (hc:w.cell? (at_ a (i * e.n+off))=some u) (hr:AD f 2 w fz u ys po):a.block∉po:=by
 obtain ⟨A,c',hv,_,h⟩:=h
 injection hv with hA hl _
 subst hA;subst hl
 rcases h with ⟨h,_⟩ | ⟨g,os,hrow,hel,ho⟩
 ·cases h
 have ho:o=a.block::(List.range xs.length).flatMap os:=ho
 obtain ⟨h2,zs,o',hg,hrd,hsub⟩:=Ls.G4 e off (hel i hi) hk
 have hu:h2=u:=by
  have:=hrow.cell (i * e.n+off)
  rw [this,hg] at hc
  exact Option.some.inj hc
 subst hu
 obtain ⟨_,e2⟩:=hr.uniq hrd
 subst e2
 intro hin
 rw [ho] at hn
 exact (List.nodup_cons.1 hn).1 (List.mem_flatMap.2 ⟨i,List.mem_range.2 hi,hsub _ hin⟩)
theorem J3:∀ (e:Ls) (j:Nat) {G:(t:TypeId)→(f:Ls)→Option (List f.D→List f.D)} {h:e.D→e.D},CI e j G=some h→(∀ t f g,G t f=some g→∀ l,g l=l)→∀ x,h x=x
 | .nil,j,G,h,hm,hG,x=>by simp [CI] at hm
 | .one l,0,G,h,hm,hG,x=>by
  cases l with
  | sl t f=>exact hG t f h hm x
  | _=>simp [CI] at hm
 | .one l,j+1,G,h,hm,hG,x=>by simp [CI] at hm
 | .cons l ls,0,G,h,hm,hG,x=>by
  simp only [CI] at hm
  split at hm
  ·split at hm
   ·rename_i hh
    injection hm with hm;subst hm
    exact Prod.ext (hG _ _ _ hh x.1) rfl
   ·cases hm
  ·cases hm
 | .cons l ls,j+1,G,h,hm,hG,x=>by
  simp only [CI] at hm
  split at hm
  ·rename_i hh
   injection hm with hm;subst hm
   exact Prod.ext rfl (J3 ls j hh hG x.2)
  ·cases hm
theorem Hv:∀ (e:Ls) (j:Nat) {G:(t:TypeId)→(f:Ls)→Option (List f.D→List f.D)} {t:TypeId} {f:Ls} {g:List f.D→List f.D},e.kinds[j]? = some (.sl t f)→G t f=some g→∃ h,CI e j G=some h
 | .nil,j,G,t,f,g,hk,hg=>by simp [Ls.kinds] at hk
 | .one l,0,G,t,f,g,hk,hg=>by simp [Ls.kinds] at hk;subst hk;exact ⟨g,hg⟩
 | .one l,j+1,G,t,f,g,hk,hg=>by simp [Ls.kinds] at hk
 | .cons l ls,0,G,t,f,g,hk,hg=>by simp [Ls.kinds] at hk;subst hk;exact ⟨_,by simp only [CI,hg];rfl⟩
 | .cons l ls,j+1,G,t,f,g,hk,hg=>by
  obtain ⟨h,hh⟩:=Hv ls j (by simpa [Ls.kinds] using hk) hg
  exact ⟨_,by simp only [CI,hh];rfl⟩
end
section
variable {P:Program}
mutual
theorem H8:∀ (l:L) {w:World} {fz:Nat→Prop} {v:Value} {x:l.D},l.rd 0 w fz v x []→l.rd 0 w (fun b=>fz b∧b<w.heap.size) v x []
 | .int _,_,_,_,_,h=>h
 | .bool,_,_,_,_,h=>h
 | .str,_,_,_,_,h=>h
 | .sl t e,w,fz,v,x,h=>by
  rw [L.Ix] at h ⊢
  obtain ⟨A,c,hv,hc,h⟩:=h
  refine ⟨A,c,hv,hc, ?_⟩
  cases A with
  | none=>exact h
  | some a =>
   rcases h with h | ⟨g,os,hrow,hel,ho⟩
   ·exact .inl h
   ·have ho:fz a.block∧[]=[]∧∀ i,i<List.length (α:=e.D) x→os i=[]:=ho
    refine .inr ⟨g,os,hrow,fun i hi => ?_,⟨ho.1,hrow.lt⟩,ho.2⟩
    have h1:=hel i hi
    rw [ho.2.2 i hi] at h1 ⊢
    exact GH e h1
theorem GH:∀ (ls:Ls) {w:World} {fz:Nat→Prop} {g:Nat→Option Value} {x:ls.D},ls.rd 0 w fz g x []→ls.rd 0 w (fun b=>fz b∧b<w.heap.size) g x []
 | .nil,_,_,_,_,_=>by simp only [Ls.rd]
 | .one l,w,fz,g,x,h=>by
  simp only [Ls.rd] at h ⊢
  obtain ⟨v,hg,h⟩:=h
  exact ⟨v,hg,H8 l h⟩
 | .cons l ls,w,fz,g,x,h=>by
  simp only [Ls.rd] at h ⊢
  obtain ⟨v,o1,o2,hg,h1,h2,ho⟩:=h
  obtain ⟨e1,e2⟩:=List.append_eq_nil_iff.1 ho.symm
  subst e1;subst e2
  exact ⟨v,[],[],hg,H8 l h1,GH ls h2,rfl⟩
end
theorem AD.Nu {e:Ls} {w w':World} {fz fz':Nat→Prop} {v:Value} {xs:List e.D} {o:List Nat} (h:AD e 1 w fz v xs o) (hold:∀ b,b<w.heap.size→w'.heap[b]? = w.heap[b]?) (ho:∀ b∈o,b<w.heap.size) (hz:∀ b,fz b→fz' b):AD e 1 w' fz' v xs o:=by
 obtain ⟨A,c,hv,hc,h⟩:=h
 refine ⟨A,c,hv,hc, ?_⟩
 cases A with
 | none=>exact h
 | some a =>
  rcases h with h | ⟨g,os,hrow,hel,h2⟩
  ·exact .inl h
  refine .inr ⟨g,fun _=>[],hrow.frame (hold _ hrow.lt),fun i hi => ?_, ?_⟩
  ·have h1:e.rd 0 w fz (fun j=>g (i * e.n+j)) xs[i] (os i):=hel i hi
   rw [Ls.Bn e h1] at h1
   exact Ls.AJ e (GH e h1) (fun b hb=>hold b (hb.elim (fun hb=>by cases hb) fun hb=>hb.2)) fun b hb=>hz b hb.1
  ·have h2:o=a.block::(List.range xs.length).flatMap os:=h2
   have:(List.range xs.length).flatMap os=[]:=by
    rw [List.flatMap_eq_nil_iff]
    intro i hi
    exact Ls.Bn e (hel i (List.mem_range.1 hi))
   show o=_
   rw [h2,this];simp [DJ]
theorem MM {e:Ls} {w:World} {fz:Nat→Prop} {xs:List e.D} {ad:Addr} {arr:Array Value} {T:TypeId} {fr:Nat×Nat} {c:Nat} (hh:w.heap[ad.block]? = some (.cells arr T fr)) (hs:ad.spot=none) (hb:∀ j,j<arr.size→¬(fr.1≤j∧j<fr.2))
  (hc:ad.off+c * e.n≤arr.size) (hl:xs.length≤c) (hel:B3 e 0 w fz (fun k=>arr[ad.off+k]?) xs fun _=>[]) :
  AD e 1 w fz (.slice (some ad) xs.length c) xs [ad.block] :=
 ⟨some ad,c,rfl,hl, .inr ⟨fun k=>arr[ad.off+k]?,fun _=>[],⟨hs,arr,T,fr,hh,hc,fun _=>hb,fun j=>rfl⟩,hel,by show _=_;simp [DJ]⟩⟩
theorem N0 {e:Ls} {w:World} {fz:Nat→Prop} {xs:List e.D} {ad:Addr} {arr:Array Value} {T:TypeId} {fr:Nat×Nat} {c:Nat} (hh:w.heap[ad.block]? = some (.cells arr T fr)) (hs:ad.spot=none) (hz:fz ad.block)
  (hc:ad.off+c * e.n≤arr.size) (hl:xs.length≤c) (hel:B3 e 0 w fz (fun k=>arr[ad.off+k]?) xs fun _=>[]) :
  AD e 0 w fz (.slice (some ad) xs.length c) xs [] :=
 ⟨some ad,c,rfl,hl, .inr ⟨fun k=>arr[ad.off+k]?,fun _=>[],⟨hs,arr,T,fr,hh,hc,fun h=>by simp at h,fun j=>rfl⟩,hel,hz,rfl,fun _ _=>rfl⟩⟩
theorem B3.zero {e:Ls} {w:World} {fz:Nat→Prop} {g:Nat→Option Value} {xs:List e.D} {os:Nat→List Nat} (h:B3 e 0 w fz g xs os):B3 e 0 w fz g xs fun _=>[]:=fun i hi=>by
 have:=h i hi
 rw [Ls.Bn e this] at this
 exact this
theorem Jw {t t0 ty:TypeId} {e:Ls} (hund:P.underlying t=some (.slice t0)) (hel:Lr P t0 e) {w:World} {fz:Nat→Prop} (hfz:∀ b,fz b→b<w.heap.size) {ux uy:Value} {xs ys:List e.D} {o1:List Nat}
  (hx:AD e 1 w fz ux xs o1) (hown:∀ b∈o1,¬ fz b) (hy:AD e 0 w fz uy ys []) (hlen:xs.length+ys.length≤DZ) :
  ∃ u w',(Builtin.append_ #[t,t] ty #[ux,uy]).run P w = .ok u w'∧(w'.os=w.os∧w'.tape=w.tape∧w'.output=w.output)∧w.heap.size≤w'.heap.size∧(∀ b,b<w.heap.size→b∉o1→w'.heap[b]? = w.heap[b]?) ∧
   ∃ o',AD e 1 w' fz u (xs++ys) o'∧o'.Nodup∧∀ b∈o',b∈o1∨(w.heap.size≤b∧b<w'.heap.size):=by
 obtain ⟨i,hi,hsz,hby,z,hz,hzc⟩:=hel.info
 have hpos:=hel.pos
 have hlen':xs.length+ys.length≤68719476736:=hlen
 have hdep:=hx.dep
 have tr:∀ {w':World} {g:Nat→Option Value} {zs:List e.D},(∀ b,fz b→w'.heap[b]? = w.heap[b]?)→B3 e 0 w fz g zs (fun _=>[])→B3 e 0 w' fz g zs fun _=>[]:=fun hb h =>
  h.frame (fun b hb'=>hb'.elim (fun ⟨_,_,h⟩=>by cases h) (hb b)) fun _ hb=>hb
 have hmore:∃ A c g,uy = .slice A ys.length c∧(A=none→ys=[])∧(∀ ad,A=some ad→ys≠[]→ad.spot=none∧∀ k,w.cell? (at_ ad k)=g k)∧B3 e 0 w fz g ys fun _=>[]:=by
  obtain ⟨A,c,hv,hc,hn,hsome⟩:=hy.KL
  cases A with
  | none =>
   have:ys=[]:=List.eq_nil_of_length_eq_zero (by have:=(hn rfl).1;omega)
   subst this
   exact ⟨none,c,fun _=>none,hv,fun _=>rfl,(fun ad had _=>by cases had),(fun i hi=>by simp at hi)⟩
  | some ad =>
   by_cases hc0:c=0
   ·have:ys=[]:=List.eq_nil_of_length_eq_zero (by omega)
    subst this
    exact ⟨some ad,c,fun _=>none,hv,fun _=>rfl,(fun ad had hne=>absurd rfl hne),(fun i hi=>by simp at hi)⟩
   obtain ⟨arr,T,fr,os,hs,hh,_,_,hel,_,_⟩:=hsome ad rfl (.inl (by omega))
   refine ⟨some ad,c,_,hv,(fun hA=>by cases hA), ?_,B3.zero hel⟩
   intro ad' had _
   injection had with had;subst had
   exact ⟨hs,fun k=>by simp [World.cell?,at_,hh]⟩
 obtain ⟨A1,c1,hux,hc1,hA1,hs1⟩:=hx.KL
 obtain ⟨A2,c2,g2,huy,hA2,hs2,hel2⟩:=hmore
 have hnews:∃ news:List Value,news.length=ys.length * e.n∧(∀ k,k<ys.length * e.n→news[k]? = g2 k)∧(∀ v∈news,v.oneCell'=true) ∧
   (Builtin.firstCells i.size ys.length (.slice A2 ys.length c2)).run P w = .ok news.toArray w∧∀ ad,A2=some ad→∀ j u,news[j]? = some u→w.cell? (ad.add j)=some u:=by
  have hcell:=hel2.cell
  have hadd:∀ ad,A2=some ad→∀ j u,(BV g2 (ys.length * e.n))[j]? = some u→w.cell? (ad.add j)=some u:=by
   intro ad had j u hj
   have hlt:j<ys.length * e.n:=by have:=(List.getElem?_eq_some_iff.1 hj).1;rwa [AF] at this
   rw [Bh hcell j hlt] at hj
   obtain ⟨hs,hg⟩:=hs2 ad had (fun h0=>by rw [h0] at hlt;simp at hlt)
   rw [EH hs,hg,hj]
  refine ⟨BV g2 (ys.length * e.n),AF _ _,Bh hcell,FE hcell, ?_,hadd⟩
  cases hA:A2 with
  | none =>
   have:=hA2 hA;subst this
   rw [run_firstCells_none]
   simp [BV]
  | some ad=>exact run_firstCells_some w i.size ys.length ad ys.length c2 _ (by rw [AF,hsz]) (hadd ad hA)
 obtain ⟨news,hnl,hng,hn1',hnf,hncell⟩:=hnews
 have fresh:∀ (arr:Array Value) (cap:Nat),xs.length+ys.length≤cap→cap * e.n≤arr.size→B3 e 0 w fz (fun k=>arr[k]?) xs (fun _=>[])→(∀ k,k<ys.length * e.n→arr[xs.length * e.n+k]? = g2 k) →
   (∀ b,b<w.heap.size→b∉o1→(w.drew.alloc (.cells arr t0)).heap[b]? = w.heap[b]?)∧w.heap.size≤(w.drew.alloc (.cells arr t0)).heap.size ∧
   ∃ o',AD e 1 (w.drew.alloc (.cells arr t0)) fz (.slice (some ⟨w.heap.size,0,none⟩) (xs.length+ys.length) cap) (xs++ys) o'∧o'.Nodup∧∀ b∈o',b∈o1∨(w.heap.size≤b∧b<(w.drew.alloc (.cells arr t0)).heap.size):=by
  intro arr cap hcap hsize hx1 hy1
  have hold:∀ b,b<w.heap.size→(w.drew.alloc (.cells arr t0)).heap[b]? = w.heap[b]? := fun b hb=>A9 w.drew _ hb
  refine ⟨fun b hb _=>hold b hb,by rw [Ac];show w.heap.size≤w.heap.size+1;omega, ?_⟩
  have hels:B3 e 0 (w.drew.alloc (.cells arr t0)) fz (fun k=>arr[0+k]?) (xs++ys) fun i=>if i<xs.length then [] else []:=by
   refine B3.append (os:=fun _=>[]) (os':=fun _=>[]) ?_ ?_
   ·exact B3.congr (g:=fun k=>arr[k]?) (tr (fun b hb=>hold b (hfz b hb)) hx1) fun k _=>by simp only [Nat.zero_add]
   ·exact B3.congr (g:=g2) (tr (fun b hb=>hold b (hfz b hb)) hel2) fun k hk=>by simp only [Nat.zero_add];exact hy1 k hk
  have hrow:=MM (w:=w.drew.alloc (.cells arr t0)) (ad:=⟨w.heap.size,0,none⟩) (c:=cap) (fr:=(0,0)) (T:=t0) (heap_alloc_new w.drew _) rfl (by intro j _;simp) (by simpa using hsize) (by simpa using hcap) hels.zero
  rw [List.length_append] at hrow
  refine ⟨_,hrow,List.nodup_cons.2 ⟨by simp,List.nodup_nil⟩,fun b hb => ?_⟩
  rw [List.mem_singleton.1 hb]
  exact .inr ⟨Nat.le_refl _,by rw [Ac];exact Nat.lt_succ_self _⟩
 subst hux;subst huy
 cases A1 with
 | none =>
  obtain ⟨rfl,rfl⟩:=hA1 rfl
  have hx0:xs=[]:=List.eq_nil_of_length_eq_zero (by omega)
  subst hx0
  cases ys with
  | nil=>exact ⟨_,_,Cn t ty t0 i hund hi 0 A2 c2 news hnf,⟨rfl,rfl,rfl⟩,Nat.le_refl _,fun _ _ _=>rfl,[],Bz,List.nodup_nil,fun b hb=>by cases hb⟩
  | cons y ys =>
   cases A2 with
   | none=>have:=hA2 rfl;cases this
   | some ad2 =>
    have hge:=grownCap_ge w (y::ys).length 0 t0
    obtain ⟨f2,f3,o',f4,fn,f5⟩:=fresh (news.toArray++Builtin.zeroCells z.cells (grownCap w (y::ys).length 0 t0 - (y::ys).length)) (grownCap w (y::ys).length 0 t0) (by simpa using hge)
     (by
      have:(y::ys).length * e.n+(grownCap w (y::ys).length 0 t0 - (y::ys).length) * e.n=grownCap w (y::ys).length 0 t0 * e.n:=by rw [← Nat.add_mul];congr 1;omega
      simp only [Array.size_append,List.size_toArray,hnl,Builtin.zeroCells,Array.size_map,Array.size_range,hzc,List.length_map,BB]
      omega) (fun i hi=>by simp at hi)
     (by
      intro k hk
      rw [← hng k hk]
      simp only [List.length_nil,Nat.zero_mul,Nat.zero_add]
      rw [Array.getElem?_append_left (by simpa [hnl] using hk)]
      simp)
    refine ⟨_,_,run_append_nil w t ty t0 i z hund hi hz ad2 (y::ys).length c2 news (by rw [hnl,hsz]) (hncell ad2 rfl) (by simp) (by simp at hlen' ⊢;omega) (Nat.le_trans (Nat.mul_le_mul (show _≤68719476736 by simp at hlen' ⊢;omega) hby) (by decide)),⟨rfl,rfl,rfl⟩,f3,f2,o', ?_,fn,f5⟩
    simpa using f4
 | some ad1 =>
  obtain ⟨arr,T,fr,os1,hs,hh,hfit,hbare0,hxa,ho10,_⟩:=hs1 ad1 rfl (.inr (by decide))
  have hx1:B3 e 0 w fz (fun k=>arr[ad1.off+k]?) xs fun _=>[]:=B3.zero hxa
  clear hxa
  have ho1:o1=ad1.block::(List.range xs.length).flatMap os1:=ho10 (by decide)
  have hbare:=hbare0 (by decide)
  clear ho10 hbare0 hs1
  obtain ⟨b1,off1,sp1⟩:=ad1
  dsimp only at hs hh hfit hx1 ho1
  subst hs
  have hb1:b1∈o1:=by rw [ho1];simp
  by_cases hcap:xs.length+ys.length≤c1
  ·
   have hmul:(xs.length+ys.length) * e.n≤c1 * e.n:=Nat.mul_le_mul_right _ hcap
   rw [Nat.add_mul] at hmul
   obtain ⟨w',hst,hput⟩:=DR (P:=P) (o:=off1+xs.length * e.n) news hh hbare (by rw [hnl];omega) hn1'
   have hadd:(⟨b1,off1,none⟩:Addr).add (xs.length * i.size)=⟨b1,off1+xs.length * e.n,none⟩:=by rw [hsz];exact B4 _ _ _
   have hget:=CS news (off1+xs.length * e.n) arr (by rw [hnl];omega)
   have hfr:∀ b,fz b→w'.heap[b]? = w.heap[b]? := fun b hb=>hput.CG b fun e=>hown b1 hb1 (e ▸ hb)
   have hels:B3 e 0 w' fz (fun k=>(B9 news (off1+xs.length * e.n) arr)[off1+k]?) (xs++ys) fun i=>if i<xs.length then [] else []:=by
    refine B3.append (os:=fun _=>[]) (os':=fun _=>[]) ?_ ?_
    ·refine B3.congr (g:=fun k=>arr[off1+k]?) (tr hfr hx1) fun k hk => ?_
     rw [hget,if_neg (by omega)]
    ·refine B3.congr (g:=g2) (tr hfr hel2) fun k hk => ?_
     rw [← hng k hk,hget,if_pos (by rw [hnl];omega)]
     congr 1;omega
   have hrow:=MM (w:=w') (ad:=⟨b1,off1,none⟩) (c:=c1) hput.here rfl (by rw [Al];exact hbare) (by rw [Al];exact hfit) (by simpa using hcap) hels.zero
   rw [List.length_append] at hrow
   exact ⟨_,_,DA t ty t0 i hund hi ⟨b1,off1,none⟩ xs.length c1 A2 ys.length c2 news hnf hcap (by rw [hadd];exact hst),hput.rest,by rw [hput.size];exact Nat.le_refl _,fun b hb hn=>hput.CG b fun e=>hn (e ▸ hb1),_,hrow,List.nodup_cons.2 ⟨by simp,List.nodup_nil⟩,fun b hb => .inl (by rw [List.mem_singleton.1 hb];exact hb1)⟩
  ·
   cases A2 with
   | none=>have:=hA2 rfl;subst this;exact absurd hc1 (by simpa using hcap)
   | some ad2 =>
    have hcell1:=hx1.cell
    have hg1:=Bh hcell1
    have holds:∀ j u,(BV (fun k=>arr[off1+k]?) (xs.length * e.n))[j]? = some u→w.cell? ((⟨b1,off1,none⟩:Addr).add j)=some u:=by
     intro j u hj
     have hlt:j<xs.length * e.n:=by have:=(List.getElem?_eq_some_iff.1 hj).1;rwa [AF] at this
     rw [hg1 j hlt] at hj
     rw [B4];simp only [World.cell?,hh];simpa using hj
    have hge:=grownCap_ge w (xs.length+ys.length) c1 t0
    obtain ⟨f2,f3,o',f4,fn,f5⟩:=fresh (((BV (fun k=>arr[off1+k]?) (xs.length * e.n)).toArray++news.toArray)++Builtin.zeroCells z.cells (grownCap w (xs.length+ys.length) c1 t0 - (xs.length+ys.length))) (grownCap w (xs.length+ys.length) c1 t0) hge
     (by
      have:xs.length * e.n+ys.length * e.n+(grownCap w (xs.length+ys.length) c1 t0 - (xs.length+ys.length)) * e.n=grownCap w (xs.length+ys.length) c1 t0 * e.n:=by
       rw [← Nat.add_mul, ← Nat.add_mul];congr 1;omega
      simp only [Array.size_append,List.size_toArray,hnl,AF,Builtin.zeroCells,Array.size_map,Array.size_range,hzc,List.length_map,BB]
      omega)
     (B3.congr hx1 fun k hk=>by
      rw [← hg1 k hk]
      rw [Array.getElem?_append_left (by simp [AF];omega),Array.getElem?_append_left (by simp [AF];omega)]
      simp)
     (by
      intro k hk
      rw [← hng k hk]
      rw [Array.getElem?_append_left (by simp [AF,hnl];omega),Array.getElem?_append_right (by simp [AF])]
      simp [AF])
    exact ⟨_,_,run_append_grow w t ty t0 i z hund hi hz ⟨b1,off1,none⟩ xs.length c1 (BV (fun k=>arr[off1+k]?) (xs.length * e.n)) (by rw [AF,hsz]) holds ad2 ys.length c2 news (by rw [hnl,hsz]) (hncell ad2 rfl) (by omega) (by omega)
     (growslice_fits (by omega) (Nat.le_trans (Nat.mul_le_mul hlen' hby) (by decide))),⟨rfl,rfl,rfl⟩,f3,f2,o',f4,fn,f5⟩
end
section
variable {P:Program} {E:Cq} {s:St} {W:Wd} {o:Oper} {a:Act} {ws:List Wr} {cx:Cx} {v:Nat} {tm:Array Value}
theorem LS {vs:List Lv} {cells:List Value} {w:World} {fz:Nat→Prop} (hl:cells.length=vs.length) (hp:∀ (m:Nat) (lv:Lv),vs[m]? = some lv→∃ u,cells[m]? = some u∧lv.l.rd 0 w fz u lv.x [])
  {i off:Nat} {e:Ls} {a:Addr} {n k:Nat} (hi:i<n) {xs:List e.D} {o:List Nat} {f:List e.D→List e.D} (hm:Gp vs [(i,off)] e=some f) (hr:AD e 1 w fz (.slice (some a) n k) xs o) (hn:o.Nodup) (hz:∀ b∈o,¬ fz b) :
  a.spot=none∧∃ arr T fr,w.heap[a.block]? = some (.cells arr T fr)∧(∀ j,j<arr.size→¬(fr.1≤j∧j<fr.2))∧a.off+(i * e.n+off)+cells.length≤arr.size∧a.block∈o ∧
   ∀ w',My w w' a.block (B9 cells (a.off+(i * e.n+off)) arr) T fr→AD e 1 w' fz (.slice (some a) n k) (f xs) o:=by
 simp only [Gp] at hm
 split at hm
 ·rename_i y hy
  injection hm with hm;subst hm
  split at hy
  ·rename_i hc
   simp only [Bool.and_eq_true,beq_iff_eq] at hc
   obtain ⟨rfl,hlen⟩:=hc
   have hup:=Ax e vs y hy
   have:=G5 (F:=fun _=>y) (off:=0) (cells:=cells) hr (by omega) hn hz hi (by omega) (fun g g' x oo hx hg=>by
    have ho:oo=[]:=Ls.Bn e hx
    subst ho
    exact Bi e fun j lv hj=>by
     rw [hup] at hj
     obtain ⟨u,hu,hru⟩:=hp j lv hj
     have hjl:j<vs.length:=(List.getElem?_eq_some_iff.1 hj).1
     exact ⟨u,by rw [hg j (by omega),if_pos (by omega)];simpa using hu,hru⟩)
   simpa only [D6] using this
  ·cases hy
 ·split at hm
  ·rename_i f' hf'
   injection hm with hm;subst hm
   have hp':∀ (m:Nat) (lv:Lv),vs[m]? = some lv→∃ u,cells[m]? = some u∧lv.l.rd (dec 1) w fz u lv.x ((fun _=>[]) (0+m)):=fun m lv hm=>hp m lv hm
   obtain ⟨A,c,hv,hc,_,hsome⟩:=hr.KL
   injection hv with hA hl' hk'
   subst hA;subst hl';subst hk'
   obtain ⟨arr,T,fr,os,_,_,_,_,hel,_,_⟩:=hsome a rfl (.inr (by omega))
   have hfit:=(B0 e off vs cells 0 (ovs:=fun _=>[]) (g':=fun m=>if off≤m∧m<off+vs.length then cells[m - off]? else _) hf' hl hp' (hel i hi) fun m _=>rfl).1
   exact G5 (F:=f') (off:=off) (cells:=cells) hr (by omega) hn hz hi (by omega) (fun g g' x oo hx hg=>by
    obtain ⟨_,o',q1,q2,q3⟩:=B0 e off vs cells 0 (g':=g') (ovs:=fun _=>[]) hf' hl hp' hx fun m hm=>by rw [hg m hm,hl]
    have ho:oo=[]:=Ls.Bn e hx
    have ho':o'=[]:=Ls.Bn e q1
    rw [ho];rw [ho'] at q1;exact q1)
  ·cases hm
def DM (W:Wd) (w':World) (r j:Nat) (o1 ob:List Nat):Wd :=
 { W with w:=w',fz:=fun b=>W.fz b∨(b∈W.om (.lf r j)∧b∉o1)∨b∈ob,om:=fun k=>match k with
   | .lf a b=>if a=r∧b=j then o1 else W.om (.lf a b)
   | k=>W.om k }
theorem AW.nest (h:AW E s tm W) (hv:Ae s v) {r j AA gen:Nat} {t:TypeId} {e:Ls} {xs:List e.D} (hl:s.leaf r j = .arr AA gen t e xs 2) {u:Value} (hcv:W.cv r j=some u) {w':World} {o1 ob:List Nat}
  (hrd:AD e 1 w' (DM W w' r j o1 ob).fz u xs o1) (ho1:∀ b∈o1,b∈W.om (.lf r j)) (hnd:o1.Nodup) (hob:∀ b∈ob,(b∈W.om (.lf r j)∧b∉o1)∨(W.w.heap.size≤b∧b<w'.heap.size))
  (hw:∀ b,b<W.w.heap.size→b∉W.om (.lf r j)→w'.heap[b]? = W.w.heap[b]?) (hsz:W.w.heap.size≤w'.heap.size) (hrest:w'.os=W.w.os∧w'.tape=W.w.tape∧w'.output=W.w.output) :
  AW E (s.AG (.leaf r j (.arr AA v t e xs 1))) tm (DM W w' r j o1 ob):=by
 obtain ⟨hr,hj⟩:=Gz hl
 have hsame:=BH s r j (.arr AA v t e xs 1)
 have hleaf:=EU s r j (.arr AA v t e xs 1)
 generalize s.AG (.leaf r j (.arr AA v t e xs 1))=s' at hsame hleaf
 have hfz:∀ b,W.fz b→w'.heap[b]? = W.w.heap[b]? := fun b hb=>hw b (h.sep.fz b hb).1 fun hin=>(h.sep.own _ b hin).1 hb
 have hoth:∀ k,k ≠ .lf r j→∀ b∈W.om k,w'.heap[b]? = W.w.heap[b]? := fun k hk b hb=>hw b (h.sep.own _ b hb).2.1 fun hin=>h.sep.A6 k _ hk b hb hin
 have homf:∀ a b,(DM W w' r j o1 ob).om (.lf a b)=if a=r∧b=j then o1 else W.om (.lf a b):=fun _ _=>rfl
 have homs:∀ k,k ≠ .lf r j→(DM W w' r j o1 ob).om k=W.om k:=by
  intro k hk
  cases k with
  | lf a b=>rw [homf,if_neg];rintro ⟨rfl,rfl⟩;exact hk rfl
  | AX a=>rfl
  | fl a=>rfl
 have homr:(DM W w' r j o1 ob).om (.lf r j)=o1:=by rw [homf,if_pos ⟨rfl,rfl⟩]
 have hsubs:∀ k,∀ b∈(DM W w' r j o1 ob).om k,b∈W.om k:=by
  intro k b hb
  by_cases hk:k = .lf r j
  ·subst hk;rw [homr] at hb;exact ho1 b hb
  ·rw [homs k hk] at hb;exact hb
 have hturn:EG v s s' W (DM W w' r j o1 ob):={
  fz:=fun b hb => .inl hb
  LL:=hfz
  leaf:=by
   intro r' j' ver' gen' t' e' ys d' hl' hne
   rw [hleaf] at hl'
   by_cases hin:r=r'∧j=j'
   ·obtain ⟨rfl,rfl⟩:=hin
    rw [if_pos ⟨rfl,rfl,hr,hj⟩] at hl'
    injection hl' with e1 e2 e3 e4 e5 e6
    subst e1;subst e2;subst e3;subst e4;subst e6
    exact ⟨rfl,gen,t,xs,2,hl,fun hg=>absurd rfl hg⟩
   ·rw [if_neg (fun hh=>hin ⟨hh.1,hh.2.1⟩)] at hl'
    refine ⟨rfl,gen',t',ys,d',hl',fun _=>⟨rfl,fun p h' e2 u' hc hn => ?_⟩⟩
    obtain ⟨u0,hu0,hrd0⟩:=(h.roots r').row hl'
    rw [hc] at hu0;injection hu0 with hu0;subst hu0
    exact BN p hrd0 hn fun b hb=>hb.elim (fun hb=>hoth _ (by simp;intro e1 e2;exact hin ⟨e1.symm,e2.symm⟩) b hb) (hfz b)
  box:=fun r' hb hne=>⟨(hsame.box r').1 ▸ hb,(hsame.box r').2.1.symm,rfl⟩ }
 have hsep:Sep E (DM W w' r j o1 ob):={
  nodup:=fun k=>by
   by_cases hk:k = .lf r j
   ·subst hk;rw [homr];exact hnd
   ·rw [homs k hk];exact h.sep.nodup k
  A6:=fun k k' hne b hb hb'=>h.sep.A6 k k' hne b (hsubs k b hb) (hsubs k' b hb')
  own:=fun k b hb=>by
   obtain ⟨a,c,d⟩:=h.sep.own k b (hsubs k b hb)
   refine ⟨?_,by show b<w'.heap.size;omega,d⟩
   have hnot:k = .lf r j→b∈o1:=fun hk=>by subst hk;rwa [homr] at hb
   rintro (hz | ⟨h1,h2⟩ | hz)
   ·exact a hz
   ·by_cases hk:k = .lf r j
    ·exact h2 (hnot hk)
    ·exact h.sep.A6 k _ hk b (hsubs k b hb) h1
   ·rcases hob b hz with ⟨h1,h2⟩ | ⟨h1,_⟩
    ·by_cases hk:k = .lf r j
     ·exact h2 (hnot hk)
     ·exact h.sep.A6 k _ hk b (hsubs k b hb) h1
    ·omega
  fz:=fun b hb=>by
   rcases hb with hb | ⟨h1,_⟩ | hb
   ·obtain ⟨a,c⟩:=h.sep.fz b hb;exact ⟨by show b<w'.heap.size;omega,c⟩
   ·obtain ⟨_,c,d⟩:=h.sep.own _ b h1;exact ⟨by show b<w'.heap.size;omega, .inr d⟩
   ·rcases hob b hb with ⟨h1,_⟩ | ⟨h1,h2⟩
    ·obtain ⟨_,c,d⟩:=h.sep.own _ b h1;exact ⟨by show b<w'.heap.size;omega, .inr d⟩
    ·exact ⟨h2, .inr (.inl (by have:=h.sep.size;omega))⟩
  frame:=fun b h1 h2=>(hw b (by have:=h.sep.size;omega) fun hin=>by
   rcases (h.sep.own _ b hin).2.2 with h3 | h3
   ·omega
   ·exact h2 h3).trans (h.sep.frame b h1 h2)
  size:=by show _≤w'.heap.size;have:=h.sep.size;omega
  rest:=⟨hrest.1.trans h.sep.rest.1,hrest.2.1.trans h.sep.rest.2.1,hrest.2.2.trans h.sep.rest.2.2⟩ }
 refine h.H9 hv hturn hsep (by rw [hsame.sl,h.DB]) (by rw [hsame.len,h.Bx]) (fun t => .inl ⟨by show nth _ s'.sl t=_;rw [hsame.sl];rfl,rfl⟩) ?_
 intro r'
 obtain ⟨h1,h2⟩:=h.roots r'
 refine ⟨fun j' => ?_, ?_⟩
 ·show Aa s' _ (s'.leaf r' j') (W.cv r' j') ((DM W w' r j o1 ob).om (.lf r' j'))
  rw [hleaf]
  by_cases hin:r=r'∧j=j'
  ·obtain ⟨rfl,rfl⟩:=hin
   rw [if_pos ⟨rfl,rfl,hr,hj⟩,homr]
   exact ⟨u,hcv,hrd⟩
  ·have hk:Key.lf r' j' ≠ .lf r j:=by simp;intro e1 e2;exact hin ⟨e1.symm,e2.symm⟩
   rw [if_neg (fun hh=>hin ⟨hh.1,hh.2.1⟩),homs _ hk]
   exact Aa.Df hturn (LA.Dr hv r' j') (hoth _ hk) (h1 j')
 ·rw [(hsame.box r').1]
  have hkb:(DM W w' r j o1 ob).om (.AX r')=W.om (.AX r'):=rfl
  rw [hkb]
  split
  ·rename_i hb
   rw [if_pos hb] at h2
   obtain ⟨ho',arr',T',fr',hh',a1,a2,a3⟩:=h2
   exact ⟨ho',arr',T',fr',(hoth (.AX r') (by simp) _ (by rw [ho'];exact List.mem_singleton.2 rfl)).trans hh',a1,by rw [(hsame.box r').2.2];exact a2,a3⟩
  ·rename_i hb;rw [if_neg hb] at h2;exact h2
theorem Ii {s:St} {r j AA gen v:Nat} {t:TypeId} {e:Ls} {xs:List e.D} {d:Nat} (h:s.leaf r j = .arr AA gen t e xs (d+1)):s.AG (.half r j v)=s.AG (.leaf r j (.arr AA v t e xs 1)):=by
 simp only [St.AG,h,LA.Cd]
theorem NL (h:AW E s tm W) (hv:Ae s v) {t t0 ty:TypeId} {e:Ls} (hund:P.underlying t=some (.slice t0)) (hel:Lr P t0 e) {d:Nat} {c:Loc} (hcp:∃ q,c.p=[q]) {ux uy:Value} (hx:AR s W (.ref c) ux) {lb:LA} (hy:AR s W lb uy) {t1:TypeId}
  (hl:(Du cx s d v t1 e c lb fun ws => .go ws).leads ws):∃ u w',(Builtin.append_ #[t,t] ty #[ux,uy]).run P W.w = .ok u w'∧∃ W',W'.w=w'∧AW E (s.app ws) (tm.setIfInBounds d u) W':=by
 obtain ⟨⟨i,off⟩,hcp⟩:=hcp
 unfold Du at hl
 split at hl
 ·rename_i AA gen tt e0 xs hleaf
  split at hl
  ·rename_i hcond
   simp only [Bool.and_eq_true,beq_iff_eq,Bool.not_eq_true'] at hcond
   obtain ⟨⟨⟨hver,hgen⟩,hpin⟩,hflat⟩:=hcond
   subst hver;subst hgen
   obtain ⟨hd0,e2,hcv,hnav⟩:=hx _ _ _ _ _ hleaf (.inr rfl)
   obtain ⟨u0,hu0,hrd⟩:=(h.roots c.r).row hleaf
   rw [hcv] at hu0;injection hu0 with hu0;subst hu0
   unfold St.content at hl
   rw [hleaf] at hl
   dsimp only at hl
   rw [hcp] at hnav hl
   split at hl
   ·have hndo:=h.sep.nodup (.lf c.r c.j)
    obtain ⟨t2,ys0,oy,hl,hry,hsuby,hndy⟩:=Fb [(i,off)] hl hrd hnav (fun _=>rfl) hndo
    obtain ⟨ad,len,cc,tf,f2,hu2,hhd,hspot,hilt,hkind,hcell,hfe,hue⟩:=hnav
    subst hfe;subst hue;subst hhd
    split at hl
    ·rename_i zs hzs
     obtain ⟨q1,q2⟩:=L.AI hzs
     cases q1
     have q2:ys0=zs:=q2
     subst q2
     obtain ⟨ys,hl,hyr⟩:=Bl h hy hl
     rcases Ag hl with ⟨hb,hl⟩ | ⟨_,hl⟩
     ·have hl:_=ws:=hl
      have hb:=of_decide_eq_true hb
      obtain ⟨u,w',hrun,hrest,hsz,hold,hpre,ob,hnew,hob⟩:=Jq (P:=P) (ty:=ty) hund hel hflat (fun b hb=>(h.sep.fz b hb).1) hry (L.Kf.1 hyr) hb
      refine ⟨u,w',hrun, ?_⟩
      have hap:=Hx hrd hndo hilt hkind hcell hry
      obtain ⟨H,hH⟩:=Hv e0 off (G:=fun _ f=>some (fun (l:List f.D)=>l)) hkind rfl
      have hF:Ht (fun _ f=>some (fun (l:List f.D)=>l)) [(i,off)] tt e0=some fun xs=>xs.modify i H:=by
       simp only [Ht,hH]
      have hFid:xs.modify i H=xs:=by
       rw [show H=id from funext (J3 e0 off hH fun t f g hg l=>by injection hg with hg;subst hg;rfl)]
       simp
      obtain ⟨t3,fn,zs,po,g1,g2,g3,g4,g5⟩:=Nz [(i,off)] hF hrd ⟨ad,len,cc,tf,_,_,rfl,hspot,hilt,hkind,hcell,rfl,rfl⟩ (fun _=>rfl) hndo
      injection g1 with g1;subst g1
      obtain ⟨z1,z2⟩:=g2.uniq hry
      subst z1;subst z2
      obtain ⟨q,hq,hback⟩:=g5 w' W.fz po hpre {
       nd:=g4
       new:=fun b hb _=>hb
       rest:=fun b hb=>by
        rcases hb with ⟨hb1,hb2⟩ | hb
        ·exact hold b (h.sep.own _ b hb1).2.1 hb2
        ·exact hold b (h.sep.fz b hb).1 fun hin=>(h.sep.own _ b (g3 b hin)).1 hb
       fz:=fun b hb=>hb }
      rw [hFid] at hq
      have hqsub:∀ b∈q,b∈W.om (.lf c.r c.j):=fun b hb=>(hback.2 b hb).elim (fun hb=>g3 b hb) (fun hb=>hb.1)
      obtain ⟨o1,ho1,hnd1,hhalf⟩:=hq.half hback.1
      have hone:∀ b∈o1,b∉po:=fun b hb=>by
       obtain ⟨_,a',n',c',hv',e'⟩:=ho1 b hb
       injection hv' with hv' _ _
       injection hv' with hv'
       rw [e', ← hv'];exact hap
      have hob':∀ b∈ob,(b∈W.om (.lf c.r c.j)∧b∉o1)∨(W.w.heap.size≤b∧b<w'.heap.size):=fun b hb=>(hob b hb).imp (fun hb=>⟨g3 b hb,fun hin=>hone b hin hb⟩) id
      have hrd1:AD e0 1 w' (DM W w' c.r c.j o1 ob).fz (.slice (some ad) len cc) xs o1:=hhalf _ (fun b hb => .inl hb) fun b hb hn => .inr (.inl ⟨hqsub b hb,hn⟩)
      have hrep:=h.nest hv hleaf hcv hrd1 (fun b hb=>hqsub b (ho1 b hb).1) hnd1 hob' (fun b hb hn=>hold b hb fun hin=>hn (g3 b hin)) hsz hrest
      refine ⟨DM W w' c.r c.j o1 ob,rfl, ?_⟩
      rw [← hl]
      show AW E ((s.AG (.half c.r c.j v)).app _) _ _
      rw [Ii hleaf]
      exact hrep.slot d (hnew.freeze fun b hb=>hb.elim (fun hb => .inl hb) fun hb => .inr (.inr hb))
     ·exact hl.elim
    ·exact hl.elim
   ·exact hl.elim
  ·exact hl.elim
 ·exact hl.elim
theorem NF (h:AW E s tm W) (hv:Ae s v) {t t0 ty:TypeId} {e:Ls} (hund:P.underlying t=some (.slice t0)) (hel:Lr P t0 e) {d:Nat} (hd:d<tm.size) {c:Loc} (hcp:c.p=[]) {ux uy:Value} (hx:AR s W (.ref c) ux) {lb:LA} (hy:AR s W lb uy) {t1:TypeId}
  (hl:(Dt cx s d v t1 e c lb fun ws => .go ws).leads ws):∃ u w',(Builtin.append_ #[t,t] ty #[ux,uy]).run P W.w = .ok u w'∧∃ W',W'.w=w'∧AW E (s.app ws) (tm.setIfInBounds d u) W':=by
 unfold Dt at hl
 split at hl
 ·rename_i AA gen t' e' xs hleaf
  split at hl
  ·rename_i hcond
   simp only [Bool.and_eq_true,beq_iff_eq,Bool.not_eq_true'] at hcond
   obtain ⟨⟨hver,hpin⟩,hsc⟩:=hcond
   subst hver
   split at hl
   ·rename_i zs hzs
    obtain ⟨q1,q2⟩:=L.AI hzs
    cases q1
    have q2:xs=zs:=q2
    subst q2
    obtain ⟨h',e',hcv,hn⟩:=hx gen _ _ _ _ hleaf (.inl hcp)
    rw [hcp] at hn
    obtain ⟨rfl,rfl⟩:=hn
    obtain ⟨u',hu',hrd⟩:=(h.roots c.r).row hleaf
    rw [hcv] at hu';injection hu' with hu';subst hu'
    obtain ⟨ys,hl,hyr⟩:=Bl h hy hl
    have hroots:lb.roots=[]:=by cases lb <;> first | rfl | cases hsc
    rcases Ag hl with ⟨hb,hl⟩ | ⟨_,hl⟩
    ·have hl:_=ws:=hl
     have hb:=of_decide_eq_true hb
     have hyr:=(L.Kf.1 hyr).frame (fz':=W.fz) (w':=W.w) (fun _ _=>rfl) fun b hb=>hb.elim id fun ⟨r,hr,_⟩=>by rw [hroots] at hr;cases hr
     obtain ⟨u,w',hrun,hrest,hsz,hold,o',hrow,hnd,hfrom⟩:=Jw (P:=P) (ty:=ty) hund hel (fun b hb=>(h.sep.fz b hb).1) hrd (fun b hb=>(h.sep.own _ b hb).1) hyr hb
     refine ⟨u,w',hrun, ?_⟩
     rw [← hl]
     exact h.Cl hv [(c.r,c.j)] hd (t0:=t1) (fun b hb=>hold b (by
       rcases hb with hb | ⟨k,_,hb⟩
       ·exact (h.sep.fz b hb).1
       ·exact (h.sep.own k b hb).2.1) fun hin=>by
       rcases hb with hb | ⟨k,hk,hb⟩
       ·exact (h.sep.own _ b hin).1 hb
       ·by_cases hkk:k = .lf c.r c.j
        ·subst hkk;exact hk.2 (by simp)
        ·exact h.sep.A6 k _ hkk b hb hin)
      (fun b hb hio=>hold b (by have:=h.sep.size;omega) fun hin=>by
       rcases (h.sep.own _ b hin).2.2 with h3 | h3
       ·omega
       ·exact hio h3) hsz hrest hrow hnd (fun b hb=>(hfrom b hb).imp (fun hb=>⟨c.r,c.j,by simp,hb⟩) id)
    ·exact hl.elim
   ·exact hl.elim
  ·exact hl.elim
 ·exact hl.elim
theorem FM {a:LA} {c:Loc} (h:nested a=some c):a = .ref c∧∃ q,c.p=[q]:=by
 unfold nested at h
 split at h
 ·rename_i c0
  split at h
  ·rename_i q hq
   injection h with h
   subst h
   exact ⟨rfl,q,hq⟩
  ·cases h
 ·cases h
theorem E3:∀ {as:List LA} {c:Loc},Cb as=some c→∃ (j:Nat),as[j]? = some (.ref c)∧∃ q,c.p=[q]
 | [],c,h=>by cases h
 | a::as,c,h=>by
  unfold Cb at h
  split at h
  ·rename_i c' hc'
   injection h with h;subst h
   obtain ⟨e1,e2⟩:=FM hc'
   exact ⟨0,by rw [e1];rfl,e2⟩
  ·obtain ⟨j,h1,h2⟩:=E3 h
   exact ⟨j+1,by simpa using h1,h2⟩
theorem Ko {w:World} {fz':Nat→Prop} {β:Type} {z:β}:∀ {ls:List L} {as:List LA} {g:Nat→Option Value} {k:List Lv→Step β},
  (∀ (j:Nat) (b:LA),as[j]? = some b→∃ u,g j=some u∧∀ (l:L) (k':l.D→Step β),(s.Aw l b k').leads z→∃ x,(k' x).leads z∧l.rd 0 w fz' u x [])→(s.data ls as k).leads z →
  ∃ vs:List Lv,(k vs).leads z∧vs.length=as.length∧vs.map (·.l)=ls∧∀ (j:Nat) (lv:Lv),vs[j]? = some lv→∃ u,g j=some u∧lv.l.rd 0 w fz' u lv.x []
 | [],[],g,k,hg,hl=>⟨[],hl,rfl,rfl,fun j lv hj=>by simp at hj⟩
 | [],_::_,g,k,hg,hl=>hl.elim
 | _::_,[],g,k,hg,hl=>hl.elim
 | l::ls,b::as,g,k,hg,hl=>by
  obtain ⟨u,hu,hb⟩:=hg 0 b rfl
  obtain ⟨x,hl,hx⟩:=hb l _ hl
  obtain ⟨vs,hl,hn,hm,hvs⟩:=Ko (g:=fun j=>g (j+1)) (fun j b hj=>hg (j+1) b (by simpa using hj)) hl
  refine ⟨⟨l,x⟩::vs,hl,by simp [hn],by simp [hm],fun j lv hj => ?_⟩
  cases j with
  | zero=>simp at hj;subst hj;exact ⟨u,hu,hx⟩
  | succ j=>exact hvs j lv (by simpa using hj)
theorem NI (h:AW E s a.tmps W) (hv:Ae s v) {t t':TypeId} {e:Ls} (hund:P.underlying t=some (.slice t')) (hel:Lr P t' e) {d len:Nat} {c:Loc} {x:Operand} {g:Bool} {as:List LA} (hnf:∃ (j:Nat),as[j]? = some (.ref c)∧∃ q,c.p=[q]) (hopd:s.Ap x = .v g as) (hx:Ex s W g as (a.eval x)) {t1:TypeId} (hsmall:len * e.n≤16777216) (hlen:len=1) {parts:Array (Nat×Operand)}
  (hl:(Cv cx s d v t1 e x c fun ws => .go ws).leads ws) (hps:parts.toList=[(0,x)]):∃ u w',(Instr.buildSlice t len (parts.map fun (i,x)=>(i,a.eval x))).run P W.w = .ok u w'∧∃ W',W'.w=w'∧AW E (s.app ws) (a.tmps.setIfInBounds d u) W':=by
 obtain ⟨j0,hj0,⟨i0,off0⟩,hcp⟩:=hnf
 unfold Cv at hl
 rw [hopd] at hl
 dsimp only at hl
 split at hl
 ·rename_i AA gen t0 e0 xs hleaf
  split at hl
  ·rename_i hcond
   simp only [Bool.and_eq_true,beq_iff_eq,Bool.not_eq_true'] at hcond
   obtain ⟨⟨⟨hver,hgen⟩,hpin⟩,hall⟩:=hcond
   subst hver;subst hgen
   obtain ⟨i,hi,hsz,hby,z,hz,hzc⟩:=hel.info
   have hndo:=h.sep.nodup (.lf c.r c.j)
   obtain ⟨hd0,hcv,hrd⟩:=(h.roots c.r).row hleaf
   obtain ⟨o1,ho1,hnd1,hhalf⟩:=hrd.half hndo
   have hb0:∀ b,W.w.heap.size≤b→¬ W.fz b:=fun b hb hz=>by have:=(h.sep.fz b hz).1;omega
   let fz':Nat→Prop:=fun b=>W.fz b∨(b∈W.om (.lf c.r c.j)∧b∉o1)∨b∈[W.w.heap.size]
   obtain ⟨vs,hl,hvl,hvm,hvs⟩:=Ko (w:=W.w) (fz':=fz') (g:=A7 g (a.eval x)) (fun j b hj=>by
    obtain ⟨u,hu,hok⟩:=B8 hx j b hj
    refine ⟨u,hu,fun l k' hl => ?_⟩
    have hab:=List.all_eq_true.1 hall b (List.mem_of_getElem? hj)
    unfold J0 at hab
    split at hab
    ·rename_i c'
     simp only [Bool.and_eq_true,beq_iff_eq] at hab
     obtain ⟨⟨⟨⟨a1,a2⟩,a3⟩,a4⟩,a5⟩:=hab
     obtain ⟨r',j',ver',gen',p'⟩:=c'
     dsimp only at a1 a2 a3 a4 a5
     subst a1;subst a2;subst a3;subst a4
     have hp':∃ q,p'=[q]:=by
      split at a5
      ·exact ⟨_,rfl⟩
      ·cases a5
     obtain ⟨⟨i1,off1⟩,rfl⟩:=hp'
     obtain ⟨h',e',hcv',hnav⟩:=hok _ _ _ _ _ hleaf (.inr rfl)
     rw [hcv] at hcv';injection hcv' with hcv';subst hcv'
     unfold St.Aw St.content at hl
     simp only [hleaf] at hl
     split at hl
     ·obtain ⟨t2,ys0,oy,hl,hry,hsuby,hndy⟩:=Fb [(i1,off1)] hl hrd hnav (fun _=>rfl) hndo
      obtain ⟨ad,ln,cc,tf,f2,u2,hhd,hspot,hilt,hkind,hcell,hfe,hue⟩:=hnav
      subst hfe;subst hue;subst hhd
      split at hl
      ·rename_i y hy
       obtain ⟨ee,he⟩:=L.AI hy
       subst ee;subst he
       have hap:=Hx hrd hndo hilt hkind hcell hry
       refine ⟨_,hl,hry.freeze fun b hb => ?_⟩
       rcases hb with hb | hb
       ·exact .inl hb
       ·refine .inr (.inl ⟨hsuby b hb,fun hin => ?_⟩)
        obtain ⟨_,a',n',c',hv',e'⟩:=ho1 b hin
        injection hv' with hv' _ _
        injection hv' with hv'
        rw [e', ← hv'] at hb
        exact hap hb
      ·exact hl.elim
     ·exact hl.elim
    ·rename_i l0 x0
     simp only [St.Aw] at hl
     split at hl
     ·rename_i y hy
      obtain ⟨ee,he⟩:=L.AI hy
      subst ee;subst he
      exact ⟨x0,hl,L.AJ l0 hok (fun _ _=>rfl) fun b hb => .inl hb⟩
     ·exact hl.elim
    ·cases hab) hl
   split at hl
   ·rename_i y hy
    have hl:_=ws:=hl
    have hup:=Ax e vs y hy
    have hen:as.length=e.n:=by rw [← hvl, ← hup,CA]
    have hcells:=Br hx fun j b hj=>by
     have hlt:j<vs.length:=by rw [hvl];exact (List.getElem?_eq_some_iff.1 hj).1
     obtain ⟨u,hu,hr⟩:=hvs j vs[j] (List.getElem?_eq_getElem hlt)
     exact ⟨u,hu,L.Db _ hr⟩
    have hrde:e.rd 0 W.w fz' (A7 g (a.eval x)) y []:=Bi e fun j lv hj=>by rw [hup] at hj;exact hvs j lv hj
    obtain ⟨arr,hf,hasz,_,hget⟩:=FD (e:=e) a.eval parts.toList 0 (madeCells z.cells (len * e.n)) (fun m x' i' hm=>by
     rw [hps] at hm
     cases m with
     | zero=>simp at hm;obtain ⟨rfl,rfl⟩:=hm;exact ⟨rfl,by rw [hcells.1,hen]⟩
     | succ m=>simp at hm) (by rw [size_madeCells,hps,hlen];simp)
    rw [size_madeCells] at hasz
    have hrun:=EY (P:=P) (w:=W.w) (t:=t) (len:=len) (parts:=parts.map fun (i,x)=>(i,a.eval x)) (arr:=arr) hund hi hz (by rw [hsz];exact hsmall) (by rw [hsz,Array.toList_map];exact hf)
    have hels:B3 e 0 (W.w.alloc (.cells arr t')) fz' (fun k=>arr[0+k]?) [y] fun _=>[]:=by
     intro m hm
     have hm0:m=0:=by simpa using hm
     subst hm0
     have hsz':∀ b,(b∈([]:List Nat)∨fz' b)→b<W.w.heap.size∨b=W.w.heap.size:=by
      intro b hb
      rcases hb with hb | hb | ⟨hb,_⟩ | hb
      ·cases hb
      ·exact .inl (h.sep.fz b hb).1
      ·exact .inl (h.sep.own _ b hb).2.1
      ·exact .inr (List.mem_singleton.1 hb)
     have h4:e.rd 0 (W.w.alloc (.cells arr t')) fz' (fun j=>(a.eval x).cells[j]?) y []:=by
      refine Ls.BE e (g:=A7 g (a.eval x)) ?_ fun j hj=>hcells.2 j (by omega)
      have h0:e.rd 0 W.w (fun b=>fz' b∧b<W.w.heap.size) (A7 g (a.eval x)) y []:=Bi e fun j lv hj=>by
       rw [hup] at hj
       obtain ⟨u,hu,hr⟩:=hvs j lv hj
       exact ⟨u,hu,H8 lv.l hr⟩
      exact Ls.AJ e h0 (fun b hb=>A9 _ _ (hb.elim (fun hb=>by cases hb) fun hb=>hb.2)) fun b hb=>hb.1
     refine Ls.BE e h4 fun j hj => ?_
     have:=hget 0 0 x (by rw [hps];rfl) j hj
     simp only [Nat.zero_add] at this ⊢
     exact this
    have hrow:=N0 (w:=W.w.alloc (.cells arr t')) (ad:=⟨W.w.heap.size,0,none⟩) (c:=len) (fr:=(0,0)) (T:=t') (fz:=fz') (heap_alloc_new _ _) rfl (.inr (.inr (by simp))) (by simp [hasz]) (by simp [hlen]) hels
    refine ⟨_,_,hrun,DM W (W.w.alloc (.cells arr t')) c.r c.j o1 [W.w.heap.size],rfl, ?_⟩
    have hqs:AD e0 2 (W.w.alloc (.cells arr t')) W.fz hd0 xs (W.om (.lf c.r c.j)):=hrd.frame (fun b hb=>A9 _ _ (hb.elim (fun hb=>(h.sep.own _ b hb).2.1) fun hb=>(h.sep.fz b hb).1)) fun _ hb=>hb
    have hrd1:AD e0 1 (W.w.alloc (.cells arr t')) (DM W (W.w.alloc (.cells arr t')) c.r c.j o1 [W.w.heap.size]).fz hd0 xs o1 :=
     (hhalf fz' (fun b hb => .inl hb) fun b hb hn => .inr (.inl ⟨hb,hn⟩)).Nu (fun b hb=>A9 _ _ hb) (fun b hb=>(h.sep.own _ b (ho1 b hb).1).2.1) (fun b hb=>hb)
    have hrep:=h.nest hv hleaf hcv hrd1 (fun b hb=>(ho1 b hb).1) hnd1 (fun b hb => .inr (by rw [List.mem_singleton.1 hb,Ac];exact ⟨Nat.le_refl _,Nat.lt_succ_self _⟩)) (fun b hb _=>A9 _ _ hb) (by rw [Ac];omega) ⟨rfl,rfl,rfl⟩
    rw [← hl]
    have hlen1:[y].length=len:=by rw [hlen];rfl
    rw [hlen1] at hrow
    show AW E ((s.AG (.half c.r c.j v)).app _) _ _
    rw [Ii hleaf]
    exact hrep.slot d hrow
   ·exact hl.elim
  ·exact hl.elim
 ·exact hl.elim
theorem LW (hc:Dg P cx) (h:AW E s a.tmps W) (hv:Ae s v) {c:Call} (ho:o.op = .call c) (hb:c.callee = .builtin .append) (hd:∀ d,o.dst=some d→d<a.tmps.size) (hl:(AB cx v o s).leads ws):Bc P E o a W.w (s.app ws):=by
 simp only [AB,ho,hb] at hl
 split at hl
 ·rename_i x y t1 t2 ty d hx ht hty hds
  split at hl
  ·rename_i t e hls
   split at hl
   ·rename_i hcond
    simp only [Bool.and_eq_true,beq_iff_eq] at hcond
    obtain ⟨rfl,hrow⟩:=hcond
    obtain ⟨t0,hund,hel⟩:=Fh hc hrow
    have hargs:c.args = #[x,y]:=by rw [← Array.toList_inj,hx]
    have hats:c.argTypes = #[t1,t1]:=by rw [← Array.toList_inj,ht]
    obtain ⟨cal,args,ats⟩:=c
    dsimp only at hb hargs hats
    subst hb;subst hargs;subst hats
    have fin:∀ {xs ys:List e.D} {us1 us2:List (Nat×Nat)} {o1:List Nat},AD e 2 W.w W.fz (a.eval x) xs o1→o1.Nodup→(∀ b∈o1,∃ r j,(r,j)∈us1∧b∈W.om (.lf r j))→KO P s W e (a.eval y) ys us2 →
      (∀ x∈us1,x∉us2)→xs.length+ys.length≤DZ→ws=gone (us1++us2)++ownRow d v t e (xs++ys)→Bc P E o a W.w (s.app ws):=by
     intro xs ys us1 us2 o1 h1 h2 h3 h4 h5 h6 h7
     obtain ⟨u,w',hrun,W',hW',hrep⟩:=LC h hv (ty:=o.type) hund hel (hd d hds) h1 h2 h3 h4 h5 h6 t
     rw [h7]
     refine Be h hds ?_ hW' hrep
     simp [execOp,ho,resolve,invoke,builtin,hrun]
    have h1:=Ad h x
    have h2:=Ad h y
    have hva:=Ip hv x
    generalize s.Ai x=p at hl h1 hva
    unfold Dh at hl
    cases hnest:nested p with
    | some c =>
     rw [hnest] at hl
     obtain ⟨rfl,hcp⟩:=FM hnest
     obtain ⟨u,w',hrun,W',hW',hrep⟩:=NL h hv (ty:=o.type) hund hel hcp h1 h2 hl
     refine Be h hds ?_ hW' hrep
     simp [execOp,ho,resolve,invoke,builtin,hrun]
    | none =>
    rw [hnest] at hl
    dsimp only at hl
    cases hhalf:ET s p with
    | some c =>
     rw [hhalf] at hl
     dsimp only at hl
     have hpc:p = .ref c∧c.p=[]:=by
      unfold ET at hhalf
      split at hhalf
      ·rename_i c0
       split at hhalf
       ·rename_i hq
        split at hhalf
        ·injection hhalf with hhalf
         subst hhalf
         exact ⟨rfl,hq⟩
        ·cases hhalf
       ·cases hhalf
      ·cases hhalf
     obtain ⟨rfl,hcp⟩:=hpc
     obtain ⟨u,w',hrun,W',hW',hrep⟩:=NF h hv (ty:=o.type) hund hel (hd d hds) hcp h1 h2 hl
     refine Be h hds ?_ hW' hrep
     simp [execOp,ho,resolve,invoke,builtin,hrun]
    | none =>
    rw [hhalf] at hl
    dsimp only at hl
    unfold C1 at hl
    split at hl
    ·obtain ⟨ys,us,hl,hmore⟩:=JG h h2 hl
     rcases Ag hl with ⟨hb,hl⟩ | ⟨_,hl⟩
     ·have hl:_=ws:=hl
      rw [show a.eval x = .slice none 0 0 from h1] at fin
      exact fin (xs:=[]) (us1:=[]) Bz List.nodup_nil (fun b hb=>by cases hb) hmore (fun x hx=>by cases hx) (by simpa using of_decide_eq_true hb) hl.symm
     ·exact hl.elim
    ·rename_i c
     split at hl
     ·rename_i AA gen t' e' xs dd hleaf
      split at hl
      ·rename_i hcond
       simp only [Bool.and_eq_true,beq_iff_eq,Bool.not_eq_true'] at hcond
       obtain ⟨⟨⟨hver,hp⟩,hpin⟩,hdd⟩:=hcond
       subst hver;subst hdd
       have hp:c.p=[]:=by cases hq:c.p <;> simp_all [isNil]
       split at hl
       ·rename_i ys0 hys
        obtain ⟨q1,q2⟩:=L.AI hys
        cases q1
        have q2:xs=ys0:=q2
        subst q2
        obtain ⟨h',e',hcv,hn⟩:=h1 gen _ _ _ _ hleaf (.inl hp)
        rw [hp] at hn
        obtain ⟨rfl,rfl⟩:=hn
        obtain ⟨u',hu',hrd⟩:=(h.roots c.r).row hleaf
        rw [hcv] at hu';injection hu' with hu';rw [← hu'] at hrd
        obtain ⟨ys,us,hl,hmore⟩:=JG h h2 hl
        split at hl
        ·exact hl.elim
        ·rename_i hnot
         rcases Ag hl with ⟨hb,hl⟩ | ⟨_,hl⟩
         ·have hl:_=ws:=hl
          exact fin (us1:=[(c.r,c.j)]) hrd (h.sep.nodup _) (fun b hb=>⟨c.r,c.j,by simp,hb⟩) hmore (fun x hx=>by simp at hx;subst hx;simpa using hnot) (of_decide_eq_true hb) hl.symm
         ·exact hl.elim
       ·exact hl.elim
      ·exact hl.elim
     ·exact hl.elim
    ·rename_i c lo hi
     split at hl
     ·rename_i AA gen t' e' xs dd hleaf
      split at hl
      ·rename_i hcond
       simp only [Bool.and_eq_true,beq_iff_eq,Bool.not_eq_true'] at hcond
       obtain ⟨⟨⟨⟨hver,hp⟩,hpin⟩,hdd⟩,hflat⟩:=hcond
       subst hver;subst hdd
       have hp:c.p=[]:=by cases hq:c.p <;> simp_all [isNil]
       split at hl
       ·rename_i ys0 hys
        obtain ⟨q1,q2⟩:=L.AI hys
        cases q1
        have q2:xs=ys0:=q2
        subst q2
        obtain ⟨h',e',A,n,k0,hcv,hn,l1,l2,huv⟩:=h1 gen _ _ _ _ hleaf (.inl hp)
        rw [hp] at hn
        obtain ⟨rfl,rfl⟩:=hn
        obtain ⟨u',hu',hrd⟩:=(h.roots c.r).row hleaf
        rw [hcv] at hu';injection hu' with hu';rw [← hu'] at hrd
        obtain ⟨o',r1,r2,r3⟩:=CK.sub hrd l1 l2
        obtain ⟨ys,us,hl,hmore⟩:=JG h h2 hl
        split at hl
        ·exact hl.elim
        ·rename_i hnot
         rcases Ag hl with ⟨hb,hl⟩ | ⟨_,hl⟩
         ·have hl:_=ws:=hl
          refine fin (us1:=[(c.r,c.j)]) (by rw [huv];exact r1) (r3 (h.sep.nodup _)) (fun b hb=>⟨c.r,c.j,by simp,r2 b hb⟩) hmore (fun x hx=>by simp at hx;subst hx;simpa using hnot) (of_decide_eq_true hb) hl.symm
         ·exact hl.elim
       ·exact hl.elim
      ·exact hl.elim
     ·exact hl.elim
    ·exact hl.elim
   ·exact hl.elim
  ·exact hl.elim
 ·exact hl.elim
theorem IU (hc:Dg P cx) (h:AW E s a.tmps W) (hv:Ae s v) {t:TypeId} {len:Nat} {parts:Array (Nat×Operand)} (ho:o.op = .buildSlice t len parts) (hd:∀ d,o.dst=some d→d<a.tmps.size) (hl:(AB cx v o s).leads ws):Bc P E o a W.w (s.app ws):=by
 simp only [AB,ho] at hl
 split at hl
 ·rename_i ty d ht hds
  split at hl
  ·exact hl.elim
  ·rename_i hag
   split at hl
   ·rename_i t' e hls
    split at hl
    ·rename_i hcond
     simp only [Bool.and_eq_true,beq_iff_eq,decide_eq_true_eq] at hcond
     obtain ⟨hlen,hsmall⟩:=hcond
     obtain ⟨hund,hel⟩:=(Cg hc ht hls (by simpa using hag):GK P t (.sl t' e))
     obtain ⟨i,hi,hsz,hby,z,hz,hzc⟩:=hel.info
     cases hlend:D3 s e parts.toList with
     | some q =>
      obtain ⟨x,c⟩:=q
      rw [hlend] at hl
      dsimp only at hl
      have hps:parts.toList=[(0,x)]∧∃ g as,s.Ap x = .v g as∧Cb as=some c:=by
       unfold D3 at hlend
       split at hlend
       ·cases hlend
       ·split at hlend
        ·rename_i x' hx'
         split at hlend
         ·rename_i g as hopd
          split at hlend
          ·rename_i c' hc'
           injection hlend with hlend
           injection hlend with e1 e2
           subst e1;subst e2
           exact ⟨hx',g,as,hopd,hc'⟩
          ·cases hlend
         ·cases hlend
        ·cases hlend
      obtain ⟨hps,g,as,hopd,hnf⟩:=hps
      obtain ⟨u,w',hrun,W',hW',hrep⟩:=NI (P:=P) h hv hund hel (E3 hnf) hopd (by have:=BG h x;rw [hopd] at this;exact this) hsmall (by rw [hlen, ← Array.length_toList,hps];rfl) hl (parts:=parts) hps
      refine Be h hds ?_ hW' hrep
      unfold execOp
      simp only [ho,Sem.run_bind,hrun,Result.andThen_ok]
      rfl
     | none =>
     rw [hlend] at hl
     dsimp only at hl
     obtain ⟨ys,us,os,hl,hes⟩:=He (P:=P) h hv _ _ hl
     split at hl
     ·have hl:_=ws:=hl
      have hyl:ys.length=len:=by rw [hes.len,hlen];simp
      have hparts:∀ (m:Nat) (x:Operand) (i:Nat),parts.toList[m]? = some (i,x)→i=0+m∧(a.eval x).cells.size=e.n:=by
       intro m x i hm
       have hm':m<ys.length:=by rw [hes.len];exact (List.getElem?_eq_some_iff.1 hm).1
       obtain ⟨x',h1,h2,_⟩:=hes.el m hm'
       rw [hm] at h1;injection h1 with h1;injection h1 with h1 h1';subst h1'
       exact ⟨h1,h2⟩
      obtain ⟨arr,hf,hasz,_,hget⟩:=FD (e:=e) a.eval parts.toList 0 (madeCells z.cells (len * e.n)) hparts (by rw [size_madeCells,hlen];simp)
      rw [size_madeCells] at hasz
      have hrun:=EY (P:=P) (w:=W.w) (t:=t) (len:=len) (parts:=parts.map fun (i,x)=>(i,a.eval x)) (arr:=arr) hund hi hz (by rw [hsz];exact hsmall) (by rw [hsz,Array.toList_map];exact hf)
      have hels:B3 e 2 (W.w.alloc (.cells arr t')) W.fz (fun k=>arr[0+k]?) ys os:=by
       intro m hm
       obtain ⟨x,h1,h2,h3⟩:=hes.el m hm
       have h4:e.rd 2 (W.w.alloc (.cells arr t')) W.fz (fun j=>(a.eval x).cells[j]?) ys[m] (os m):=Ls.AJ e h3 (fun b hb=>A9 _ _ (by
        rcases hb with hb | hb
        ·obtain ⟨r,j,_,h5⟩:=hes.OK m b hb;exact (h.sep.own _ b h5).2.1
        ·exact (h.sep.fz b hb).1)) fun _ hb=>hb
       refine Ls.BE e h4 fun j hj => ?_
       have:=hget m _ x h1 j hj
       simp only [Nat.zero_add] at this ⊢
       exact this
      have hrow:=Gc (w:=W.w.alloc (.cells arr t')) (ad:=⟨W.w.heap.size,0,none⟩) (c:=len) (fr:=(0,0)) (T:=t') (heap_alloc_new _ _) rfl (by intro j _;simp) (by simp [hasz]) (by omega) hels
      obtain ⟨W',hW',hrep⟩:=h.Cl hv us (hd d hds) (t0:=t') (Ea h _) (fun b hb _=>A9 _ _ (by have:=h.sep.size;omega)) (by rw [Ac];omega) ⟨rfl,rfl,rfl⟩ hrow
       (List.nodup_cons.2 ⟨fun hin=>by
        obtain ⟨m,_,hb⟩:=List.mem_flatMap.1 hin
        obtain ⟨r,j,_,h5⟩:=hes.OK m _ hb;exact absurd (h.sep.own _ _ h5).2.1 (Nat.lt_irrefl _),D4 hes.Ou hes.Ol _⟩)
       (fun b hb=>by
        rcases List.mem_cons.1 hb with rfl | hb
        ·exact .inr ⟨Nat.le_refl _,by rw [Ac];exact Nat.lt_succ_self _⟩
        ·obtain ⟨m,_,hb⟩:=List.mem_flatMap.1 hb;exact .inl (hes.OK m b hb))
      rw [← hl]
      refine Be h hds ?_ hW' hrep
      rw [hyl]
      unfold execOp
      simp only [ho,Sem.run_bind,hrun,Result.andThen_ok]
      rfl
     ·exact hl.elim
    ·exact hl.elim
   ·exact hl.elim
 ·exact hl.elim
end
end Go.Ev
namespace Go.Ev
set_option linter.unusedVariables false
set_option linter.unusedSimpArgs false
section
variable {P:Program} {E:Cq} {s:St} {W:Wd} {o:Oper} {a:Act} {ws:List Wr} {cx:Cx} {v:Nat} {tm:Array Value}
theorem C5 {t:TypeId} {x y:Operand} (ho:o.op = .store t x y) (hdst:o.dst=none) {ad:Addr} (hx:a.eval x = .pointer (some ad)) {i:TypeInfo} (hi:P.info? t=some i) (hsz:(a.eval y).cells.size=i.size) {W':Wd}
  (hrun:(storeCells ad (a.eval y).cells.toList).run P W.w = .ok () W'.w) {s':St} (hr:AW E s' a.tmps W'):Bc P E o a W.w s':=by
 intro next Q hn
 have hst:(storeVar t ad (a.eval y)).run P W.w = .ok () W'.w:=by simp [storeVar,sizeOf,typeInfo,hi,hsz,hrun]
 unfold Oper.wp execOp
 simp only [ho,hx,Instr.storeAt,Instr.sureAddr,Sem.run_bind,Sem.run_pure,Result.andThen_ok,hst]
 show next (a.put o.dst Go.undef) W'.w
 rw [hdst]
 exact hn _ W' rfl hr
theorem J2 {α β:Type} {f:α→Option β}:∀ {l:List α} {r:List β},l.mapM f=some r→r.length=l.length
 | [],r,hr=>by simp at hr;subst hr;rfl
 | b::l,r,hr=>by
  simp only [List.mapM_cons,Option.bind_eq_bind,Option.pure_def] at hr
  cases hb:f b with
  | none=>simp [hb] at hr
  | some c =>
   cases hr':l.mapM f with
   | none=>simp [hb,hr'] at hr
   | some cs =>
    simp [hb,hr'] at hr
    subst hr
    simp [J2 hr']
theorem LM (hc:Dg P cx) (h:AW E s a.tmps W) (hv:Ae s v) {t:TypeId} {x y:Operand} (ho:o.op = .store t x y) {c:Loc} {g:Bool} {as:List LA} {ty:Ty} {fs wt:List Wr} (ht:cx.ty t=some ty) (h1:AR s W (.Bm c) (a.eval x)) (h2:BY s W (.v g as) (a.eval y)) (hcp:∃ q,c.p=[q])
  (hl:(s.Cy v c ty.ls.kinds as fun ws=>match o.dst with
   | none => .go (fs++ws)
   | some _ => .none).leads wt):∃ ws,wt=fs++ws∧Bc P E o a W.w (s.app ws):=by
 obtain ⟨i,hi,hsz,_⟩:=(hc t ty ht).info
 obtain ⟨p0,hp0⟩:=hcp
 unfold St.Cy at hl
 split at hl
 ·rename_i AA gen t0 e0 xs0 hleaf
  split at hl
  ·rename_i hcond
   simp only [Bool.and_eq_true,beq_iff_eq] at hcond
   obtain ⟨rfl,hall⟩:=hcond
   obtain ⟨vs,hl,hvl,hvm,hvs⟩:=Ek h (g:=A7 g (a.eval y)) (fun j b hj=>B8 h2 j b hj) hl
   have hroots:as.flatMap LA.roots=[]:=by
    have:∀ l:List LA,l.all Nv=true→l.flatMap LA.roots=[]:=by
     intro l
     induction l with
     | nil=>intro _;rfl
     | cons b l ih =>
      intro hb
      simp only [List.all_cons,Bool.and_eq_true] at hb
      rw [List.flatMap_cons,ih hb.2]
      cases b <;> first | rfl | cases hb.1
    exact this as hall
   have hcells:=Br h2 fun j b hj=>by
    have hlt:j<vs.length:=by rw [hvl];exact (List.getElem?_eq_some_iff.1 hj).1
    obtain ⟨u,hu,hr⟩:=hvs j vs[j] (List.getElem?_eq_getElem hlt)
    exact ⟨u,hu,L.Db _ hr⟩
   have hlen:vs.length=ty.ls.n:=by rw [← BB, ← hvm];simp
   have hread:∀ (m:Nat) (lv:Lv),vs[m]? = some lv→∃ u,(a.eval y).cells.toList[m]? = some u∧lv.l.rd 0 W.w W.fz u lv.x []:=by
    intro m lv hm
    obtain ⟨u,hu,hr⟩:=hvs m lv hm
    have hlt:m<as.length:=by rw [← hvl];exact (List.getElem?_eq_some_iff.1 hm).1
    have:=hcells.2 m hlt
    rw [hu] at this
    refine ⟨u,by simpa using this,L.AJ lv.l hr (fun _ _=>rfl) fun b hb => ?_⟩
    rcases hb with hb | ⟨r,hr,_⟩
    ·exact hb
    ·rw [hroots] at hr;cases hr
   have hone:∀ u∈(a.eval y).cells.toList,u.oneCell'=true:=by
    intro u hu
    obtain ⟨m,hm⟩:=List.getElem?_of_mem hu
    have hlt:m<vs.length:=by rw [hvl, ← hcells.1];simpa using (List.getElem?_eq_some_iff.1 hm).1
    obtain ⟨u',hu',hr⟩:=hread m vs[m] (List.getElem?_eq_getElem hlt)
    rw [hm] at hu';injection hu' with hu';subst hu'
    exact L.Db _ hr
   split at hl
   ·rename_i f hf
    split at hl
    ·rename_i hdst
     have hl:_=wt:=hl
     obtain ⟨q,i0,off,h',e',ad,n,k,hs,hcv,hnav,hspot,hi0,hu⟩:=h1 gen _ _ _ _ hleaf (.inl (by rw [hp0];simp))
     rw [hp0] at hs
     simp only [Aj,Option.some.injEq,Prod.mk.injEq] at hs
     obtain ⟨rfl,rfl,rfl⟩:=hs
     obtain ⟨rfl,rfl⟩:=hnav
     obtain ⟨u',hu',hrd⟩:=(h.roots c.r).row hleaf
     rw [hcv] at hu';injection hu' with hu';subst hu'
     have hno:∀ b∈W.om (.lf c.r c.j),¬ W.fz b:=fun b hb=>(h.sep.own _ b hb).1
     rw [hp0] at hf
     obtain ⟨hsp,arr,T,fr,hh,hbare,hbnd,hin,hput0⟩:=LS (by simp [hcells.1,hvl]) hread hi0 hf hrd (h.sep.nodup _) hno
     obtain ⟨w',hrun,hput⟩:=DR (P:=P) (o:=ad.off+(p0.1 * e'.n+p0.2)) (a.eval y).cells.toList hh hbare hbnd hone
     have hrep:=h.JR hv hleaf hcv (hput0 w' hput) (fun b hb=>hput.CG b fun e=>hb (e ▸ hin)) hput.size hput.rest
     exact ⟨_,hl.symm,C5 ho hdst hu hi (by rw [hcells.1, ← hvl,hlen,hsz]) (W':={ W with w:=w' }) hrun hrep⟩
    ·exact hl.elim
   ·exact hl.elim
  ·exact hl.elim
 ·exact hl.elim
theorem Gk (hc:Dg P cx) (h:AW E s a.tmps W) (hv:Ae s v) {t:TypeId} {x y:Operand} (ho:o.op = .store t x y) {q:LA} {g:Bool} {as:List LA} {ty:Ty} {fs wt:List Wr} (ht:cx.ty t=some ty) (h1:AR s W q (a.eval x)) (h2:BY s W (.v g as) (a.eval y)) (hva:v∉(AV.v g as).AH)
  (hl:(GI cx v s o.dst q ty.ls.kinds as fs).leads wt):∃ ws,wt=fs++ws∧Bc P E o a W.w (s.app ws):=by
 obtain ⟨i,hi,hsz,_⟩:=(hc t ty ht).info
 unfold GI at hl
 unfold St.GJ at hl
 split at hl
 ·rename_i r j AA
  split at hl
  ·rename_i hcond
   simp only [Bool.and_eq_true,beq_iff_eq,decide_eq_true_eq,BB] at hcond
   obtain ⟨⟨hb,hver⟩,hfit⟩:=hcond
   obtain ⟨bs,us,os,hl,hblen,halen,hnd,hbx,hdis,hbig,hbs⟩:=Ec (v:=v) h (g:=A7 g (a.eval y)) (fun j b hj=>⟨fun hin=>hva (List.mem_flatMap.2 ⟨b,List.mem_of_getElem? hj,hin⟩),B8 h2 j b hj⟩) hl
   rw [BB] at halen
   split at hl
   ·rename_i hdst
    have hl:_=wt:=hl
    have hcells:=Br h2 fun j b hj=>by
     have hlt:j<bs.length:=by rw [hblen];exact (List.getElem?_eq_some_iff.1 hj).1
     obtain ⟨u,hu,hr⟩:=hbs j bs[j] (List.getElem?_eq_getElem hlt)
     exact ⟨u,hu,hr.1⟩
    obtain ⟨_,hbox⟩:=h.roots r
    rw [if_pos hb] at hbox
    obtain ⟨_,arr,T,fr,hh,hbare,hasz,_⟩:=hbox
    have hone:∀ u∈(a.eval y).cells.toList,u.oneCell'=true:=by
     intro u hu
     obtain ⟨m,hm⟩:=List.getElem?_of_mem hu
     have hlt:m<bs.length:=by rw [hblen, ← hcells.1];simpa using (List.getElem?_eq_some_iff.1 hm).1
     obtain ⟨u',hu',hr⟩:=hbs m bs[m] (List.getElem?_eq_getElem hlt)
     have:=hcells.2 m (by omega)
     rw [hu'] at this
     have h3:(a.eval y).cells[m]? = some u:=by simpa using hm
     rw [this] at h3;injection h3 with h3;subst h3;exact hr.1
    obtain ⟨w',hrun,hput⟩:=DR (P:=P) (o:=j) (a.eval y).cells.toList hh hbare (by simp [hcells.1];omega) hone
    obtain ⟨W',hW',hrep⟩:=h.KH hv (j:=j) hb (us:=us) (bs:=bs) (os:=os) (cells:=(a.eval y).cells.toList) (by simp [hcells.1,hblen]) (by omega)
     (fun m b hm=>by
      obtain ⟨u,hu,ht⟩:=hbs m b hm
      refine ⟨u, ?_,ht⟩
      have hlt:m<bs.length:=(List.getElem?_eq_some_iff.1 hm).1
      have:=hcells.2 m (by omega)
      rw [hu] at this;simpa using this) hdis (fun m hm=>hbig m (by omega)) hh hput
    refine ⟨_,hl.symm, ?_⟩
    exact C5 ho hdst (h1 hb hver) hi (by rw [hcells.1,halen,hsz]) (by rw [hW'];exact hrun) hrep
   ·exact hl.elim
  ·exact hl.elim
 ·rename_i c
  split at hl
  ·rename_i hall
   obtain ⟨vs,hl,hvl,hvm,hvs⟩:=Ek h (g:=A7 g (a.eval y)) (fun j b hj=>B8 h2 j b hj) hl
   have hcells:=Br h2 fun j b hj=>by
    have hlt:j<vs.length:=by rw [hvl];exact (List.getElem?_eq_some_iff.1 hj).1
    obtain ⟨u,hu,hr⟩:=hvs j vs[j] (List.getElem?_eq_getElem hlt)
    exact ⟨u,hu,L.Db _ hr⟩
   have hlen:vs.length=ty.ls.n:=by rw [← BB, ← hvm];simp
   have hplain:Plain W.w W.fz vs (a.eval y).cells.toList:=by
    refine ⟨by simp [hcells.1,hvl],fun m lv hm => ?_⟩
    have hns:Bw lv.l=false:=by
     have hmem:lv.l∈ty.ls.kinds:=by rw [← hvm];exact List.mem_map.2 ⟨lv,List.mem_of_getElem? hm,rfl⟩
     simpa using List.all_eq_true.1 hall _ hmem
    obtain ⟨u,hu,hr⟩:=hvs m lv hm
    refine ⟨hns,u, ?_,fun d w' fz'=>(L.AZ lv.l hns hr).1⟩
    have hlt:m<as.length:=by rw [← hvl];exact (List.getElem?_eq_some_iff.1 hm).1
    have:=hcells.2 m hlt
    rw [hu] at this;simpa using this
   have hone:∀ u∈(a.eval y).cells.toList,u.oneCell'=true:=by
    intro u hu
    obtain ⟨m,hm⟩:=List.getElem?_of_mem hu
    have hlt:m<vs.length:=by rw [← hplain.1];exact (List.getElem?_eq_some_iff.1 hm).1
    obtain ⟨_,u',hu',hr⟩:=hplain.2 m vs[m] (List.getElem?_eq_getElem hlt)
    rw [hm] at hu';injection hu' with hu';subst hu'
    exact L.Db _ (hr 0 W.w W.fz)
   split at hl
   ·rename_i ws' hset
    split at hl
    ·rename_i hdst
     have hl:_=wt:=hl
     unfold St.KD at hset
     split at hset
     ·rename_i AA gen t0 e0 xs0 d0 hleaf
      split at hset
      ·rename_i hcond
       simp only [Bool.and_eq_true,Bool.or_eq_true,beq_iff_eq,decide_eq_true_eq] at hcond
       obtain ⟨⟨⟨rfl,hg⟩,hd0⟩,hpl⟩:=hcond
       split at hset
       ·rename_i f hf
        injection hset with hset
        subst hset
        obtain ⟨q,i0,off,h',e',ad,n,k,hs,hcv,hnav,hspot,hi0,hu⟩:=h1 gen _ _ _ _ hleaf hg
        obtain ⟨u',hu',hrd⟩:=(h.roots c.r).row hleaf
        rw [hcv] at hu';injection hu' with hu';subst hu'
        have hno:∀ b∈W.om (.lf c.r c.j),¬ W.fz b:=fun b hb=>(h.sep.own _ b hb).1
        obtain ⟨hsp,arr,T,fr,hh,hbare,hbnd,hin,hput0⟩:=Ks hplain hi0 c.p q hf hrd (h.sep.nodup _) hno hd0 hpl hs hnav
        obtain ⟨w',hrun,hput⟩:=DR (P:=P) (o:=ad.off+(i0 * e'.n+off)) (a.eval y).cells.toList hh hbare hbnd hone
        have hrep:=h.JR hv hleaf hcv (hput0 w' hput) (fun b hb=>hput.CG b fun e=>hb (e ▸ hin)) hput.size hput.rest
        exact ⟨_,hl.symm,C5 ho hdst hu hi (by rw [hcells.1, ← hvl,hlen,hsz]) (W':={ W with w:=w' }) hrun hrep⟩
       ·cases hset
      ·cases hset
     ·cases hset
    ·exact hl.elim
   ·exact hl.elim
  ·split at hl
   ·rename_i p0 hp0
    split at hl
    ·exact LM hc h hv ho ht h1 h2 ⟨p0,hp0⟩ hl
    obtain ⟨bs,us,os,hl,hblen,halen,hnd,hbx,hdis,hbig,hbs⟩:=Ec (v:=v) h (g:=A7 g (a.eval y)) (fun j b hj=>⟨fun hin=>hva (List.mem_flatMap.2 ⟨b,List.mem_of_getElem? hj,hin⟩),B8 h2 j b hj⟩) hl
    rw [BB] at halen
    split at hl
    ·rename_i hall
     split at hl
     ·rename_i lvs hlvs
      have hlvs:bs.mapM FC=some lvs:=hlvs
      have hlen:lvs.length=bs.length:=J2 hlvs
      split at hl
      ·rename_i AA gen t0 e0 xs0 hleaf
       split at hl
       ·rename_i hver
        have hver:AA=c.AA:=by simpa using hver
        subst hver
        split at hl
        ·rename_i f hf
         split at hl
         ·rename_i hdst
          have hl:_=wt:=hl
          have hcells:=Br h2 fun j b hj=>by
           have hlt:j<bs.length:=by rw [hblen];exact (List.getElem?_eq_some_iff.1 hj).1
           obtain ⟨u,hu,hr⟩:=hbs j bs[j] (List.getElem?_eq_getElem hlt)
           exact ⟨u,hu,hr.1⟩
          have hone:∀ u∈(a.eval y).cells.toList,u.oneCell'=true:=by
           intro u hu
           obtain ⟨m,hm⟩:=List.getElem?_of_mem hu
           have hlt:m<bs.length:=by rw [hblen, ← hcells.1];simpa using (List.getElem?_eq_some_iff.1 hm).1
           obtain ⟨u',hu',hr⟩:=hbs m bs[m] (List.getElem?_eq_getElem hlt)
           have:=hcells.2 m (by omega)
           rw [hu'] at this
           have h3:(a.eval y).cells[m]? = some u:=by simpa using hm
           rw [this] at h3;injection h3 with h3;subst h3;exact hr.1
          obtain ⟨q,i0,off,h',e',ad,n,k,hs,hcv,hnav,hspot,hi0,hu⟩:=h1 gen _ _ _ _ hleaf (.inl (by rw [hp0];simp))
          rw [hp0] at hs
          simp only [Aj,Option.some.injEq,Prod.mk.injEq] at hs
          obtain ⟨rfl,rfl,rfl⟩:=hs
          obtain ⟨rfl,rfl⟩:=hnav
          obtain ⟨u',hu',hrd⟩:=(h.roots c.r).row hleaf
          rw [hcv] at hu';injection hu' with hu';subst hu'
          have hus:(c.r,c.j)∉us:=fun hin=>by
           have:=List.all_eq_true.1 hall _ hin
           simp at this
          have hfromU:∀ m,∀ b∈os m,∃ r j,(r,j)∈us∧b∈W.om (.lf r j):=by
           intro m b hb
           by_cases hm:m<bs.length
           ·obtain ⟨u,_,ht⟩:=hbs m bs[m] (List.getElem?_eq_getElem hm)
            exact ht.2.2.1 b hb
           ·rw [hbig m (by omega)] at hb;cases hb
          have hk:GL os (W.om (.lf c.r c.j)):=by
           refine ⟨fun m => ?_,hdis,fun m b hb hb' => ?_⟩
           ·by_cases hm:m<bs.length
            ·obtain ⟨u,_,ht⟩:=hbs m bs[m] (List.getElem?_eq_getElem hm)
             exact ht.2.1
            ·rw [hbig m (by omega)];exact List.nodup_nil
           ·obtain ⟨r,j,hin,hb2⟩:=hfromU m b hb
            exact h.sep.A6 (.lf r j) (.lf c.r c.j) (fun e=>by injection e with e1 e2;subst e1;subst e2;exact hus hin) b hb2 hb'
          have hkz:∀ m,∀ b∈os m,¬ W.fz b:=fun m b hb=>by
           obtain ⟨r,j,_,hb2⟩:=hfromU m b hb
           exact (h.sep.own _ b hb2).1
          have hno:∀ b∈W.om (.lf c.r c.j),¬ W.fz b:=fun b hb=>(h.sep.own _ b hb).1
          have hp:∀ (m:Nat) (lv:Lv),lvs[m]? = some lv→∃ u,(a.eval y).cells.toList[m]? = some u∧lv.l.rd 2 W.w W.fz u lv.x (os m):=by
           intro m lv hm
           have hlt:m<bs.length:=by rw [← hlen];exact (List.getElem?_eq_some_iff.1 hm).1
           obtain ⟨y',hy',hy''⟩:=Fl hlvs m bs[m] (List.getElem?_eq_getElem hlt)
           rw [hm] at hy'';injection hy'' with hy'';subst hy''
           obtain ⟨u,hu2,ht⟩:=hbs m bs[m] (List.getElem?_eq_getElem hlt)
           have:=hcells.2 m (by omega)
           rw [hu2] at this
           exact ⟨u,by simpa using this,Ia ht hy'⟩
          rw [hp0] at hf
          obtain ⟨hsp,arr,T,fr,hh,hbare,hbnd,hin,o',hnd',hfrom,hput0⟩:=MN (by simp [hcells.1];omega) hp (fun m hm=>hbig m (by omega)) hi0 hf hrd (h.sep.nodup _) hno hk hkz
          obtain ⟨w',hrun,hput⟩:=DR (P:=P) (o:=ad.off+(p0.1 * e'.n+p0.2)) (a.eval y).cells.toList hh hbare hbnd hone
          have hrep:=h.Lj hv hleaf hcv hus hin (fun b hb=>hput.CG b hb) hput.size hput.rest hnd' (fun b hb=>(hfrom b hb).imp id fun ⟨m,hb⟩=>hfromU m b hb) (hput0 w' hput)
          refine ⟨_,hl.symm, ?_⟩
          exact C5 ho hdst hu hi (by rw [hcells.1,halen,hsz]) (W':=Ib W w' c.r c.j o' us) hrun hrep
         ·exact hl.elim
        ·exact hl.elim
       ·exact hl.elim
      ·exact hl.elim
     ·exact hl.elim
    ·exact hl.elim
   ·exact hl.elim
 ·exact hl.elim
end
end Go.Ev
namespace Go.Ev
set_option linter.unusedVariables false
set_option linter.unusedSimpArgs false
theorem NU {s:St} {r:Nat} (h:s.ro.length≤r):(s.root r).ls=[]:=by
 have:s.root r=dead:=A3 _ h
 rw [this];rfl
theorem DK (s:St) (r j:Nat):∀ (rs:List Nat) (a:LA),(a=s.leaf r j∨a=BF (s.leaf r j)) →
  (rs.map fun r=>(⟨r,0,(s.root r).ls.map BF⟩:Up)).foldl (fun a u=>if r=u.r∧u.lo≤j∧j<u.lo+u.news.length then nth .bad u.news (j - u.lo) else a) a=if r∈rs then BF (s.leaf r j) else a
 | [],a,ha=>by simp
 | x::rs,a,ha=>by
  simp only [List.map_cons,List.foldl_cons,List.length_map,Nat.zero_add,Nat.sub_zero]
  by_cases hx:r=x
  ·subst hx
   rw [if_pos List.mem_cons_self]
   have hstep:(if r=r∧0≤j∧j<(s.root r).ls.length then nth .bad ((s.root r).ls.map BF) j else a)=BF (s.leaf r j)∨(s.leaf r j = .bad∧(if r=r∧0≤j∧j<(s.root r).ls.length then nth .bad ((s.root r).ls.map BF) j else a)=a):=by
    by_cases hj:j<(s.root r).ls.length
    ·left
     rw [if_pos ⟨rfl,Nat.zero_le _,hj⟩]
     unfold St.leaf
     rw [Ah,Ah,List.getElem?_map,List.getElem?_eq_getElem hj];rfl
    ·right
     exact ⟨A3 _ (Nat.le_of_not_lt hj),if_neg fun hh=>hj hh.2.2⟩
   rcases hstep with h1 | ⟨h1,h2⟩
   ·rw [h1,DK s r j rs _ (.inr rfl)]
    split <;> rfl
   ·rw [h2]
    have ha':a = .bad:=by rcases ha with ha | ha <;> rw [ha,h1] <;> rfl
    rw [DK s r j rs a ha,ha',h1]
    split <;> rfl
  ·rw [if_neg (fun hh=>hx hh.1),DK s r j rs a ha]
   simp [hx]
section
variable {P:Program} {E:Cq} {s:St} {W:Wd} {v:Nat} {tm:Array Value} {cx:Cx}
theorem GW:∀ {rs:List Nat} {ws:List Wr},Au cx s rs=some ws→ws=Ee (rs.map fun r=>⟨r,0,(s.root r).ls.map BF⟩)
 | [],ws,h=>by injection h with h;exact h.symm
 | r::rs,ws,h=>by
  simp only [Au] at h
  split at h
  ·cases h
  ·split at h
   ·rename_i ws' hws
    injection h with h;subst h
    rw [GW hws];rfl
   ·cases h
structure JY (s s':St) (W W':Wd) (rs:List Nat):Prop where
 same:Jb s s'
 w:W'.w=W.w
 cv:W'.cv=W.cv
 bk:W'.bk=W.bk
 leaf:∀ r j,r∉rs→s'.leaf r j=s.leaf r j
 OV:∀ r j,s'.leaf r j=s.leaf r j∨s'.leaf r j=BF (s.leaf r j)
 om:∀ r j,r∉rs→W'.om (.lf r j)=W.om (.lf r j)
 O8:∀ r,W'.om (.AX r)=W.om (.AX r)
 sub:∀ k,∀ b∈W'.om k,b∈W.om k
 up:∀ b,W.fz b→W'.fz b
 fz:∀ b,W'.fz b→Seen W rs b
theorem Em (h:AW E s tm W) (hv:Ae s v) {rs:List Nat} {ws:List Wr} (hf:Au cx s rs=some ws):∃ W',AW E (s.app ws) tm W'∧JY s (s.app ws) W W' rs∧∀ b,Seen W rs b→W'.fz b:=by
 rw [GW hf]
 obtain ⟨hsame,hleaf⟩:=IM (rs.map fun r=>(⟨r,0,(s.root r).ls.map BF⟩:Up)) s fun u hu=>by
  obtain ⟨r,_,rfl⟩:=List.mem_map.1 hu
  refine ⟨?_,by simp⟩
  rcases Nat.lt_or_ge r s.ro.length with hlt | hge
  ·exact .inr hlt
  ·left;simp [NU hge]
 generalize s.app (Ee (rs.map fun r=>(⟨r,0,(s.root r).ls.map BF⟩:Up)))=s' at hsame hleaf
 have hleaf:∀ r j,s'.leaf r j=if r∈rs then BF (s.leaf r j) else s.leaf r j:=fun r j=>by
  rw [hleaf,DK s r j rs _ (.inl rfl)]
 let W':Wd:={
  w:=W.w
  fz:=Seen W rs
  cv:=W.cv
  bk:=W.bk
  om:=fun k=>match k with
   | .lf r j=>if r∈rs then [] else W.om (.lf r j)
   | k=>W.om k }
 have homf:∀ r j,W'.om (.lf r j)=if r∈rs then [] else W.om (.lf r j):=fun _ _=>rfl
 have hsub:∀ k,∀ b∈W'.om k,b∈W.om k∧∀ r∈rs,∀ j,k ≠ .lf r j:=by
  intro k b hb
  cases k with
  | lf r j =>
   rw [homf] at hb
   by_cases hr:r∈rs
   ·rw [if_pos hr] at hb;cases hb
   ·rw [if_neg hr] at hb
    exact ⟨hb,fun r' hr' j' e=>by injection e with e1 e2;subst e1;exact hr hr'⟩
  | AX r=>exact ⟨hb,fun _ _ _ e=>by cases e⟩
  | fl k=>exact ⟨hb,fun _ _ _ e=>by cases e⟩
 have hsep:Sep E W':={
  nodup:=by
   intro k
   cases k with
   | lf r j=>rw [homf];split;exact List.nodup_nil;exact h.sep.nodup _
   | AX r=>exact h.sep.nodup _
   | fl k=>exact h.sep.nodup _
  A6:=fun k k' hne b hb hb'=>h.sep.A6 k k' hne b (hsub k b hb).1 (hsub k' b hb').1
  own:=fun k b hb=>by
   obtain ⟨h1,h2⟩:=hsub k b hb
   obtain ⟨q1,q2,q3⟩:=h.sep.own k b h1
   refine ⟨?_,q2,q3⟩
   rintro (hz | ⟨r,hr,j,hz⟩)
   ·exact q1 hz
   ·exact h.sep.A6 k (.lf r j) (h2 r hr j) b h1 hz
  fz:=fun b hb=>by
   rcases hb with hz | ⟨r,hr,j,hz⟩
   ·exact h.sep.fz b hz
   ·obtain ⟨_,q2,q3⟩:=h.sep.own _ b hz
    exact ⟨q2, .inr q3⟩
  frame:=h.sep.frame
  size:=h.sep.size
  rest:=h.sep.rest }
 refine ⟨W', ?_,⟨hsame,rfl,rfl,rfl,fun r j hr=>by rw [hleaf,if_neg hr],fun r j=>by rw [hleaf];split;exact .inr rfl;exact .inl rfl,fun r j hr=>by rw [homf,if_neg hr],fun _=>rfl,fun k b hb=>(hsub k b hb).1,fun b hb => .inl hb,fun b hb=>hb⟩,fun b hb=>hb⟩
 refine h.MO hv (W':=W') hsame (fun r _=>r∈rs) (fun _=>False) (fun r j hr=>by rw [hleaf,if_neg hr]) (fun _ _ _=>rfl) (fun _ _ hf=>hf.elim) (fun _=>rfl) (fun r j hr=>by rw [homf,if_neg hr]) (fun _=>rfl) (fun _ _=>rfl) (fun b hb => .inl hb) ?_ hsep ?_ (fun _ hf=>hf.elim)
 ·intro r j AA gen t e xs d hr hl hne
  rw [hleaf,if_pos hr] at hl
  refine ⟨fun hf=>hf, ?_⟩
  cases hq:s.leaf r j with
  | arr ver0 gen0 t0 e0 xs0 d0 =>
   rw [hq] at hl
   simp only [BF,LA.arr.injEq] at hl
   obtain ⟨rfl,rfl,rfl,rfl,hx,rfl⟩:=hl
   have hx:=eq_of_heq hx
   subst hx
   exact ⟨_,_,_,_,rfl,fun _=>⟨rfl,rfl⟩⟩
  | _=>rw [hq] at hl;simp [BF] at hl
 ·intro hturn r j hr
  obtain ⟨h1,_⟩:=h.roots r
  have h1:Aa s W (s.leaf r j) (W.cv r j) (W.om (.lf r j)):=h1 j
  have hvl:=LA.Dr hv r j
  rw [hleaf,if_pos hr,homf,if_pos hr]
  unfold Aa at h1 ⊢
  cases hq:s.leaf r j with
  | arr ver0 gen0 t0 e0 xs0 d0 =>
   rw [hq] at h1
   obtain ⟨u,hu,hrd⟩:=h1
   exact ⟨u,hu,hrd.freeze fun b hb=>hb.elim .inl fun hb => .inr ⟨r,hr,j,hb⟩⟩
  | _ =>
   rw [hq] at h1 hvl
   exact ⟨rfl,fun u hu=>AR.Df hturn (hvl.resolve_left (by simp [LA.CH])) (h1.2 u hu)⟩
inductive PT where
 | none
 | box (r:Nat)
 | row (l:List (Option (Loc×List Nat)))
def PT.D9:PT→List Tg
 | .none=>[]
 | .box r=>[(r,Option.none)]
 | .row l=>l.filterMap fun o=>o.map fun p=>(p.1.r,some p.1.j)
def NH (a b:Tg):Prop:=Tg.DY b a=false
def FU (s:St) (W:Wd) (d:Nat) (a:LA) (o:Option (Loc×List Nat)) (lv:Lv) (y:Value):Prop :=
 (Bw lv.l=false∧o=none∧lv.l.rd d W.w W.fz y lv.x []) ∨
 ∃ (c:Loc) (o':List Nat) (gen:Nat) (t:TypeId) (e:Ls) (xs:List e.D) (h:Value) (t':TypeId) (e':Ls) (ys:List e'.D),a = .ref c∧o=some (c,o')∧s.leaf c.r c.j = .arr c.AA gen t e xs d∧(c.p≠[]→d=2)∧W.cv c.r c.j=some h∧JV W.w c.p e h e' y ∧
  lv=⟨.sl t' e',ys⟩∧AD e' d W.w W.fz y ys o'∧(∀ b∈o',b∈W.om (.lf c.r c.j))∧o'.Nodup
def G6 (s:St) (W:Wd) (pm:PM) (av:AV) (tg:PT) (u:Value) (vs:List Lv):Prop:=match pm with
 | .val g ls=>tg = .none∧Gl W.w (Seen W av.roots) g (ls.map fun l=>(l,0)) u vs fun _=>[]
 | .box ls=>∃ r AA,av = .v false [.ptr r 0 AA]∧tg = .box r∧(s.root r).box=true∧(s.root r).ls.length=ls.length∧u = .pointer (some ⟨W.bk r,0,none⟩)∧vs.map (·.l)=ls.map (·.1) ∧
   ∀ (j:Nat) (p:L×Nat) (lv:Lv) (y:Value),ls[j]? = some p→vs[j]? = some lv→W.cv r j=some y→lv.l.rd p.2 W.w W.fz y lv.x (W.om (.lf r j))
 | .row g ls=>∃ as l,av = .v g as∧tg = .row l∧as.length=ls.length∧l.length=ls.length∧vs.map (·.l)=ls.map (·.1)∧(match g with
   | true=>∃ cs:Array Value,u = .agg cs∧cs.size=ls.length
   | false=>ls.length=1)∧∀ (j:Nat) (p:L×Nat) (a:LA) (lv:Lv) (o:Option (Loc×List Nat)),ls[j]? = some p→as[j]? = some a→vs[j]? = some lv→l[j]? = some o→∃ y,A7 g u j=some y∧FU s W p.2 a o lv y
 | .fn f=>tg = .none∧u = .func (.func f) #[] #[]∧vs=[]
theorem Le (h:AW E s tm W) {β:Type} {t:β} {l:L} {d:Nat} {a:LA} {y:Value} (hy:AR s W a y) {k:Lv→List Tg→Step β} (hl:(JT s l d a k).leads t) :
  ∃ (lv:Lv) (o:Option (Loc×List Nat)),(k lv (PT.row [o]).D9).leads t∧lv.l=l∧FU s W d a o lv y:=by
 have plain:Bw l=false→((s.Aw l a fun x=>k ⟨l,x⟩ []).leads t)→∃ (lv:Lv) (o:Option (Loc×List Nat)),(k lv (PT.row [o]).D9).leads t∧lv.l=l∧FU s W d a o lv y:=by
  intro hs hl
  obtain ⟨x,hl,hr⟩:=Bl h hy hl
  exact ⟨⟨l,x⟩,none,hl,rfl, .inl ⟨hs,rfl,(L.AZ l hs hr).1⟩⟩
 cases l with
 | int i=>exact plain rfl hl
 | bool=>exact plain rfl hl
 | str=>exact plain rfl hl
 | sl t0 e0 =>
  cases a with
  | ref c =>
   replace hl:(if (match s.leaf c.r c.j with
    | .arr _ _ _ _ _ dd=>dd==d&&(isNil c.p||d==2)
    | _=>false) then s.Aw (.sl t0 e0) (.ref c) fun x=>k ⟨.sl t0 e0,x⟩ [(c.r,some c.j)] else Step.none).leads t:=hl
   cases hq:s.leaf c.r c.j with
   | arr AA gen t1 e1 xs dd =>
    simp only [hq] at hl
    split at hl
    ·rename_i hcond
     simp only [Bool.and_eq_true,Bool.or_eq_true,beq_iff_eq] at hcond
     obtain ⟨hdd,hp⟩:=hcond
     subst hdd
     have hp2:c.p≠[]→dd=2:=fun hne=>hp.resolve_left fun hn=>hne (by cases hq:c.p <;> simp_all [isNil])
     simp only [St.Aw,St.content,hq] at hl
     split at hl
     ·rename_i hver
      simp only [Bool.and_eq_true,Bool.or_eq_true,beq_iff_eq] at hver
      obtain ⟨hver,hgen⟩:=hver
      subst hver
      have hgen:c.p=[]∨gen=c.gen:=hgen.imp (fun hn=>by cases hq:c.p <;> simp_all [isNil]) id
      obtain ⟨h',e',hcv,hn⟩:=hy gen _ _ _ _ hq hgen
      obtain ⟨u',hu',hrd⟩:=(h.roots c.r).row hq
      rw [hcv] at hu';injection hu' with hu';rw [← hu'] at hrd
      obtain ⟨t',ys,o',hl,hrd',hsub,hnd⟩:=Fb c.p hl hrd hn hp2 (h.sep.nodup _)
      split at hl
      ·rename_i x hx
       obtain ⟨q1,q2⟩:=L.AI hx
       cases q1
       have q2:ys=x:=q2
       subst q2
       exact ⟨⟨.sl t0 e0,ys⟩,some (c,o'),hl,rfl, .inr ⟨c,o',gen,t1,e1,xs,h',t0,e0,ys,rfl,rfl,hq,hp2,hcv,hn,rfl,hrd',hsub,hnd⟩⟩
      ·exact hl.elim
     ·exact hl.elim
    ·exact hl.elim
   | _=>simp only [hq,Bool.false_eq_true,if_false] at hl;exact hl.elim
  | _=>exact hl.elim
theorem ID (h:AW E s tm W) {β:Type} {t:β}:∀ (ls:List (L×Nat)) (as:List LA) (G:Nat→Option Value) {k:List Lv→List Tg→Step β},(∀ (j:Nat) (b:LA),as[j]? = some b→∃ y,G j=some y∧AR s W b y)→(Ep s ls as k).leads t →
  ∃ (vs:List Lv) (l:List (Option (Loc×List Nat))),(k vs (PT.row l).D9).leads t∧as.length=ls.length∧l.length=ls.length∧vs.map (·.l)=ls.map (·.1)∧(PT.row l).D9.Pairwise NH ∧
   ∀ (j:Nat) (p:L×Nat) (a:LA) (lv:Lv) (o:Option (Loc×List Nat)),ls[j]? = some p→as[j]? = some a→vs[j]? = some lv→l[j]? = some o→∃ y,G j=some y∧FU s W p.2 a o lv y
 | [],[],G,k,hg,hl=>⟨[],[],hl,rfl,rfl,rfl,List.Pairwise.nil,fun j p a lv o hp=>by simp at hp⟩
 | [],_::_,G,k,hg,hl=>hl.elim
 | _::_,[],G,k,hg,hl=>hl.elim
 | (l,d)::ls,a::as,G,k,hg,hl=>by
  obtain ⟨y,hy,hla⟩:=hg 0 a rfl
  obtain ⟨lv,o,hl,hlv,hrl⟩:=Le h hla hl
  obtain ⟨vs,lo,hl,h1,h2,h3,h4,h5⟩:=ID h ls as (fun j=>G (j+1)) (fun j b hj=>hg (j+1) b (by simpa using hj)) hl
  split at hl
  ·exact hl.elim
  ·rename_i hno
   have he:(PT.row (o::lo)).D9=(PT.row [o]).D9++(PT.row lo).D9:=by
    cases o <;> simp [PT.D9]
   refine ⟨lv::vs,o::lo,by rw [he];exact hl,by simp [h1],by simp [h2],by simp [hlv,h3], ?_, ?_⟩
   ·rw [he,List.pairwise_append]
    refine ⟨?_,h4,fun x hx z hz => ?_⟩
    ·cases o <;> simp [PT.D9]
    ·show Tg.DY z x=false
     cases hq:Tg.DY z x with
     | false=>rfl
     | true=>exact absurd (List.any_eq_true.2 ⟨x,hx,List.any_eq_true.2 ⟨z,hz,hq⟩⟩) hno
   ·intro j p a' lv' o' e1 e2 e3 e4
    cases j with
    | zero=>simp at e1 e2 e3 e4;subst e1;subst e2;subst e3;subst e4;exact ⟨y,hy,hrl⟩
    | succ j=>exact h5 j p a' lv' o' (by simpa using e1) (by simpa using e2) (by simpa using e3) (by simpa using e4)
theorem Ji (h:AW E s tm W) {β:Type} {t:β} (r:Nat):∀ (ls:List (L×Nat)) (as:List LA) (j:Nat) {k:List Lv→Step β},(∀ i b,as[i]? = some b→s.leaf r (j+i)=b)→EO ls as=true→(s.data (ls.map (·.1)) (Az r j as) k).leads t →
  ∃ vs:List Lv,(k vs).leads t∧as.length=ls.length∧vs.map (·.l)=ls.map (·.1)∧∀ (i:Nat) (p:L×Nat) (lv:Lv) (y:Value),ls[i]? = some p→vs[i]? = some lv→W.cv r (j+i)=some y→lv.l.rd p.2 W.w W.fz y lv.x (W.om (.lf r (j+i)))
 | [],[],j,k,hg,hd,hl=>⟨[],hl,rfl,rfl,fun i p lv y hp=>by simp at hp⟩
 | [],_::_,j,k,hg,hd,hl=>hl.elim
 | _::_,[],j,k,hg,hd,hl=>hl.elim
 | (l,m)::ls,b::as,j,k,hg,hd,hl=>by
  simp only [EO,Bool.and_eq_true] at hd
  obtain ⟨hdb,hd⟩:=hd
  have hb:s.leaf r j=b:=hg 0 b rfl
  obtain ⟨h1,_⟩:=h.roots r
  have h1:Aa s W (s.leaf r j) (W.cv r j) (W.om (.lf r j)):=h1 j
  rw [hb] at h1
  have fin:∀ (x:l.D),(s.data (ls.map (·.1)) (Az r (j+1) as) fun vs=>k (⟨l,x⟩::vs)).leads t→(∀ y,W.cv r j=some y→l.rd m W.w W.fz y x (W.om (.lf r j)))→∃ vs:List Lv,(k vs).leads t∧(b::as).length=((l,m)::ls).length∧vs.map (·.l)=((l,m)::ls).map (·.1) ∧
    ∀ (i:Nat) (p:L×Nat) (lv:Lv) (y:Value),((l,m)::ls)[i]? = some p→vs[i]? = some lv→W.cv r (j+i)=some y→lv.l.rd p.2 W.w W.fz y lv.x (W.om (.lf r (j+i))):=by
   intro x hl hx
   obtain ⟨vs,hl,hlen,hm,hvs⟩:=Ji h r ls as (j+1) (fun i b hi=>by have:=hg (i+1) b (by simpa using hi);rw [show j+1+i=j+(i+1) by omega];exact this) hd hl
   refine ⟨_,hl,by simp [hlen],by simp [hm],fun i p lv y hp hlv hy => ?_⟩
   cases i with
   | zero=>simp at hp hlv;subst hp;subst hlv;exact hx y hy
   | succ i =>
    have:=hvs i p lv y (by simpa using hp) (by simpa using hlv) (by rw [show j+1+i=j+(i+1) by omega];exact hy)
    rwa [show j+1+i=j+(i+1) by omega] at this
  cases b with
  | arr AA gen t0 e xs d =>
   have hdm:d=m:=by simpa using hdb
   subst hdm
   have hl:(s.Aw l (.ref ⟨r,j,AA,gen,[]⟩) fun x=>s.data (ls.map (·.1)) (Az r (j+1) as) fun vs=>k (⟨l,x⟩::vs)).leads t:=hl
   simp only [St.Aw,St.content,hb] at hl
   rw [if_pos (by simp [isNil])] at hl
   simp only [OU] at hl
   split at hl
   ·rename_i x hx
    obtain ⟨q1,q2⟩:=L.AI hx
    subst q1
    have q2:xs=x:=q2
    subst q2
    refine fin xs hl fun y hy => ?_
    obtain ⟨u,hu,hrd⟩:=h1
    rw [hy] at hu;injection hu with hu;subst hu
    exact hrd
   ·exact hl.elim
  | sc l0 x0 =>
   have hl:(s.Aw l (.sc l0 x0) fun x=>s.data (ls.map (·.1)) (Az r (j+1) as) fun vs=>k (⟨l,x⟩::vs)).leads t:=hl
   simp only [St.Aw] at hl
   split at hl
   ·rename_i x hx
    obtain ⟨q1,q2⟩:=L.AI hx
    subst q1
    have q2:x0=x:=q2
    subst q2
    refine fin x0 hl fun y hy => ?_
    obtain ⟨ho,hrd⟩:=h1
    have hrd:l0.rd 0 W.w W.fz y x0 []:=hrd y hy
    rw [ho]
    simp only [Bool.or_eq_true,Bool.not_eq_true',beq_iff_eq] at hdb
    rcases hdb with hns | h0
    ·exact (L.AZ l0 hns hrd).1
    ·rw [h0];exact hrd
   ·exact hl.elim
  | _=>cases hdb
theorem BA:∀ (ms:List Nat) (t:Nat),has ms t=true↔t∈ms
 | [],t=>by simp [has]
 | m::ms,t=>by
  show (m==t||has ms t)=true↔_
  rw [Bool.or_eq_true,BA ms t,List.mem_cons,beq_iff_eq]
  exact ⟨fun h=>h.imp Eq.symm id,fun h=>h.imp Eq.symm id⟩
theorem I6 (h:AW E s tm W) {β:Type} {t:β}:∀ (ps:List PM) (avs:List AV) (us:List Value) {k:List Lv→List Tg→Step β},us.length=avs.length→(∀ (i:Nat) (av:AV) (u:Value),avs[i]? = some av→us[i]? = some u→BY s W av u)→(Am s ps avs k).leads t →
  ∃ (vss:List (List Lv)) (T:List PT),(k vss.flatten (T.flatMap PT.D9)).leads t∧avs.length=ps.length∧vss.length=ps.length∧T.length=ps.length∧(T.flatMap PT.D9).Pairwise NH ∧
   ∀ (i:Nat) (pm:PM) (av:AV) (u:Value) (vs:List Lv) (tg:PT),ps[i]? = some pm→avs[i]? = some av→us[i]? = some u→vss[i]? = some vs→T[i]? = some tg→G6 s W pm av tg u vs
 | [],[],us,k,hlen,hav,hl=>⟨[],[],hl,rfl,rfl,rfl,List.Pairwise.nil,fun i pm av u vs tg hp=>by simp at hp⟩
 | [],_::_,us,k,hlen,hav,hl=>by simp [Am] at hl;exact hl.elim
 | pm::ps,[],us,k,hlen,hav,hl=>by cases pm <;> simp [Am] at hl <;> exact hl.elim
 | pm::ps,av::avs,[],k,hlen,hav,hl=>by simp at hlen
 | pm::ps,av::avs,u::us,k,hlen,hav,hl=>by
  have hu:BY s W av u:=hav 0 av u rfl rfl
  have hav':∀ (i:Nat) (av:AV) (u:Value),avs[i]? = some av→us[i]? = some u→BY s W av u:=fun i av' u' h1 h2=>hav (i+1) av' u' (by simpa using h1) (by simpa using h2)
  have hlen':us.length=avs.length:=by simpa using hlen
  have fin:∀ (tg:PT) (vs:List Lv) {k':List Lv→List Tg→Step β},(Am s ps avs k').leads t→G6 s W pm av tg u vs →
    (∀ (vss:List Lv) (T:List PT),(k' vss (T.flatMap PT.D9)).leads t→(k (vs++vss) (tg.D9++T.flatMap PT.D9)).leads t∧∀ x∈tg.D9,∀ z∈T.flatMap PT.D9,NH x z)→tg.D9.Pairwise NH →
    ∃ (vss:List (List Lv)) (T:List PT),(k vss.flatten (T.flatMap PT.D9)).leads t∧(av::avs).length=(pm::ps).length∧vss.length=(pm::ps).length∧T.length=(pm::ps).length∧(T.flatMap PT.D9).Pairwise NH ∧
     ∀ (i:Nat) (pm':PM) (av':AV) (u':Value) (vs:List Lv) (tg:PT),(pm::ps)[i]? = some pm'→(av::avs)[i]? = some av'→(u::us)[i]? = some u'→vss[i]? = some vs→T[i]? = some tg→G6 s W pm' av' tg u' vs:=by
   intro tg vs k' hl hok hk hpw
   obtain ⟨vss,T,hl,h1,h2,h3,h4,h5⟩:=I6 h ps avs us hlen' hav' hl
   obtain ⟨hl,hfr⟩:=hk _ _ hl
   refine ⟨vs::vss,tg::T,by rw [List.flatMap_cons];simpa using hl,by simp [h1],by simp [h2],by simp [h3], ?_, ?_⟩
   ·rw [List.flatMap_cons,List.pairwise_append]
    exact ⟨hpw,h4,hfr⟩
   ·intro i pm' av' u' vs' tg' e1 e2 e3 e4 e5
    cases i with
    | zero=>simp at e1 e2 e3 e4 e5;subst e1;subst e2;subst e3;subst e4;subst e5;exact hok
    | succ i=>exact h5 i pm' av' u' vs' tg' (by simpa using e1) (by simpa using e2) (by simpa using e3) (by simpa using e4) (by simpa using e5)
  cases pm with
  | val g ls =>
   cases av with
   | De vs=>simp only [Am] at hl;exact hl.elim
   | bx as=>simp only [Am] at hl;exact hl.elim
   | v g' as =>
    simp only [Am] at hl
    split at hl
    ·rename_i hg
     have hg:g=g':=by simpa using hg
     subst hg
     have hu:Ex s W g as u:=hu
     obtain ⟨vs,hl,hvl,hvm,hvs⟩:=Ek h (g:=A7 g u) (fun j b hj=>B8 hu j b hj) hl
     have hll:as.length=ls.length:=by rw [← hvl, ← hvm];simp
     refine fin .none vs hl ⟨rfl,by rw [hvm];simp [Function.comp_def], ?_, ?_⟩ (fun vss T hk=>⟨hk,fun x hx=>by cases hx⟩) List.Pairwise.nil
     ·cases g with
      | true=>obtain ⟨cs,hcs,hsz,_⟩:=hu;exact ⟨cs,hcs,by simp [hsz,hll]⟩
      | false =>
       cases as with
       | nil=>exact hu.elim
       | cons b bs=>cases bs with
        | nil=>simpa using hll.symm
        | cons=>exact hu.elim
     ·intro j p lv hp hlv
      obtain ⟨y,hy,hr⟩:=hvs j lv hlv
      rw [List.getElem?_map] at hp
      cases hq:ls[j]? with
      | none=>rw [hq] at hp;cases hp
      | some l =>
       rw [hq] at hp;injection hp with hp;subst hp
       exact ⟨y,hy,hr⟩
    ·exact hl.elim
  | box ls =>
   unfold Am at hl
   split at hl <;> try exact hl.elim
   ·rename_i e1 _;cases e1
   ·rename_i e1 _;cases e1
   ·rename_i ls' ps' r AA vs' e1 e2
    injection e1 with e1 e1';injection e1 with e1;subst e1;subst e1'
    injection e2 with e2 e2';subst e2;subst e2'
    split at hl
    ·rename_i hcond
     simp only [Bool.and_eq_true,beq_iff_eq] at hcond
     obtain ⟨⟨hb,hver⟩,hdeep⟩:=hcond
     obtain ⟨vs,hl,hlen2,hvm,hvs⟩:=Ji h r ls (s.root r).ls 0 (fun i b hi=>by unfold St.leaf;rw [Nat.zero_add,Ah,hi];rfl) hdeep hl
     refine fin (.box r) vs hl ⟨r,AA,rfl,rfl,hb,hlen2,hu hb hver,hvm,fun j p lv y hp hlv hy => ?_⟩ ?_ (by simp [PT.D9])
     ·have:=hvs j p lv y hp hlv (by rw [Nat.zero_add];exact hy)
      rwa [Nat.zero_add] at this
     ·intro vss T hk
      split at hk
      ·exact hk.elim
      ·rename_i hnot
       refine ⟨by simpa [PT.D9] using hk,fun x hx z hz => ?_⟩
       simp only [PT.D9,List.mem_singleton] at hx
       subst hx
       show Tg.DY z (r,none)=false
       cases hq:Tg.DY z (r,none) with
       | false=>rfl
       | true=>exact absurd (List.any_eq_true.2 ⟨z,hz,hq⟩) hnot
    ·exact hl.elim
   ·rename_i e1 _;cases e1
   ·rename_i e1 _;cases e1
  | row g ls =>
   cases av with
   | De vs=>simp only [Am] at hl;exact hl.elim
   | bx as=>simp only [Am] at hl;exact hl.elim
   | v g' as =>
    simp only [Am] at hl
    split at hl
    ·rename_i hg
     have hg:g=g':=by simpa using hg
     subst hg
     have hu:Ex s W g as u:=hu
     obtain ⟨vs,l,hl,h1,h2,h3,h4,h5⟩:=ID h ls as (A7 g u) (fun j b hj=>B8 hu j b hj) hl
     refine fin (.row l) vs hl ⟨as,l,rfl,rfl,h1,h2,h3, ?_,h5⟩ ?_ h4
     ·cases g with
      | true=>obtain ⟨cs,hcs,hsz,_⟩:=hu;exact ⟨cs,hcs,by rw [hsz,h1]⟩
      | false =>
       cases as with
       | nil=>exact hu.elim
       | cons b bs=>cases bs with
        | nil=>simpa using h1.symm
        | cons=>exact hu.elim
     ·intro vss T hk
      split at hk
      ·exact hk.elim
      ·rename_i hno
       refine ⟨hk,fun x hx z hz => ?_⟩
       show Tg.DY z x=false
       cases hq:Tg.DY z x with
       | false=>rfl
       | true=>exact absurd (List.any_eq_true.2 ⟨x,hx,List.any_eq_true.2 ⟨z,hz,hq⟩⟩) hno
    ·exact hl.elim
  | fn f =>
   unfold Am at hl
   split at hl <;> try exact hl.elim
   ·rename_i e1 _;cases e1
   ·rename_i e1 _;cases e1
   ·rename_i e1 _;cases e1
   ·rename_i e1 _;cases e1
   ·rename_i f' ps' g vs' e1 e2
    injection e1 with e1 e1';injection e1 with q1;subst q1;subst e1'
    injection e2 with e2 e2';subst e2;subst e2'
    split at hl
    ·rename_i hfg
     have hfg:f=g:=by simpa using hfg
     subst hfg
     exact fin .none [] hl ⟨rfl,hu,rfl⟩ (fun vss T hk=>⟨by simpa [PT.D9] using hk,fun x hx=>by cases hx⟩) List.Pairwise.nil
    ·exact hl.elim
end
end Go.Ev
namespace Go.Ev
set_option linter.unusedVariables false
set_option linter.unusedSimpArgs false
section
variable {P:Program} {E:Cq} {s:St} {W:Wd} {o:Oper} {a:Act} {ws:List Wr} {cx:Cx} {v:Nat} {tm:Array Value}
theorem JY.Hy {s':St} {W':Wd} {rs:List Nat} (h:JY s s' W W' rs) (hv:Ae s v):Ae s' v:=by
 refine ⟨fun t => ?_,fun r j => ?_,hv.2.2⟩
 ·have:s'.slot t=s.slot t:=by show nth _ s'.sl t=_;rw [h.same.sl];rfl
  rw [this];exact hv.1 t
 ·rcases h.OV r j with e | e
  ·rw [e];exact hv.2.1 r j
  ·rw [e]
   have:=hv.2.1 r j
   cases hq:s.leaf r j with
   | arr=>exact .inl rfl
   | _=>rw [hq] at this;exact this
theorem Ma {s s':St} (h:s'.sl=s.sl) (x:Operand):s'.Ap x=s.Ap x:=by
 cases x with
 | tmp t=>show nth _ s'.sl t=nth _ s.sl t;rw [h]
 | const c=>cases c <;> rfl
 | global g=>rfl
 | func f=>rfl
theorem MZ (hc:Dg P cx) (hft:Lt P cx.env) (h:AW E s a.tmps W) (hv:Ae s v) {t:TypeId} {x y:Operand} (ho:o.op = .store t x y) (hl:(AB cx v o s).leads ws):Bc P E o a W.w (s.app ws):=by
 simp only [AB,ho] at hl
 have h1:=Ad h x
 have h2:=BG h y
 have hva:=Fo hv y
 split at hl
 ·rename_i ty g as ht hy
  rw [hy] at h2 hva
  split at hl
  ·obtain ⟨ws0,rfl,hg⟩:=Gk hc h hv ho ht h1 h2 hva hl
   exact hg
  ·rename_i r rs hn
   split at hl
   ·rename_i fs hfs
    obtain ⟨W1,hr1,fr,_⟩:=Em h hv hfs
    have e1:(s.app fs).Ai x=s.Ai x:=by unfold St.Ai;rw [Ma fr.same.sl]
    have e2:(s.app fs).Ap y=s.Ap y:=Ma fr.same.sl y
    have k1:=Ad hr1 x
    have k2:=BG hr1 y
    rw [e1] at k1
    rw [e2,hy] at k2
    obtain ⟨ws0,rfl,hg⟩:=Gk hc hr1 (fr.Hy hv) ho ht k1 k2 hva hl
    rw [fr.w] at hg
    rw [BD]
    exact hg
   ·exact hl.elim
 ·rename_i p ht
  unfold IH at hl
  generalize hy:s.Ap y=p at hl
  split at hl
  ·rename_i g ps qs
   split at hl
   ·rename_i hf
    split at hl
    ·rename_i r j AA hx
     split at hl
     ·rename_i hdst
      split at hl
      ·rename_i hcond
       simp only [Bool.and_eq_true,beq_iff_eq,decide_eq_true_eq] at hcond
       obtain ⟨⟨hb,hver⟩,hfit⟩:=hcond
       have hl:_=ws:=hl
       obtain ⟨i,z,c,hi,hsz,_⟩:=hft t hf
       rw [hy] at h2 hva
       have h2:AR s W (.EB g ps qs) (a.eval y):=h2
       rw [hx] at h1
       have hone:(a.eval y).oneCell'=true:=by obtain ⟨bs,hu,_⟩:=h2;rw [hu];rfl
       have hcells:=Ej hone
       obtain ⟨_,hbox⟩:=h.roots r
       rw [if_pos hb] at hbox
       obtain ⟨_,arr,T,fr,hh,hbare,hasz,_⟩:=hbox
       obtain ⟨w',hrun,hput⟩:=DR (P:=P) (o:=j) (a.eval y).cells.toList hh hbare (by rw [hcells];simp;omega) (by rw [hcells];intro u hu;simp at hu;subst hu;exact hone)
       obtain ⟨W',hW',hrep⟩:=h.KH hv (j:=j) hb (us:=[]) (bs:=[.EB g ps qs]) (os:=fun _=>[]) (cells:=(a.eval y).cells.toList) (by rw [hcells];rfl) (by simpa using hfit)
        (fun m b hm=>by
         cases m with
         | zero =>
          simp at hm;subst hm
          refine ⟨a.eval y,by rw [hcells];rfl,hone,List.nodup_nil,(fun b hb=>by cases hb),rfl,h2,fun hin=>hva ?_⟩
          simpa [AV.AH] using hin
         | succ m=>simp at hm) (fun _ _ _ b hb=>by cases hb) (fun m hm=>rfl) hh hput
       have hws:ws=gone []++A4 r j [.EB g ps qs]:=hl.symm
       rw [hws]
       exact C5 ho hdst (h1 hb hver) hi (by rw [hcells,hsz];rfl) (by rw [hW'];exact hrun) hrep
      ·exact hl.elim
     ·exact hl.elim
    ·exact hl.elim
   ·exact hl.elim
  ·exact hl.elim
 ·exact hl.elim
end
end Go.Ev
