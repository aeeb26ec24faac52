/- A plain evaluator for Go's loaded code,and that it is sound;part 4. Conditions: none. -/
import Derived.Test.YtddkakpbnplbjaaDoorLib3
import Derived.Deep.LoopGhost
import Derived.Tactics
import Derived.SizedLaws
import Derived.Carry
import Derived.ChangeShapes
import Derived.RowKit
set_option linter.all false
namespace Go.Ev
theorem Eb{α γ:Type}(f:Nat→α→γ):∀(n:Nat)(xs:List α),(Kj f n xs).length=xs.length
 |_,[]=>rfl
 |n,x::xs=>by simp[Kj,Eb f (n+1) xs]
theorem Hw{α γ:Type}(f:Nat→α→γ)(d:γ)(d0:α):∀(n:Nat)(xs:List α)(i:Nat),i<xs.length→nth d (Kj f n xs) i=f (n+i) (nth d0 xs i)
 |n,[],i,h=>by simp at h
 |n,x::xs,0,h=>rfl
 |n,x::xs,i+1,h=>by simp only[Kj,nth];rw[Hw f d d0 (n+1) xs i (by simpa using h),show n+1+i=n+(i+1) by omega]
theorem GJ(ms:List Nat)(ps:List VP)(s:St)(t:Nat):(base ms ps s).slot t=if has ms t then one .bad else(s.slot t).clean (fun r=>has ms r||has (ps.flatMap VP.AO) r) fun r=>has ms r||has (ps.flatMap VP.roots) r:=by
 unfold St.slot base;by_cases h:t<s.sl.length
 ·dsimp only;rw[Hw _ _ (.v false [.bad]) 0 s.sl t h,kO]
 ·dsimp only;rw[A6 _ (by rw[Eb];omega),A6 _ (by omega)];split<;>rfl
theorem CI(ms:List Nat)(ps:List VP)(s:St)(r:Nat):(base ms ps s).root r=if has ms r then dead else s.root r:=by
 unfold St.root base;by_cases h:r<s.ro.length
 ·dsimp only;rw[Hw _ _ dead 0 s.ro r h,kO]
 ·dsimp only;rw[A6 _ (by rw[Eb];omega),A6 _ (by omega)];split<;>rfl
theorem Fl(ms:List Nat)(ps:List VP)(s:St):(base ms ps s).sl.length=s.sl.length∧(base ms ps s).ro.length=s.ro.length:=⟨Eb _ _ _,Eb _ _ _⟩
theorem Ke(m1 m2:Nat→Bool)(a:AV):∀n∈(a.clean m1 m2).AG,n∈a.AG:=by
 cases a with
 |Dp vs=>intro n hn;simp[AV.clean,one,AV.AG,LA.AG]at hn
 |bx as=>intro n hn;simp[AV.clean,one,AV.AG,LA.AG]at hn
 |v g as=>
  intro n hn;obtain⟨b,hb,hn⟩:=kA.1 (show n∈(as.map (LA.clean m1 m2)).flatMap LA.AG from hn);obtain⟨c,hc,rfl⟩:=kt.1 hb;refine kA.2 ⟨c,hc,?_⟩;cases c with
  |ref c=>simp only[LA.clean]at hn;split at hn;cases hn;exact hn
  |win c lo hi=>simp only[LA.clean]at hn;split at hn;cases hn;exact hn
  |Bl c=>simp only[LA.clean]at hn;split at hn;cases hn;exact hn
  |ptr r j AA=>simp only[LA.clean]at hn;split at hn;cases hn;exact hn
  |JJ t c=>simp only[LA.clean]at hn;split at hn;cases hn;exact hn
  |EI g ps qs=>simp only[LA.clean]at hn;split at hn;cases hn;exact hn
  |_=>exact hn
theorem Lb{cx:Cx}{m1 m2:Nat→Bool}(h1:∀r,m1 r=true→cx.FH r=false)(h2:∀r,m2 r=true→cx.lock r=false)(a:AV):C5 cx a (a.clean m1 m2):=by
 cases a with
 |Dp vs=>exact .Dp vs
 |bx as=>exact .bx as
 |v g as=>
  refine .v g as _ (by simp) fun j b hj=>⟨LA.clean m1 m2 b,by rw[kN,hj];rfl,?_⟩;cases b with
  |ref c=>simp only[LA.clean];split;exact .inr ⟨rfl,h2 _ (by assumption)⟩;exact .inl rfl
  |win c lo hi=>simp only[LA.clean];split;exact .inr ⟨rfl,h2 _ (by assumption)⟩;exact .inl rfl
  |Bl c=>simp only[LA.clean];split;exact .inr ⟨rfl,h2 _ (by assumption)⟩;exact .inl rfl
  |ptr r j AA=>simp only[LA.clean];split;exact .inr ⟨rfl,h1 _ (by assumption)⟩;exact .inl rfl
  |JJ t c=>simp only[LA.clean];split;exact .inr ⟨rfl,h2 _ (by assumption)⟩;exact .inl rfl
  |EI g ps qs=>
   simp only[LA.clean];split
   ·rename_i h;obtain⟨p,hp,hm⟩:=lK.1 h;exact .inr ⟨rfl,p,hp,h1 _ hm⟩
   ·exact .inl rfl
  |_=>exact .inl rfl
end Go.Ev
namespace Go.Ev
theorem Cl(v:Nat):∀(ls:List (Option (L×Nat))) (vs:List Lv) (j:Nat) (l:L),ls[j]?=some (some (l,0))→(nth .bad (AQ v ls vs) j).CK=false
 | [],vs,j,l,h=>by simp at h
 |none::ls,vs,0,l,h=>by simp at h
 |none::ls,vs,j+1,l,h=>Cl v ls vs j l (by simpa using h)
 |some (l',d)::ls,[],0,l,h=>rfl
 |some (l',d)::ls,[],j+1,l,h=>Cl v ls [] j l (by simpa using h)
 |some (l',d)::ls,⟨l0,x⟩::vs,0,l,h=>by
  simp at h;obtain⟨_,rfl⟩:=h;cases l0<;>rfl
 |some (l',d)::ls,x::vs,j+1,l,h=>Cl v ls vs j l (by simpa using h)
theorem JK{cx:Cx}{ms:List Nat}{ps:List VP}{r:Nat}(h1:r∉ms)(h2:r∉ps.flatMap VP.roots):(cx.in ms ps).lock r=true:=by
 have a:has ms r=false:=by cases h:has ms r;rfl;exact absurd ((BB _ _).1 h) h1
 have b:has (ps.flatMap VP.roots) r=false:=by cases h:has (ps.flatMap VP.roots) r;rfl;exact absurd ((BB _ _).1 h) h2
 simp[Cx.in,a,b]
theorem Hs{cx:Cx}{ms:List Nat}{ps:List VP}{r:Nat}(h1:r∉ms)(h2:r∉ps.flatMap VP.AO):(cx.in ms ps).FH r=true:=by
 have a:has ms r=false:=by cases h:has ms r;rfl;exact absurd ((BB _ _).1 h) h1
 have b:has (ps.flatMap VP.AO) r=false:=by cases h:has (ps.flatMap VP.AO) r;rfl;exact absurd ((BB _ _).1 h) h2
 simp[Cx.in,a,b]
structure GF(ms:List Nat)(ps:List VP)(s0 s1 σ:St)(W:Wd)(tm:Array Value)(fz:Nat→Prop)(Vn:List (List Lv)):Prop where
 len:Vn.length=ps.length
 told:∀(i:Nat)(p:VP)(vs:List Lv),ps[i]?=some p→Vn[i]?=some vs→Told s1 W tm fz p vs
 at_:∀(i:Nat)(p:VP)(vs:List Lv),ps[i]?=some p→Vn[i]?=some vs→At s0.Bp s0 σ p vs
 slot:∀t,t∉ps.flatMap VP.AO→σ.slot t=(base ms ps s0).slot t
 root:∀r,r∉ps.flatMap VP.roots→σ.root r=(base ms ps s0).root r
 l1:σ.sl.length=s0.sl.length
 l2:σ.ro.length=s0.ro.length
theorem GF.get{ms:List Nat}{ps:List VP}{s0 s1 σ:St}{W:Wd}{tm:Array Value}{fz:Nat→Prop}{Vn:List (List Lv)}(h:GF ms ps s0 s1 σ W tm fz Vn){p:VP}(hp:p∈ps):∃vs,Told s1 W tm fz p vs∧At s0.Bp s0 σ p vs:=by obtain⟨i,hi⟩:=ko hp;obtain⟨vs,hv⟩:=BA h.len (j9.1 hi).1;exact⟨vs,h.told i p vs hi hv,h.at_ i p vs hi hv⟩
def E3(W:Wd)(ps:List VP)(b:Nat):Prop:=W.fz b∨∃r j,PB ps r j∧b∈W.om (.lf r j)
theorem NN{E:Cy}{cx:Cx}{N:Nat}{ms:List Nat}{ps:List VP}{s0 s1:St}{tm:Array Value}{W:Wd}{x:(DJ ps).D}(h1:AW E s1 tm W)(r1:Be s1)(hk:Ax (cx.in ms ps) s0 s1)(hp:Cr cx ms ps=true)(hx:Aw ps s1=some x):
  ∃Vn,GF ms ps s0 s1 (Bz ms ps s0 x) W tm (E3 W ps) Vn:=by
 unfold Aw at hx;obtain⟨lvs,hl,YY⟩:=Step.C3 _ hx;obtain⟨Vn,hl,hlen,Z7⟩:=KM h1 r1 (fz:=E3 W ps) (fun b hb=>.inl hb) (fun r j hf b hb=>.inr ⟨r,j,hf,hb⟩) hl;have hl:Vn.flatten=lvs:=hl;subst hl;have Xv:=Ae _ _ _ YY;simp only[Cr,j8]at hp;obtain⟨⟨d1,d2⟩,_⟩:=hp;have XE:s1.ro.length=s1.sl.length:=by rw[h1.DM,h1.BQ]
 have V4:∀p∈ps,∃vs,Told s1 W tm (E3 W ps) p vs:=fun p hp=>by obtain⟨i,hi⟩:=ko hp;obtain⟨vs,hv⟩:=BA hlen (j9.1 hi).1;exact⟨vs,Z7 i p vs hi hv⟩
 have dF:=Gg s0.Bp s0 ps Vn (base ms ps s0) hlen (fun i p vs hi hv=>by
   have:=Z7 i p vs hi hv;cases p with
   |slot t l=>obtain⟨_,x,rfl,_⟩:=this;rfl
   |own t ty e d k=>obtain⟨_,x,rfl,_⟩:=this;rfl
   |box r ls=>exact this.2.2.1) d2 d1
  (fun t ht=>by
   rw[(Fl ms ps s0).1,←hk.l1];obtain⟨p,hp,ht⟩:=kA.1 ht;obtain⟨vs,hv⟩:=V4 p hp;cases p with
   |slot u l=>simp[VP.AO]at ht;subst ht;exact hv.1
   |own u ty e d k=>simp[VP.AO]at ht;subst ht;exact hv.1
   |box r ls=>simp[VP.AO]at ht)
  (fun t ht=>by
   rw[(Fl ms ps s0).2,←hk.l2];obtain⟨p,hp,ht⟩:=kA.1 ht;obtain⟨vs,hv⟩:=V4 p hp;cases p with
   |slot u l=>simp[VP.roots]at ht
   |own u ty e d k=>simp[VP.roots]at ht;subst ht;rw[XE];exact hv.1
   |box r ls=>simp[VP.roots]at ht;subst ht;exact Ja hv.1)
 have he:Bz ms ps s0 x=(base ms ps s0).app (B0 s0.Bp s0 ps Vn.flatten):=by unfold Bz;rw[Xv]
 rw[he];obtain⟨a,b,c⟩:=dF;exact⟨Vn,hlen,Z7,c,a,b,(CB _ _).1.trans (Fl ms ps s0).1,(CB _ _).2.trans (Fl ms ps s0).2⟩
end Go.Ev
namespace Go.Ev
section
variable {E:Cy}{cx:Cx}{N:Nat}{ms:List Nat}{ps:List VP}{s0 s1 σ:St}{tm:Array Value}{W:Wd}{Vn:List (List Lv)}
noncomputable def C6 (σ:St) (W:Wd) (ps:List VP):Wd where
 w:=W.w
 fz:=E3 W ps
 cv:=W.cv
 bk:=W.bk
 om k:=match k with
  | .lf r j=>bif(σ.leaf r j).CK then W.om (.lf r j)else []
  | .AT r=>bif(σ.root r).box then W.om (.AT r)else []
  | .fl _=>[]
theorem Em(k:Key):∀b∈(C6 σ W ps).om k,b∈W.om k:=by
 intro b hb;cases k with
 |lf r j=>
  have hb:b∈(bif(σ.leaf r j).CK then W.om (.lf r j)else []):=hb;cases h:(σ.leaf r j).CK<;>rw[h]at hb
  ·cases hb
  ·exact hb
 |AT r=>
  have hb:b∈(bif(σ.root r).box then W.om (.AT r)else []):=hb;cases h:(σ.root r).box<;>rw[h]at hb
  ·cases hb
  ·exact hb
 |fl k=>cases hb
theorem Ot{p:VP}(hp:p∈ps){r:Nat}(hr:r∈p.roots):r∈ps.flatMap VP.roots:=kA.2 ⟨p,hp,hr⟩
theorem MI(ha:GF ms ps s0 s1 σ W tm (E3 W ps) Vn){r j:Nat}(hf:PB ps r j):(σ.leaf r j).CK=false:=by obtain⟨ls,l,hm,hj⟩:=hf;obtain⟨vs,_,Wm⟩:=ha.get hm;have Wm:σ.root r=_:=Wm;unfold St.leaf;rw[Wm];exact Cl _ ls vs j l hj
theorem ML(h:AW E s1 tm W)(ha:GF ms ps s0 s1 σ W tm (E3 W ps) Vn):Sep E (C6 σ W ps) where
 nodup k:=by
  cases k with
  |lf r j=>
   show(bif(σ.leaf r j).CK then W.om (.lf r j)else []).Nodup;cases(σ.leaf r j).CK
   ·exact kE
   ·exact h.sep.nodup _
  |AT r=>
   show(bif(σ.root r).box then W.om (.AT r)else []).Nodup;cases(σ.root r).box
   ·exact kE
   ·exact h.sep.nodup _
  |fl k=>exact kE
 Av k k' Vv b hb Vz:=h.sep.Av k k' Vv b (Em k b hb) (Em k' b Vz)
 own k b hb:=by
  obtain⟨q1,q2,q3⟩:=h.sep.own k b (Em k b hb);refine⟨?_,q2,q3⟩
  rintro (hz|⟨r,j,hf,hz⟩)
  ·exact q1 hz
  ·have hk:k=.lf r j:=kg fun Vv=>h.sep.Av k _ Vv b (Em k b hb) hz;subst hk;have hb:b∈(bif(σ.leaf r j).CK then W.om (.lf r j)else []):=hb;rw[MI ha hf]at hb;cases hb
 fz b hb:=by
  rcases hb with hz|⟨r,j,_,hz⟩
  ·exact h.sep.fz b hz
  ·obtain⟨_,q2,q3⟩:=h.sep.own _ b hz;exact⟨q2,.inr q3⟩
 frame:=h.sep.frame
 size:=h.sep.size
 rest:=h.sep.rest
theorem HN(hk:Ax (cx.in ms ps) s0 s1)(hp:Cr cx ms ps=true)(ha:GF ms ps s0 s1 σ W tm (E3 W ps) Vn){r:Nat}(hb:(σ.root r).box=true):(s1.root r).box=true∧(s1.root r).AA=(σ.root r).AA∧(s1.root r).ls.length=(σ.root r).ls.length:=by
 simp only[Cr,j8]at hp;obtain⟨_,Wa⟩:=hp;by_cases hr:r∈ps.flatMap VP.roots
 ·obtain⟨p,hm,hr⟩:=kA.1 hr;obtain⟨vs,ht,Wm⟩:=ha.get hm;cases p with
  |slot t l=>simp[VP.roots]at hr
  |own t ty e d k=>
   simp[VP.roots]at hr;subst hr;obtain⟨_,xs,rfl,_⟩:=ht;have:=(Wm _ rfl).2;rw[this]at hb;cases hb
  |box q ls=>
   simp[VP.roots]at hr;subst hr;have Wm:σ.root r=_:=Wm;have h2:=kL.1 Wa _ hm;simp only[j8,kJ]at h2;have n1:r∉ms:=fun hh=>by rw[(BB _ _).2 hh]at h2;exact absurd h2.1.1 (by simp)
   have n2:r∉ps.flatMap VP.AO:=fun hh=>by rw[(BB _ _).2 hh]at h2;exact absurd h2.2 (by simp)
   obtain⟨b1,b2,b3⟩:=hk.box r (Hs n1 n2);refine⟨ht.1,?_,?_⟩
   ·rw[Wm,b2]
   ·rw[Wm];exact ht.2.1.symm.trans (BJ _ _ _).symm
 ·have XE:=ha.root r hr;rw[CI]at XE;split at XE
  ·rw[XE]at hb;cases hb
  ·rename_i aW;have n1:r∉ms:=fun hh=>aW ((BB _ _).2 hh);have:=hk.roots r (JK n1 hr);have e:s1.root r=σ.root r:=this.trans XE.symm;rw[e];exact⟨hb,rfl,rfl⟩
theorem DO(hk:Ax (cx.in ms ps) s0 s1)(hp:Cr cx ms ps=true)(ha:GF ms ps s0 s1 σ W tm (E3 W ps) Vn){a:LA}{v:Value}(hr:∀c,(a=.ref c∨(∃lo hi,a=.win c lo hi)∨a=.Bl c∨∃t,a=.JJ t c)→σ.root c.r=s1.root c.r)(hv:AP s1 W a v):AP σ (C6 σ W ps) a v:=by
 cases a with
 |bad=>trivial
 |undef=>exact hv
 |CP=>exact hv
 |JQ=>exact hv
 |sc l x=>exact L.AI l hv (fun _ _=>rfl) fun b hb=>.inl hb
 |ref c=>
  intro gen t e xs d hl hg;rw[Ak (hr c (.inl rfl))]at hl;exact hv gen t e xs d hl hg
 |win c lo hi=>
  intro gen t e xs d hl hg;rw[Ak (hr c (.inr (.inl ⟨lo,hi,rfl⟩)))]at hl;exact hv gen t e xs d hl hg
 |Bl c=>
  intro gen t e xs d hl hg;rw[Ak (hr c (.inr (.inr (.inl rfl))))]at hl;exact hv gen t e xs d hl hg
 |ptr r j AA=>
  intro hb Vu;obtain⟨b1,b2,_⟩:=HN hk hp ha hb;exact hv b1 (b2.trans Vu)
 |D8 e x off=>
  obtain⟨ad,g,arr,T,fr,W0,hz,hh,hg,Vw⟩:=hv;exact⟨ad,g,arr,T,fr,W0,.inl hz,hh,hg,Ls.AI e Vw (fun _ _=>rfl) fun b hb=>.inl hb⟩
 |fn f=>exact hv
 |JJ tt c=>
  obtain⟨u,hu,hv⟩:=hv;refine⟨u,hu,fun gen t e xs d hl hg=>?_⟩;rw[Ak (hr c (.inr (.inr (.inr ⟨tt,rfl⟩))))]at hl;exact hv gen t e xs d hl hg
 |EI g qs _=>
  obtain⟨bs,hu,hlen,hv⟩:=hv;refine⟨bs,hu,hlen,fun k p b Zz hb hx Vu=>?_⟩;obtain⟨b1,b2,_⟩:=HN hk hp ha hx;exact hv k p b Zz hb b1 (b2.trans Vu)
 |arr=>exact hv
end
end Go.Ev
namespace Go.Ev
section
variable {E:Cy}{cx:Cx}{N:Nat}{ms:List Nat}{ps:List VP}{s0 s1 σ:St}{tm:Array Value}{W:Wd}{Vn:List (List Lv)}
theorem CS{ms:List Nat}{r:Nat}(h:has ms r=false):r∉ms:=fun hh=>by rw[(BB _ _).2 hh]at h;cases h
theorem G8{ms:List Nat}{r:Nat}(h:r∉ms):has ms r=false:=by
 cases hh:has ms r with
 |false=>rfl
 |true=>exact absurd ((BB _ _).1 hh) h
theorem GG(hk:Ax (cx.in ms ps) s0 s1)(ha:GF ms ps s0 s1 σ W tm (E3 W ps) Vn){r:Nat}(h1:r∉ms)(h2:r∉ps.flatMap VP.roots):σ.root r=s1.root r:=by rw[ha.root r h2,CI,G8 h1,hk.roots r (JK h1 h2)];rfl
theorem HO(hk:Ax (cx.in ms ps) s0 s1)(hp:Cr cx ms ps=true)(ha:GF ms ps s0 s1 σ W tm (E3 W ps) Vn){a a':LA}{v:Value}(hc:FJ (cx.in ms ps) a a')(hv:AP s1 W a' v):
  AP σ (C6 σ W ps) (a.clean (fun r=>has ms r||has (ps.flatMap VP.AO) r) fun r=>has ms r||has (ps.flatMap VP.roots) r) v:=by
 have dx:∀r,¬(has ms r||has (ps.flatMap VP.roots) r)=true→(cx.in ms ps).lock r=true∧σ.root r=s1.root r:=by intro r hr;simp only[kU,not_or,Bool.not_eq_true]at hr;exact⟨JK (CS hr.1) (CS hr.2),GG hk ha (CS hr.1) (CS hr.2)⟩
 have same:∀ {b:LA},a=b→¬Hf (cx.in ms ps) b→AP s1 W b v:=by
  intro b e hd;subst e;rcases hc with rfl|⟨_,hh⟩
  ·exact hv
  ·exact absurd hh hd
 cases a with
 |ref c=>
  simp only[LA.clean];split
  ·trivial
  ·rename_i hr;obtain⟨q1,q2⟩:=dx c.r hr;refine DO hk hp ha (fun c' WS=>?_) (same rfl (by simp[Hf,q1]));rcases WS with e|⟨_,_,e⟩|e|⟨_,e⟩<;>cases e;exact q2
 |win c lo hi=>
  simp only[LA.clean];split
  ·trivial
  ·rename_i hr;obtain⟨q1,q2⟩:=dx c.r hr;refine DO hk hp ha (fun c' WS=>?_) (same rfl (by simp[Hf,q1]));rcases WS with e|⟨_,_,e⟩|e|⟨_,e⟩<;>cases e;exact q2
 |Bl c=>
  simp only[LA.clean];split
  ·trivial
  ·rename_i hr;obtain⟨q1,q2⟩:=dx c.r hr;refine DO hk hp ha (fun c' WS=>?_) (same rfl (by simp[Hf,q1]));rcases WS with e|⟨_,_,e⟩|e|⟨_,e⟩<;>cases e;exact q2
 |ptr r j AA=>
  simp only[LA.clean];split
  ·trivial
  ·rename_i hr;simp only[kU,not_or,Bool.not_eq_true]at hr;have q1:=Hs (cx:=cx) (CS hr.1) (CS hr.2);refine DO hk hp ha (fun c' WS=>?_) (same rfl (by simp[Hf,q1]));rcases WS with e|⟨_,_,e⟩|e|⟨_,e⟩<;>cases e
 |JJ t c=>
  simp only[LA.clean];split
  ·trivial
  ·rename_i hr;obtain⟨q1,q2⟩:=dx c.r hr;refine DO hk hp ha (fun c' WS=>?_) (same rfl (by simp[Hf,q1]));rcases WS with e|⟨_,_,e⟩|e|⟨_,e⟩<;>cases e;exact q2
 |EI g qs q2=>
  simp only[LA.clean];split
  ·trivial
  ·rename_i hr;refine DO hk hp ha (fun c' WS=>?_) (same rfl ?_)
   ·rcases WS with e|⟨_,_,e⟩|e|⟨_,e⟩<;>cases e
   ·rintro ⟨p,Zz,hd⟩
    refine hr (lK.2 ⟨p,Zz,?_⟩);refine kg fun hn=>?_;simp only[kU,not_or,Bool.not_eq_true]at hn;rw[Hs (cx:=cx) (CS hn.1) (CS hn.2)]at hd;cases hd
 |_=>
  refine DO hk hp ha (fun c' WS=>?_) (same rfl (fun hd=>(hd:False)));rcases WS with e|⟨_,_,e⟩|e|⟨_,e⟩<;>cases e
theorem LS(hk:Ax (cx.in ms ps) s0 s1)(hp:Cr cx ms ps=true)(ha:GF ms ps s0 s1 σ W tm (E3 W ps) Vn){a a':AV}{v:Value}(hc:C5 (cx.in ms ps) a a')(hv:BU s1 W a' v):
  BU σ (C6 σ W ps) (a.clean (fun r=>has ms r||has (ps.flatMap VP.AO) r) fun r=>has ms r||has (ps.flatMap VP.roots) r) v:=by
 have hV:∀ {g:Bool} {as Yy:List LA},Yy.length=as.length→(∀(j:Nat)(b:LA),as[j]?=some b→∃b',Yy[j]?=some b'∧FJ (cx.in ms ps) b b')→E6 s1 W g Yy v→
   E6 σ (C6 σ W ps) g (as.map (LA.clean (fun r=>has ms r||has (ps.flatMap VP.AO) r) fun r=>has ms r||has (ps.flatMap VP.roots) r)) v:=by
  intro g as Yy hlen hl hv;cases g with
  |false=>
   match as,Yy,hlen,hl,hv with
   | [b],[b'],_,hl,hv=>
    obtain⟨b2,h1,h2⟩:=hl 0 b rfl;simp at h1;subst h1;exact HO hk hp ha h2 hv
   | [],[],_,hl,hv=>exact hv.elim
   |_::_::_,_::_::_,_,hl,hv=>exact hv.elim
  |true=>
   obtain⟨cs,Xt,V7,V4⟩:=hv;refine⟨cs,Xt,by rw[V7,hlen];simp,fun j b hj=>?_⟩;rw[kN]at hj;cases hq:as[j]? with
   |none=>rw[hq]at hj;cases hj
   |some c=>
    rw[hq]at hj;injection hj with hj;subst hj
    obtain⟨c',h1,h2⟩:=hl j c hq;obtain⟨u,hu,WQ⟩:=V4 j c' h1;exact⟨u,hu,HO hk hp ha h2 WQ⟩
 cases hc with
 |same=>
  cases a with
  |Dp vs=>trivial
  |bx as=>trivial
  |v g as=>exact hV rfl (fun j b hj=>⟨b,hj,.inl rfl⟩) hv
 |v g as Yy h hl=>exact hV h hl hv
 |Dp vs=>trivial
 |bx as=>trivial
end
end Go.Ev
namespace Go.Ev
section
variable {E:Cy}{cx:Cx}{N:Nat}{ms:List Nat}{ps:List VP}{s0 s1 σ:St}{tm:Array Value}{W:Wd}{Vn:List (List Lv)}
theorem L6{a:LA}{v r j:Nat}{fz:Nat→Prop}{y:Value}{o:List Nat}(h:match a with
  | .arr AA gen t e xs d=>(AA=v∨AA=1∧∃W5 t' e' WW d',s1.leaf r j=.arr 1 W5 t' e' WW d')∧gen=v∧AD e d W.w W.fz y xs o
  | .sc l x=>l.rd 0 W.w (E3 W ps) y x []
  | .bad=>True
  |_=>False):Ab σ (C6 σ W ps) a (some y) (bif a.CK then o else []):=by
 cases a with
 |arr AA gen t e xs d=>exact⟨y,rfl,h.2.2.frame (fun _ _=>rfl) fun b hb=>.inl hb⟩
 |sc l x=>exact⟨rfl,fun u hu=>by injection hu with hu;subst hu;exact h⟩
 |bad=>exact⟨rfl,fun _ _=>trivial⟩
 |_=>exact h.elim
theorem MK(h:AW E s1 tm W)(r1:Be s1)(h2:2≤s0.Bp)(hk:Ax (cx.in ms ps) s0 s1)(hp:Cr cx ms ps=true)(ha:GF ms ps s0 s1 σ W tm (E3 W ps) Vn):AW E σ tm (C6 σ W ps) where
 DM:=by rw[ha.l1,←hk.l1,h.DM]
 BQ:=by rw[ha.l2,←hk.l2,h.BQ]
 AO t:=by
  by_cases ht:t∈ps.flatMap VP.AO
  ·obtain⟨p,hm,ht⟩:=kA.1 ht;obtain⟨vs,X3,Wm⟩:=ha.get hm;cases p with
   |slot u l=>
    simp[VP.AO]at ht;subst ht;obtain⟨_,x,rfl,hr⟩:=X3;rw[Wm _ rfl];exact L.AI l hr (fun _ _=>rfl) fun b hb=>.inl hb
   |own u ty e d k=>
    simp[VP.AO]at ht;subst ht;obtain⟨_,xs,rfl,_,WE,hr,_⟩:=X3;rw[(Wm _ rfl).1];intro gen t' e' WW d' hl hg;exact⟨_,e',WE,rfl,rfl⟩
   |box r ls=>simp[VP.AO]at ht
  ·rw[ha.slot t ht,GJ];cases aW:has ms t with
   |true=>exact trivial
   |false=>exact LS hk hp ha (hk.AO t (Hs (CS aW) ht)) (h.AO t)
 roots r:=by
  by_cases hr:r∈ps.flatMap VP.roots
  ·obtain⟨p,hm,hr⟩:=kA.1 hr;obtain⟨vs,X3,Wm⟩:=ha.get hm;cases p with
   |slot u l=>simp[VP.roots]at hr
   |own u ty e d k=>
    simp[VP.roots]at hr;subst hr;obtain⟨_,xs,rfl,X8,WE,Vw,_⟩:=X3;have XE:=(Wm _ rfl).2;refine⟨fun j=>?_,?_⟩
    ·have YP:(C6 σ W ps).om (.lf r j)=bif(nth .bad (σ.root r).ls j).CK then W.om (.lf r j)else []:=rfl;rw[YP,XE];cases j with
     |zero=>
      show Ab _ _ (CD s0.Bp d k ⟨.sl ty e,xs⟩) (W.cv r 0) (bif(CD s0.Bp d k ⟨.sl ty e,xs⟩).CK then W.om (.lf r 0)else []);rw[WE];cases d with
      |zero=>
       have:=AD.zero Vw;rw[this]at Vw;exact⟨rfl,fun u hu=>by injection hu with hu;subst hu;exact L.AI (.sl ty e) Vw (fun _ _=>rfl) fun b hb=>.inl hb⟩
      |succ d=>exact⟨_,rfl,Vw.frame (fun _ _=>rfl) fun b hb=>.inl hb⟩
     |succ j=>exact⟨rfl,fun _ _=>trivial⟩
    ·rw[XE];show(if false=true then _ else _);rw[kG (by simp)];show(bif(σ.root r).box then W.om (.AT r)else [])=[];rw[XE];rfl
   |box q ls=>
    simp[VP.roots]at hr;subst hr;have Wm:σ.root r=_:=Wm;obtain⟨X8,hlen,_,X3⟩:=X3;obtain⟨_,X7⟩:=h.roots r;rw[kF X8]at X7;obtain⟨ho,arr,T,fr,hh,a1,a2,a3⟩:=X7;refine⟨fun j=>?_,?_⟩
    ·have YP:(C6 σ W ps).om (.lf r j)=bif(nth .bad (σ.root r).ls j).CK then W.om (.lf r j)else []:=rfl;rw[YP,Wm];show Ab _ _ (nth .bad (AQ s0.Bp ls vs) j) (W.cv r j) (bif(nth .bad (AQ s0.Bp ls vs) j).CK then W.om (.lf r j)else []);cases WE:W.cv r j with
     |some y=>exact L6 (v:=s0.Bp) (fz:=E3 W ps) (X3 s0.Bp j y WE)
     |none=>
      have hj:ls.length≤j:=by rw[hlen,←a2];rw[a3 j]at WE;exact Array.getElem?_eq_none_iff.1 WE
      rw[A6 _ (by rw[BJ];exact hj)];exact⟨rfl,fun _ hu=>by cases hu⟩
    ·rw[Wm];show(if true=true then _ else _);rw[kF rfl];refine⟨?_,arr,T,fr,hh,a1,by rw[BJ,hlen];exact a2,a3⟩;show(bif(σ.root r).box then W.om (.AT r)else [])=_;rw[Wm];exact ho
  ·cases aW:has ms r with
   |true=>
    have XE:σ.root r=dead:=by rw[ha.root r hr,CI,aW];rfl
    rw[XE];refine⟨fun j=>?_,?_⟩
    ·have YP:(C6 σ W ps).om (.lf r j)=bif(nth .bad (σ.root r).ls j).CK then W.om (.lf r j)else []:=rfl;rw[YP,XE];exact⟨rfl,fun _ _=>trivial⟩
    ·show(if false=true then _ else _);rw[kG (by simp)];show(bif(σ.root r).box then W.om (.AT r)else [])=[];rw[XE];rfl
   |false=>
    have XE:=GG hk ha (CS aW) hr;rw[XE];obtain⟨q1,q2⟩:=h.roots r;refine⟨fun j=>?_,?_⟩
    ·have YP:(C6 σ W ps).om (.lf r j)=bif(nth .bad (σ.root r).ls j).CK then W.om (.lf r j)else []:=rfl;rw[YP,XE];have hq:=q1 j;show Ab _ _ _ (W.cv r j) _
     have eG:∀b,nth LA.bad (s1.root r).ls j=b→b.Ce=true:=by
      intro b hb;by_cases hj:j<(s1.root r).ls.length
      ·rw[←hb];exact r1 r _ (HB hj)
      ·rw[A6 _ (by omega)]at hb;subst hb;rfl
     generalize nth LA.bad (s1.root r).ls j=b at hq eG;have eG:=eG b rfl
     have ZU:∀v,AP s1 W b v→AP σ (C6 σ W ps) b v:=fun v hv=>DO hk hp ha (fun c hc=>by
      rcases hc with e|⟨_,_,e⟩|e|⟨_,e⟩<;>(subst e;cases eG)) hv
     cases b with
     |arr AA gen t e xs d=>
      obtain⟨u,hu,Vw⟩:=hq;exact⟨u,hu,Vw.frame (fun _ _=>rfl) fun b hb=>.inl hb⟩
     |_=>exact⟨rfl,fun u hu=>ZU u (hq.2 u hu)⟩
    ·have YP:(C6 σ W ps).om (.AT r)=bif(σ.root r).box then W.om (.AT r)else []:=rfl;rw[YP,XE];cases hb:(s1.root r).box with
     |true=>
      rw[hb]at q2;rw[kF rfl]at q2 ⊢;exact q2
     |false=>rw[kG (by simp)];rfl
 sep:=ML h ha
 init:=by
  refine⟨fun r j gen t e xs d hl=>?_,fun r hb Vu=>?_⟩
  ·by_cases hr:r∈ps.flatMap VP.roots
   ·obtain⟨p,hm,hr⟩:=kA.1 hr;obtain⟨vs,X3,Wm⟩:=ha.get hm;cases p with
    |slot u l=>simp[VP.roots]at hr
    |own u ty e' d' k=>
     simp[VP.roots]at hr;subst hr;obtain⟨_,ys,rfl,_,_,_,bW⟩:=X3;have XE:=(Wm _ rfl).2;unfold St.leaf at hl;rw[XE]at hl;cases j with
     |zero=>
      have hl:CD s0.Bp d' k ⟨.sl ty e',ys⟩=.arr 1 gen t e xs d:=hl;cases k with
      |true=>
       obtain⟨g1,t1,e1,xs1,d1,Xo⟩:=bW rfl;exact h.init.1 r 0 g1 t1 e1 xs1 d1 Xo
      |false=>
       cases d' with
       |zero=>cases hl
       |succ d'=>
        have hl:LA.arr s0.Bp s0.Bp ty e' ys (d'+1)=.arr 1 gen t e xs d:=hl;injection hl with h1;omega
     |succ j=>cases hl
    |box q ls=>
     simp[VP.roots]at hr;subst hr;have Wm:σ.root r=_:=Wm;unfold St.leaf at hl;rw[Wm]at hl;have hl:nth LA.bad (AQ s0.Bp ls vs) j=.arr 1 gen t e xs d:=hl;obtain⟨X8,hlen,_,X3⟩:=X3;obtain⟨_,X7⟩:=h.roots r;rw[kF X8]at X7;obtain⟨_,arr,T,fr,hh,a1,a2,a3⟩:=X7
     have hj:j<ls.length:=by
      rcases kq j ls.length with hj|hj
      ·exact hj
      ·rw[A6 _ (by rw[BJ];exact hj)]at hl;cases hl
     have WE:W.cv r j=some (arr[j]'(by omega)):=by rw[a3 j];exact kX _
     have:=X3 s0.Bp j _ WE;rw[hl]at this;rcases this.1 with e|⟨_,g1,t1,e1,xs1,d1,Xo⟩
     ·omega
     ·exact h.init.1 r j g1 t1 e1 xs1 d1 Xo
   ·have XE:=ha.root r hr;cases aW:has ms r with
    |true=>
     rw[CI,aW]at XE;unfold St.leaf at hl;rw[XE]at hl;cases j<;>cases hl
    |false=>
     have XE:=GG hk ha (CS aW) hr;exact h.init.1 r j gen t e xs d (by rw[←Ak XE];exact hl)
  ·obtain⟨b1,b2,_⟩:=HN hk hp ha hb;exact h.init.2 r b1 (b2.trans Vu)
end
end Go.Ev
namespace Go.Ev
section
variable {E:Cy}{cx:Cx}{N:Nat}{ms:List Nat}{ps:List VP}{s0 s1 σ:St}{tm:Array Value}{W:Wd}{Vn:List (List Lv)}
structure Open(c:Cx)(ms:List Nat)(ps:List VP):Prop where
 m1:∀r∈ms,c.lock r=false∧c.FH r=false
 p1:∀r∈ps.flatMap VP.roots,c.lock r=false
 p2:∀r∈ps.flatMap VP.AO,c.FH r=false
theorem Mu(Wv:∀t∈ms,cx.lock t=false∧cx.FH t=false)(hp:Cr cx ms ps=true):Open cx ms ps:=by
 simp only[Cr,j8]at hp;refine⟨Wv,fun r hr=>?_,fun r hr=>?_⟩
 ·obtain⟨p,hm,hr⟩:=kA.1 hr;have:=kL.1 hp.2 p hm;cases p with
  |slot u l=>simp[VP.roots]at hr
  |own u ty e d k=>simp[VP.roots]at hr;subst hr;simp only[j8,kJ]at this;exact this.1.1
  |box q ls=>simp[VP.roots]at hr;subst hr;simp only[j8,kJ]at this;exact this.1.2
 ·obtain⟨p,hm,hr⟩:=kA.1 hr;have:=kL.1 hp.2 p hm;cases p with
  |slot u l=>simp[VP.AO]at hr;subst hr;simpa using this
  |own u ty e d k=>simp[VP.AO]at hr;subst hr;simp only[j8,kJ]at this;exact this.1.2
  |box q ls=>simp[VP.AO]at hr
theorem Nq(h:Open cx ms ps):Open (cx.in ms ps) ms ps:=by
 refine⟨fun r hr=>?_,fun r hr=>?_,fun r hr=>?_⟩
 ·have:=h.m1 r hr;simp[Cx.in,this.1,this.2,(BB ms r).2 hr]
 ·simp[Cx.in,h.p1 r hr,(BB _ r).2 hr]
 ·simp[Cx.in,h.p2 r hr,(BB _ r).2 hr]
theorem HP{c:Cx}(ho:Open c ms ps)(hk:Ax (cx.in ms ps) s0 s1)(hp:Cr cx ms ps=true)(ha:GF ms ps s0 s1 σ W tm (E3 W ps) Vn)(Yb:s0.Bp≤σ.Bp):Ax c s0 σ where
 AO t ht:=by
  have n1:t∉ms:=fun hh=>by rw[(ho.m1 t hh).2]at ht;cases ht
  have n2:t∉ps.flatMap VP.AO:=fun hh=>by rw[ho.p2 t hh]at ht;cases ht
  rw[ha.slot t n2,GJ,G8 n1];refine Lb (fun r hr=>?_) (fun r hr=>?_) _
  ·simp only[kU]at hr;exact hr.elim (fun hr=>(ho.m1 r ((BB _ _).1 hr)).2) fun hr=>ho.p2 r ((BB _ _).1 hr)
  ·simp only[kU]at hr;exact hr.elim (fun hr=>(ho.m1 r ((BB _ _).1 hr)).1) fun hr=>ho.p1 r ((BB _ _).1 hr)
 roots r hr:=by
  have n1:r∉ms:=fun hh=>by rw[(ho.m1 r hh).1]at hr;cases hr
  have n2:r∉ps.flatMap VP.roots:=fun hh=>by rw[ho.p1 r hh]at hr;cases hr
  rw[ha.root r n2,CI,G8 n1];rfl
 box r hr:=by
  have n1:r∉ms:=fun hh=>by rw[(ho.m1 r hh).2]at hr;cases hr
  have n3:r∉ps.flatMap VP.AO:=fun hh=>by rw[ho.p2 r hh]at hr;cases hr
  by_cases n2:r∈ps.flatMap VP.roots
  ·obtain⟨p,hm,WV⟩:=kA.1 n2;obtain⟨vs,X3,Wm⟩:=ha.get hm;cases p with
   |slot u l=>simp[VP.roots]at WV
   |own u ty e d k=>simp[VP.roots]at WV;subst WV;exact absurd (kA.2 ⟨_,hm,by simp[VP.AO]⟩) n3
   |box q ls=>
    simp[VP.roots]at WV;subst WV;have Wm:σ.root r=_:=Wm;obtain⟨b1,b2,b3⟩:=hk.box r (Hs n1 n3);rw[Wm];exact⟨X3.1.symm.trans b1,rfl,(BJ _ _ _).trans (X3.2.1.trans b3)⟩
  ·rw[ha.root r n2,CI,G8 n1];exact⟨rfl,rfl,rfl⟩
 l1:=ha.l1
 l2:=ha.l2
 Bp:=Yb
end
end Go.Ev
namespace Go.Ev
theorem KG(v m:Nat)(x:Lv):(∀n∈(BT v m x).AG,n=v)∧(BT v m x).Ce=true:=by
 obtain⟨l,x⟩:=x;cases l with
 |sl t e=>cases m with
  |zero=>exact⟨fun n hn=>by simp[BT,LA.AG]at hn,rfl⟩
  |succ m=>exact⟨fun n hn=>by simp[BT,LA.AG]at hn;exact hn,rfl⟩
 |_=>exact⟨fun n hn=>by simp[BT,LA.AG]at hn,rfl⟩
theorem I0(v:Nat)(k:Bool):Fa v k=v∨Fa v k=1:=by cases k;exact .inl rfl;exact .inr rfl
theorem Ed(v m:Nat)(k:Bool)(x:Lv):(∀n∈(CD v m k x).AG,n=v∨n=1)∧(CD v m k x).Ce=true:=by
 obtain⟨l,x⟩:=x;cases l with
 |sl t e=>cases m with
  |zero=>exact⟨(fun n hn=>by have hn:n∈([]:List Nat):=hn;cases hn),rfl⟩
  |succ m=>
   refine⟨fun n hn=>?_,rfl⟩;have hn:n∈[Fa v k,v]:=hn;simp at hn;rcases hn with rfl|rfl
   ·exact I0 _ _
   ·exact .inl rfl
 |_=>exact⟨(fun n hn=>by have hn:n∈([]:List Nat):=hn;cases hn),rfl⟩
theorem B4(v:Nat):∀(ls:List (Option (L×Nat))) (vs:List Lv),∀a∈AQ v ls vs,(∀n∈a.AG,n=v∨n=1)∧a.Ce=true
 | [],vs,a,h=>by cases h
 |none::ls,vs,a,h=>by
  rcases kS.1 (show a∈.bad::AQ v ls vs from h)with rfl|h
  ·exact⟨(fun n hn=>by cases hn),rfl⟩
  ·exact B4 v ls vs a h
 |some (l,d)::ls,[],a,h=>by
  rcases kS.1 (show a∈.bad::AQ v ls []from h)with rfl|h
  ·exact⟨(fun n hn=>by cases hn),rfl⟩
  ·exact B4 v ls [] a h
 |some (l,d)::ls,x::vs,a,h=>by
  rcases kS.1 (show a∈CD v d (d==3) x::AQ v ls vs from h)with rfl|h
  ·exact Ed v d _ x
  ·exact B4 v ls vs a h
section
variable {E:Cy}{cx:Cx}{N:Nat}{ms:List Nat}{ps:List VP}{s0 s1 σ:St}{tm:Array Value}{W:Wd}{Vn:List (List Lv)}
theorem MJ(i0:Inv N s0)(ha:GF ms ps s0 s1 σ W tm (E3 W ps) Vn)(Yb:σ.Bp=s0.Bp+1):Inv N σ where
 AG:=by
  rw[Yb];refine⟨fun t n hn=>?_,fun r n hn=>?_⟩
  ·by_cases ht:t∈ps.flatMap VP.AO
   ·obtain⟨p,hm,ht⟩:=kA.1 ht;obtain⟨vs,X3,Wm⟩:=ha.get hm;cases p with
    |slot u l=>
     simp[VP.AO]at ht;subst ht;obtain⟨_,x,rfl,hr⟩:=X3;rw[Wm _ rfl]at hn;simp[one,AV.AG,LA.AG]at hn
    |own u ty e d k=>
     simp[VP.AO]at ht;subst ht;obtain⟨_,xs,rfl,_⟩:=X3;rw[(Wm _ rfl).1]at hn;have:=I0 s0.Bp k;have:=i0.two;simp[one,AV.AG,LA.AG]at hn;omega
    |box r ls=>simp[VP.AO]at ht
   ·rw[ha.slot t ht,GJ]at hn;split at hn
    ·simp[one,AV.AG,LA.AG]at hn
    ·have:=i0.AG.1 t n (Ke _ _ _ n hn);omega
  ·by_cases hr:r∈ps.flatMap VP.roots
   ·obtain⟨p,hm,hr⟩:=kA.1 hr;obtain⟨vs,X3,Wm⟩:=ha.get hm;cases p with
    |slot u l=>simp[VP.roots]at hr
    |own u ty e d k=>
     simp[VP.roots]at hr;subst hr;obtain⟨_,xs,rfl,_⟩:=X3;rw[(Wm _ rfl).2]at hn;rcases kS.1 hn with hn|hn
     ·have hn:n=s0.Bp:=hn;omega
     ·obtain⟨a,ai,hn⟩:=kA.1 hn;simp at ai;subst ai;have:=(Ed _ _ _ _).1 n hn;have:=i0.two;omega
    |box q ls=>
     simp[VP.roots]at hr;subst hr;have Wm:σ.root r=_:=Wm;rw[Wm]at hn;rcases kS.1 hn with hn|hn
     ·have hn:n=(s0.root r).AA:=hn;have:=i0.AG.2 r n (by rw[hn];exact kR);omega
     ·obtain⟨a,ai,hn⟩:=kA.1 hn;have:=(B4 _ _ _ a ai).1 n hn;have:=i0.two;omega
   ·rw[ha.root r hr,CI]at hn;split at hn
    ·simp[dead,Bo.AG]at hn;omega
    ·have:=i0.AG.2 r n hn;omega
 two:=by have:=i0.two;omega
 len:=ha.l1.trans i0.len
 BQ:=ha.l2.trans i0.BQ
 Lx:=by
  intro r a XL;by_cases hr:r∈ps.flatMap VP.roots
  ·obtain⟨p,hm,hr⟩:=kA.1 hr;obtain⟨vs,X3,Wm⟩:=ha.get hm;cases p with
   |slot u l=>simp[VP.roots]at hr
   |own u ty e d k=>
    simp[VP.roots]at hr;subst hr;obtain⟨_,xs,rfl,_⟩:=X3;rw[(Wm _ rfl).2]at XL;simp at XL;subst XL;exact(Ed _ _ _ _).2
   |box q ls=>
    simp[VP.roots]at hr;subst hr;have Wm:σ.root r=_:=Wm;rw[Wm]at XL;exact(B4 _ _ _ a XL).2
  ·rw[ha.root r hr,CI]at XL;split at XL
   ·cases XL
   ·exact i0.Lx r a XL
theorem Lc(x:(DJ ps).D):(Bz ms ps s0 x).Bp=s0.Bp+1:=by unfold Bz;rw[JC];rfl
theorem Dr{x:(DJ ps).D}(h1:AW E s1 tm W)(i1:Be s1)(i0:Inv N s0)(hk:Ax (cx.in ms ps) s0 s1)(Wv:∀t∈ms,cx.lock t=false∧cx.FH t=false)(hp:Cr cx ms ps=true)(hx:Aw ps s1=some x):
  ∃W',W'.w=W.w∧AW E (Bz ms ps s0 x) tm W'∧Inv N (Bz ms ps s0 x)∧Ax cx s0 (Bz ms ps s0 x)∧Ax (cx.in ms ps) s0 (Bz ms ps s0 x):=by
 obtain⟨Vn,ha⟩:=NN (N:=N) h1 i1 hk hp hx;have hc:=Lc (ms:=ms) (s0:=s0) x;have ho:=Mu Wv hp;exact⟨C6 (Bz ms ps s0 x) W ps,rfl,MK h1 i1 i0.two hk hp ha,MJ i0 ha hc,HP ho hk hp ha (by omega),HP (Nq ho) hk hp ha (by omega)⟩
end
end Go.Ev
namespace Go.Ev
section
variable {P:Program}{E:Cy}{cx:Cx}{N:Nat}{s:St}{W:Wd}{a:Act}{Q:Exit→Act→World→Prop}
theorem NT{n:Nat}{tm:Array Value}(h:AW E s tm W):AW E { s with Bp:=n } tm W where
 DM:=h.DM
 BQ:=h.BQ
 AO t:=BU.map (fun b hb=>⟨hb,rfl⟩) (fun a v hv=>by cases a<;>exact hv) (h.AO t)
 roots r:=by
  obtain⟨q1,q2⟩:=h.roots r;exact⟨fun j=>(q1 j).map (fun a v hv=>by cases a<;>exact hv) fun _ _ _ _ hr=>hr,q2⟩
 sep:=h.sep
 init:=h.init
theorem Mv(hc:Db P cx)(V8:DN P E cx.env)(hm:P.follows .mixedOrders=true){id:Nat}{ops:Array Oper}{draw:Bool}{R:Type}{k:St→Option R}{x:R}(V3:codeOk N (.region id ops draw)=true)(fY:∀o∈ops.toList,∀d,o.dst=some d→cx.FH d=false)
  (Vo:AW E s a.tmps W) (hinv:Inv N s) (he:EW cx ⟨ops,s.Bp,draw⟩ (number 0 ops.toList) (E2 ops.toList []) [] s k=some x)
  (hK:∀s' a' W',a'.defers=a.defers→AW E s' a'.tmps W'→Ax cx s s'→Be s'→BV s' (· < s.Bp+ops.size)→k s'=some x→Q .normal a' W'.w):(Code.region id ops draw).wp P Q a W.w:=by
 obtain⟨tr,ht,hlen,hk⟩:=EX ops.toList 0 [] s he;simp only[codeOk,j8]at V3;obtain⟨hE,Xl⟩:=V3
 have hd:∀o∈ops.toList,∀d,o.dst=some d→d<s.sl.length:=by intro o ho d hd;have:=kL.1 Xl o ho;rw[hd]at this;rw[hinv.len];simpa using this
 obtain⟨dA,fU⟩:=Gm ops.toList 0 [] s tr ht fY hinv.Lx
 have cq:∀a' W',a'.defers=a.defers→AW E (AK (fun _=>true) 0 tr s) a'.tmps W'→BV (AK (fun _=>true) 0 tr s) (pA s.Bp (· < ops.size))→Q .normal a' W'.w:=fun a' W' h1 h2 h3=>
  hK _ a' W' h1 h2 dA fU (h3.mono fun n hn=>by
   rcases hn with hn|⟨j,hj,e⟩
   ·omega
   ·have:j<ops.size:=hj;omega) hk
 have h2:=hinv.two;cases draw with
 |false=>
  refine wp_region ?_
  have:=M3 (g:=⟨ops,s.Bp,false⟩) (bs:=E2 ops.toList []) (Q:=Q) hc V8 (show 1<s.Bp by omega) (fun i j hi hj=>by
   have hi:i<ops.size:=hi
   exact I5 (ops:=ops) hE (A:=(· < i)) (fun k o hk ho e he hb=>by
     have:=Cp ops.toList 0 hE k o (by simpa using ho) e he hb;have hk:k<i:=hk;show e.on<i;omega) (fun k hk=>Nat.lt_trans hk hi) (i:=i) (o:=ops[i]) (by simp[hi]) (fun e he hb=>by
     have:=Cp ops.toList 0 hE i ops[i] (by simp[hi]) e he hb;show e.on<i;omega) j hj) ops.toList 0 [] s tr a W ht (fun k o hk=>by simpa using hk) Vo (hinv.AG.mono fun n hn=>.inl hn) hd (fun a' W' q1 q2 q3=>cq a' W' q1 q2 (by simpa using q3))
  have e:List.range ops.size=List.range' 0 ops.toList.length:=by rw[List.range_eq_range'];simp
  rw[e];exact this
 |true=>
  refine wp_region_any hm ?_
  have Xc:∀(tr:List (Nat×List Wr)) (i:Nat) (s:St),AK (fun i=>(Array.replicate ops.size false).getD i false) i tr s=s:=by
   intro tr
   induction tr with
   |nil=>intro i s;rfl
   |cons y tr ih=>
    intro i s;simp only[AK]
    have:(Array.replicate ops.size false).getD i false=false:=by
     rw[kY,Array.getElem?_replicate];split<;>rfl
    rw[this];exact ih (i+1) s
  have dU:AW E s a.tmps { W with w:={ W.w with drawn:=W.w.drawn+1 } }:=Vo.world (fun _ _=>rfl) (fun _ _ _=>rfl) (kT _) ⟨rfl,rfl,rfl⟩
  exact OC (g:=⟨ops,s.Bp,true⟩) (Q:=Q) hc V8 (show 1<s.Bp by omega) hE rfl ht (by simpa using hlen) hinv.AG hd cq ops.size (Array.replicate ops.size false) a { W with w:={ W.w with drawn:=W.w.drawn+1 } } (by simp) (by simp) rfl
   (by rw[Xc];exact dU) (by rw[Xc];exact hinv.AG.mono fun n hn=>.inl hn) (fun i o hi=>by
    rw[kY,Array.getElem?_replicate]at hi;split at hi<;>cases hi)
end
end Go.Ev
namespace Go.Ev
section
variable {P:Program}{E:Cy}{cx:Cx}{N:Nat}{s:St}{W:Wd}{a:Act}{Q:Exit→Act→World→Prop}
theorem Hg:∀(os:List Oper)(i:Nat)(o:Oper)(d:Nat),o∈os→o.dst=some d→d∈Gv (number i os)
 | [],i,o,d,h,_=>by cases h
 |x::os,i,o,d,h,hd=>by
  simp only[number,Gv];rcases kS.1 h with rfl|h
  ·rw[hd];exact kR
  ·have:=Hg os (i+1) o d h hd;cases x.dst with
   |none=>exact this
   |some y=>exact kB _ this
theorem Lh{s':St}{n:Nat}(h:Ax cx s s')(hn:s.Bp≤n):Ax cx s { s' with Bp:=n }:=⟨h.AO,h.roots,h.box,h.l1,h.l2,hn⟩
theorem IF{an:An}(hc:Db P cx)(V8:DN P E cx.env)(hm:P.follows .mixedOrders=true){id:Nat}{ops:Array Oper}{draw:Bool}{R:Type}{k:St→Option R}{x:R}(V3:codeOk N (.region id ops draw)=true)
  (Wv:∀t∈CF (.region id ops draw),cx.lock t=false∧cx.FH t=false) (Vo:AW E s a.tmps W) (hinv:Inv N s) (he:Et cx an id ops draw s k=some x)
  (hK:∀s' a' W',a'.defers=a.defers→AW E s' a'.tmps W'→Inv N s'→Ax cx s s'→k s'=some x→Q .normal a' W'.w):(Code.region id ops draw).wp P Q a W.w:=by
 unfold Et at he;dsimp only at he;split at he
 ·refine Mv hc V8 hm V3 (fun o ho d hd=>(Wv d (Hg _ _ o d ho hd)).2) Vo hinv he fun s' a' W' q1 q2 q3 q4 q5 q6=>?_;exact hK { s' with Bp:=s.Bp+ops.size } a' W' q1 (NT q2) ⟨q5,by have:=hinv.two;show 2≤s.Bp+ops.size;omega,q3.l1.trans hinv.len,q3.l2.trans hinv.BQ,q4⟩ (Lh q3 (by omega)) q6
 ·have he:(fun ps:List VP=>if Cr cx (Gv (number 0 ops.toList)) ps then(EW (cx.in (Gv (number 0 ops.toList)) ps) ⟨ops,s.Bp,draw⟩ (number 0 ops.toList) (E2 ops.toList []) [] s (Aw ps)).bind fun x=>k (Bz (Gv (number 0 ops.toList)) ps s x)else none) (match an.PS id with
   |some p=>p
   |none=>JN ops.toList)=some x:=he
  generalize (match an.PS id with
   |some p=>p
   |none=>JN ops.toList)=ps at he
  dsimp only at he;split at he
  ·rename_i fR;cases hq:EW (cx.in (Gv (number 0 ops.toList)) ps) ⟨ops,s.Bp,draw⟩ (number 0 ops.toList) (E2 ops.toList []) [] s (Aw ps)with
   |none=>rw[hq]at he;cases he
   |some y=>
    rw[hq]at he;have he:k (Bz (Gv (number 0 ops.toList)) ps s y)=some x:=he;have ZR:Db P (cx.in (Gv (number 0 ops.toList)) ps):=hc;refine Mv ZR V8 hm V3 (fun o ho d hd=>?_) Vo hinv hq fun s' a' W' q1 q2 q3 q4 q5 q6=>?_
    ·have YM:=Hg ops.toList 0 o d ho hd;have h1:cx.FH d=false:=(Wv d YM).2;simp[Cx.in,h1,(BB _ d).2 YM]
    ·obtain⟨W2,w2,r2,i2,k2,_⟩:=Dr (N:=N) q2 q4 hinv q3 (fun t ht=>Wv t ht) fR q6;rw[←w2];exact hK _ a' W2 q1 r2 i2 k2 he
  ·cases he
theorem J2{rs:List Nat}{s':St}{W':Wd}(fr:Ji s s' W W' rs)(Wv:∀r∈rs,cx.lock r=false)(WG:∀r,r∉rs→s'.root r=s.root r)(Yb:s'.Bp=s.Bp):Ax cx s s' where
 AO t _:=by
  have:s'.slot t=s.slot t:=by show nth _ s'.sl t=_;rw[fr.same.sl];rfl
  rw[this];exact .same _
 roots r hr:=WG r fun hm=>by rw[Wv r hm]at hr;cases hr
 box r _:=fr.same.box r
 l1:=by rw[fr.same.sl]
 l2:=fr.same.len
 Bp:=by rw[Yb];exact kT _
theorem Gn(r:Nat):∀(as:List LA)(j:Nat)(s:St),(s.app (BD r j as)).Bp=s.Bp∧∀x,x≠r→(s.app (BD r j as)).root x=s.root x
 | [],j,s=>⟨rfl,fun _ _=>rfl⟩
 |a::as,j,s=>by obtain⟨h1,h2⟩:=Gn r as (j+1) (s.AF (.leaf r j a));refine⟨h1,fun x hx=>(h2 x hx).trans ?_⟩;show nth _ (CZ s.ro r _) x=_;rw[A4,kG fun hh=>hx hh.1.symm];rfl
theorem Fp:∀ {rs:List Nat} {ws:List Wr} (s0 s:St),Az cx s0 rs=some ws→(s.app ws).Bp=s.Bp∧∀x,x∉rs→(s.app ws).root x=s.root x
 | [],ws,s0,s,h=>by injection h with h;subst h;exact⟨rfl,fun _ _=>rfl⟩
 |r::rs,ws,s0,s,h=>by
  simp only[Az]at h;split at h
  ·cases h
  ·split at h
   ·rename_i XX YS;injection h with h;subst h
    rw[BF]
    obtain⟨a1,a2⟩:(s.app (DB s0 r)).Bp=s.Bp∧∀x,x≠r→(s.app (DB s0 r)).root x=s.root x:=by
     unfold DB;split
     ·exact⟨rfl,fun _ _=>rfl⟩
     ·exact Gn r ((s0.root r).ls.map BH) 0 s
    obtain⟨b1,b2⟩:=Fp s0 (s.app (DB s0 r)) YS;exact⟨b1.trans a1,fun x hx=>(b2 x fun hm=>hx (kB _ hm)).trans (a2 x fun e=>hx (e▸kR))⟩
   ·cases h
theorem JI(a:LA):(BH a).AG=a.AG:=by cases a<;>rfl
theorem Kf(a:LA)(h:a.Ce=true):(BH a).Ce=true:=by cases a<;>first|exact h|rfl
theorem Hv(r:Nat):∀(as:List LA)(j:Nat)(s:St)(x:Nat),∀a∈((s.app (BD r j as)).root x).ls,a∈(s.root x).ls∨(x=r∧a∈as)
 | [],j,s,x,a,h=>.inl h
 |b::as,j,s,x,a,h=>by
  rcases Hv r as (j+1) (s.AF (.leaf r j b)) x a h with h|⟨h1,h2⟩
  ·have WG:(s.AF (.leaf r j b)).root x=if r=x∧r<s.ro.length then { s.root r with ls:=CZ (s.root r).ls j b }else s.root x:=A4 _ _ _ _ _
   rw[WG]at h;split at h
   ·rename_i hx;have h:a∈CZ (s.root r).ls j b:=h;rw[Bi]at h;rcases lO h with h|h
    ·rw[←hx.1];exact .inl h
    ·exact .inr ⟨hx.1.symm,by rw[h];exact kR⟩
   ·exact .inl h
  ·exact .inr ⟨h1,kB _ h2⟩
theorem FU:∀ {rs:List Nat} {ws:List Wr} (s0 s:St),Az cx s0 rs=some ws→∀(x:Nat),∀a∈((s.app ws).root x).ls,a∈(s.root x).ls∨∃b∈(s0.root x).ls,a=BH b
 | [],ws,s0,s,h,x,a,ha=>by injection h with h;subst h;exact .inl ha
 |r::rs,ws,s0,s,h,x,a,ha=>by
  simp only[Az]at h;split at h
  ·cases h
  ·split at h
   ·rename_i XX YS;injection h with h;subst h
    rw[BF]at ha;rcases FU s0 _ YS x a ha with ha|ha
    ·unfold DB at ha;split at ha
     ·exact .inl ha
     rcases Hv r _ 0 s x a ha with ha|⟨h1,h2⟩
     ·exact .inl ha
     ·subst h1;obtain⟨b,hb,e⟩:=kt.1 h2;exact .inr ⟨b,hb,e.symm⟩
    ·exact .inr ha
   ·cases h
theorem J9(r:Nat):∀(as:List LA)(j:Nat)(s:St)(x:Nat),((s.app (BD r j as)).root x).AA=(s.root x).AA
 | [],j,s,x=>rfl
 |b::as,j,s,x=>by refine(J9 r as (j+1) (s.AF (.leaf r j b)) x).trans ?_;exact((BI s r j b).box x).2.1
theorem Lw{an:An}(hc:Db P cx)(V8:DN P E cx.env)(hm:P.follows .mixedOrders=true){id:Nat}{ops:Array Oper}{draw:Bool}{R:Type}{k:St→Option R}{x:R}(V3:codeOk N (.region id ops draw)=true)
  (Wv:∀t∈CF (.region id ops draw),cx.lock t=false∧cx.FH t=false) (Vo:AW E s a.tmps W) (hinv:Inv N s) (he:Hk cx an id ops draw s k=some x)
  (hK:∀s' a' W',a'.defers=a.defers→AW E s' a'.tmps W'→Inv N s'→Ax cx s s'→k s'=some x→Q .normal a' W'.w):(Code.region id ops draw).wp P Q a W.w:=by
 unfold Hk at he;split at he
 ·exact IF hc V8 hm V3 Wv Vo hinv he hK
 ·rename_i r rs _;split at he
  ·rename_i Wa;split at he
   ·rename_i fs Xg;have dK:Af s s.Bp:=hinv.AG.H3 (v:=s.Bp) (Nat.lt_irrefl _) (by have:=hinv.two;omega);obtain⟨W1,ZY,fr,_⟩:=Eu Vo dK Xg;obtain⟨c1,c2⟩:=Fp (cx:=cx) s s Xg;have aD:Ax cx s (s.app fs):=J2 fr (fun y hy=>by simpa using kL.1 Wa y hy) c2 c1
    have bS:Inv N (s.app fs):={
     AG:=by
      have hv:=hinv.AG;rw[c1];refine⟨fun t n hn=>?_,fun y n hn=>?_⟩
      ·have:(s.app fs).slot t=s.slot t:=by show nth _ (s.app fs).sl t=_;rw[fr.same.sl];rfl
       rw[this]at hn;exact hv.1 t n hn
      ·have Vu:((s.app fs).root y).AA=(s.root y).AA:=(fr.same.box y).2.1;unfold Bo.AG at hn;rw[Vu]at hn;rcases kS.1 hn with e|hn
       ·exact hv.2 y n (by unfold Bo.AG;rw[e];exact kR)
       ·obtain⟨b,hb,eS⟩:=kA.1 hn;rcases FU (cx:=cx) s s Xg y b hb with hb|⟨b0,ZH,e⟩
        ·exact hv.2 y n (by unfold Bo.AG;exact kB _ (kA.2 ⟨b,hb,eS⟩))
        ·rw[e,JI]at eS;exact hv.2 y n (by unfold Bo.AG;exact kB _ (kA.2 ⟨b0,ZH,eS⟩))
     two:=by rw[c1];exact hinv.two
     len:=aD.l1.trans hinv.len
     BQ:=aD.l2.trans hinv.BQ
     Lx:=fun y b hb=>by
      rcases FU (cx:=cx) s s Xg y b hb with hb|⟨b0,ZH,e⟩
      ·exact hinv.Lx y b hb
      ·rw[e];exact Kf b0 (hinv.Lx y b0 ZH) }
    rw[←fr.w];exact IF hc V8 hm V3 Wv ZY bS he fun s' a' W' q1 q2 q3 q4 q5=>hK s' a' W' q1 q2 q3 (aD.trans q4) q5
   ·cases he
  ·cases he
end
end Go.Ev
namespace Go.Ev
section
variable {P:Program}{E:Cy}{N:Nat}
theorem GM{cx:Cx}{ms:List Nat}{ps:List VP}(h:∀t∈ms,cx.lock t=false∧cx.FH t=false):∀t∈ms,(cx.in ms ps).lock t=false∧(cx.in ms ps).FH t=false:=fun t ht=>by have:=h t ht;simp[Cx.in,this.1,this.2,(BB ms t).2 ht]
def Claim(P:Program)(E:Cy)(N:Nat)(an:An)(n:Nat){RD:Type}(rp:St→Option RD)(c:Code):Prop:=∀ {R:Type} {cx:Cx} {s:St} {kn:St→Option R} {kx:Nat→St→Option R} {kr:RD→Option R} {x:R} {a:Act} {W:Wd} {Q:Exit→Act→World→Prop},
  Db P cx→DN P E cx.env→codeOk N c=true→(∀t∈CF c,cx.lock t=false∧cx.FH t=false)→AW E s a.tmps W→Inv N s→ev an n rp c cx s kn kx kr=some x→
  (∀s' a' W',a'.defers=a.defers→AW E s' a'.tmps W'→Inv N s'→Ax cx s s'→kn s'=some x→Q .normal a' W'.w)→
  (∀id s' a' W',a'.defers=a.defers→AW E s' a'.tmps W'→Inv N s'→Ax cx s s'→kx id s'=some x→Q (.exit id) a' W'.w)→
  (∀y s' a' W',a'.defers=a.defers→AW E s' a'.tmps W'→Inv N s'→rp s'=some y→kr y=some x→Q .ret a' W'.w)→c.wp P Q a W.w
theorem K5{an:An}{n:Nat}{RD:Type}{rp:St→Option RD}{c':Code}(ihb:Claim P E N an n rp c'){cx:Cx}{s:St}{ps:List VP}{id:Nat}{a0:Act}
  (hc:Db P cx) (V8:DN P E cx.env) (V3:codeOk N c'=true) (Wv:∀t∈CF c',cx.lock t=false∧cx.FH t=false) (hinv:Inv N s) (hp:Cr cx (CF c') ps=true)
  {γ:Type} {g:(DJ ps).D→γ} {du:RD→Option ((DJ ps).D⊕γ)} (hkr:∀r y,du r=some (.inl y)→False) {q:γ} {Q:Exit→Act→World→Prop}
  (cm:∀x' s' a' W',a'.defers=a0.defers→AW E s' a'.tmps W'→Inv N s'→Ax (cx.in (CF c') ps) s s'→Aw ps s'=some x'→g x'=q→Q (.exit id) a' W'.w)
  (fT:∀y s' a' W',a'.defers=a0.defers→AW E s' a'.tmps W'→Inv N s'→rp s'=some y→du y=some (.inr q)→Q .ret a' W'.w)
  {m:Nat} {x0:(DJ ps).D} {a:Act} {W:Wd} {s1:St} (hd:a.defers=a0.defers) (Vo:AW E s1 a.tmps W) (Vm:Be s1) (hk:Ax (cx.in (CF c') ps) s s1) (hx:Aw ps s1=some x0)
  (hit:iter (α:=(DJ ps).D) (γ:=γ) m (fun x=>ev an n rp c' (cx.in (CF c') ps) (Bz (CF c') ps s x) (fun s=>(Aw ps s).bind fun x=>some (.inl x)) (fun i s=>if i==id then(Aw ps s).bind fun x=>some (.inr (g x))else none) du) x0=some q):
  (Code.loop c').wp P Q a W.w:=by
 refine wp_loop_ghost (fun k a w=>∃(W:Wd) (s1:St) (x:(DJ ps).D),W.w=w∧a.defers=a0.defers∧AW E s1 a.tmps W∧Be s1∧Ax (cx.in (CF c') ps) s s1∧Aw ps s1=some x∧
  iter (α:=(DJ ps).D) (γ:=γ) k (fun x=>ev an n rp c' (cx.in (CF c') ps) (Bz (CF c') ps s x) (fun s=>(Aw ps s).bind fun x=>some (.inl x)) (fun i s=>if i==id then(Aw ps s).bind fun x=>some (.inr (g x))else none) du) x=some q) m
  ⟨W,s1,x0,rfl,hd,Vo,Vm,hk,hx,hit⟩ ?_
 rintro k a w ⟨W,s1,x,rfl,hd,Vo,Vm,hk,hx,hit⟩
 cases k with
 |zero=>cases hit
 |succ k=>
  simp only[iter]at hit;obtain⟨W2,w2,r2,i2,k2,k3⟩:=Dr (N:=N) Vo Vm hinv hk Wv hp hx;cases hq:ev an n rp c' (R:=(DJ ps).D⊕γ) (cx.in (CF c') ps) (Bz (CF c') ps s x) (fun s=>(Aw ps s).bind fun x=>some (.inl x)) (fun i s=>if i==id then(Aw ps s).bind fun x=>some (.inr (g x))else none) du with
  |none=>grind
  |some y=>
   rw[hq]at hit;rw[←w2];have ZR:Db P (cx.in (CF c') ps):=hc;refine ihb ZR V8 V3 (GM Wv) r2 i2 hq (fun s3 a3 W3 q1 q2 q3 q4 q5=>?_) (fun i s3 a3 W3 q1 q2 q3 q4 q5=>?_) (fun z s3 a3 W3 q1 q2 q3 q4 q5=>?_)
   ·cases YY:Aw ps s3 with
    |none=>grind
    |some z=>
     rw[YY]at q5;injection q5 with q5
     subst q5;exact⟨k,Nat.lt_succ_self k,W3,s3,z,rfl,q1.trans hd,q2,q3.Lx,k3.trans q4,YY,hit⟩
   ·split at q5
    ·rename_i hi;have hi:i=id:=by simpa using hi
     subst hi;cases YY:Aw ps s3 with
     |none=>grind
     |some z=>
      rw[YY]at q5;injection q5 with q5
      subst q5;injection hit with hit
      exact cm z s3 a3 W3 (q1.trans hd) q2 q3 (k3.trans q4) YY hit
    ·cases q5
   ·cases y with
    |inl y=>grind
    |inr y=>
     injection hit with hit
     subst hit;exact fT z s3 a3 W3 (q1.trans hd) q2 q3 q4 q5
theorem NW{an:An}{n:Nat}{RD:Type}{rp:St→Option RD}(hm:P.follows .mixedOrders=true):∀(c:Code),Claim P E N an n rp c∧∀c',c=.loop c'→Claim P E N an n rp c':=by
 intro c
 induction c with
 |skip=>
  refine⟨?_,fun c' e=>by cases e⟩;intro R cx s kn kx kr x a W Q hc V8 V3 Wv Vo hinv he hn hx hr;exact wp_skip (hn s a W rfl Vo hinv (Ax.refl _ _) he)
 |region id ops draw=>
  refine⟨?_,fun c' e=>by cases e⟩;intro R cx s kn kx kr x a W Q hc V8 V3 Wv Vo hinv he hn hx hr;exact Lw hc V8 hm V3 Wv Vo hinv he hn
 |seq b c ihb ihc=>
  refine⟨?_,fun c' e=>by cases e⟩;intro R cx s kn kx kr x a W Q hc V8 V3 Wv Vo hinv he hn hx hr;simp only[codeOk,j8]at V3;have ZU:∀t∈CF b,cx.lock t=false∧cx.FH t=false:=fun t ht=>Wv t (kK _ ht);have eu:∀t∈CF c,cx.lock t=false∧cx.FH t=false:=fun t ht=>Wv t (kH _ ht);refine wp_seq ?_
  have next:∀ {s1:St} {a1:Act} {W1:Wd},a1.defers=a.defers→AW E s1 a1.tmps W1→Inv N s1→Ax cx s s1→ev an n rp c cx s1 kn kx kr=some x→c.wp P Q a1 W1.w:=fun cB ZY bS aD gx=>
   ihc.1 hc V8 V3.2 eu ZY bS gx (fun s2 a2 W2 q1 q2 q3 q4 q5=>hn s2 a2 W2 (q1.trans cB) q2 q3 (aD.trans q4) q5) (fun i s2 a2 W2 q1 q2 q3 q4 q5=>hx i s2 a2 W2 (q1.trans cB) q2 q3 (aD.trans q4) q5)
    (fun y s2 a2 W2 q1 q2 q3 q4 q5=>hr y s2 a2 W2 (q1.trans cB) q2 q3 q4 q5)
  simp only[ev]at he;split at he
  ·exact ihb.1 hc V8 V3.1 ZU Vo hinv he (fun s1 a1 W1 q1 q2 q3 q4 q5=>next q1 q2 q3 q4 q5) hx hr
  ·rename_i ps rets hj;split at he
   ·rename_i hp;have ZR:Db P (cx.in (CF b) ps):=hc;cases rets with
    |false=>
     dsimp only at he;cases hq:ev an n rp b (R:=(DJ ps).D) (cx.in (CF b) ps) s (Aw ps) (fun _ _=>none) (fun _=>none)with
     |none=>grind
     |some y=>
      rw[hq]at he;refine ihb.1 ZR V8 V3.1 (GM ZU) Vo hinv hq (fun s1 a1 W1 q1 q2 q3 q4 q5=>?_) (fun _ _ _ _ _ _ _ _ q=>by cases q) (fun _ _ _ _ _ _ _ _ q=>by cases q);obtain⟨W2,w2,r2,i2,k2,_⟩:=Dr (N:=N) q2 q3.Lx hinv q4 ZU hp q5;show c.wp P Q a1 W1.w;grind
    |true=>
     dsimp only at he;cases hq:ev an n rp b (R:=(DJ ps).D⊕RD) (cx.in (CF b) ps) s (fun s=>(Aw ps s).bind fun x=>some (.inl x)) (fun _ _=>none) (fun r=>some (.inr r))with
     |none=>grind
     |some y=>
      rw[hq]at he;refine ihb.1 ZR V8 V3.1 (GM ZU) Vo hinv hq (fun s1 a1 W1 q1 q2 q3 q4 q5=>?_) (fun _ _ _ _ _ _ _ _ q=>by cases q) (fun y' s1 a1 W1 q1 q2 q3 q4 q5=>?_)
      ·cases YY:Aw ps s1 with
       |none=>grind
       |some z=>
        rw[YY]at q5;injection q5 with q5
        subst q5;obtain⟨W2,w2,r2,i2,k2,_⟩:=Dr (N:=N) q2 q3.Lx hinv q4 ZU hp YY;show c.wp P Q a1 W1.w;grind
      ·injection q5 with q5
       subst q5;exact hr y' s1 a1 W1 q1 q2 q3 q4 he
   ·cases he
 |cond o b c ihb ihc=>
  refine⟨?_,fun c' e=>by cases e⟩;intro R cx s kn kx kr x a W Q hc V8 V3 Wv Vo hinv he hn hx hr;simp only[codeOk,j8]at V3;have ZU:∀t∈CF b,cx.lock t=false∧cx.FH t=false:=fun t ht=>Wv t (kK _ ht);have eu:∀t∈CF c,cx.lock t=false∧cx.FH t=false:=fun t ht=>Wv t (kH _ ht);have h1:=Ah Vo o;simp only[ev]at he;split at he
  ·rename_i t hq;rw[hq]at h1;have h1:a.eval o=.bool t:=h1.1;refine wp_cond h1 ?_;cases t with
   |true=>exact ihb.1 hc V8 V3.1 ZU Vo hinv he hn hx hr
   |false=>exact ihc.1 hc V8 V3.2 eu Vo hinv he hn hx hr
  ·cases he
 |block id c ih=>
  refine⟨?_,fun c' e=>by cases e⟩;intro R cx s kn kx kr x a W Q hc V8 V3 Wv Vo hinv he hn hx hr;simp only[ev]at he;cases hb:an.AT id with
  |none=>
   rw[hb]at he;refine wp_block (ih.1 hc V8 V3 Wv Vo hinv he hn (fun i s' a' W' q1 q2 q3 q4 q5=>?_) hr);show(if i=id then Q .normal a' W'.w else Q (.exit i) a' W'.w);grind
  |some p=>
   obtain⟨ps,rets⟩:=p;rw[hb]at he;dsimp only at he;split at he
   ·rename_i c';have ihb:Claim P E N an n rp c':=ih.2 c' rfl;have V3:codeOk N c'=true:=V3;have Wv:∀t∈CF c',cx.lock t=false∧cx.FH t=false:=Wv;split at he
    ·rename_i hp;refine wp_block ?_;cases rets with
     |false=>
      dsimp only at he;cases YY:Aw ps s with
      |none=>grind
      |some x0=>
       rw[YY]at he;simp only[Option.bind_some]at he;obtain⟨q,hq,he⟩:=lp.1 he;refine K5 (g:=fun x=>x) ihb hc V8 V3 Wv hinv hp (fun _ _ q=>by cases q) (fun x' s' a' W' q1 q2 q3 q4 q5 q6=>?_) (fun _ _ _ _ _ _ _ _ q=>by cases q) rfl Vo hinv.Lx (Ax.refl _ _) YY hq;subst q6;obtain⟨W2,w2,r2,i2,k2,_⟩:=Dr (N:=N) q2 q3.Lx hinv q4 Wv hp q5;show(if id=id then Q .normal a' W'.w else Q (.exit id) a' W'.w);grind
     |true=>
      dsimp only at he;cases YY:Aw ps s with
      |none=>grind
      |some x0=>
       rw[YY]at he;simp only[Option.bind_some]at he;obtain⟨q,hq,he⟩:=lp.1 he;refine K5 (g:=fun x=>(.inl x:(DJ ps).D⊕RD)) ihb hc V8 V3 Wv hinv hp (fun _ _ q=>by cases q) (fun x' s' a' W' q1 q2 q3 q4 q5 q6=>?_) (fun y s' a' W' q1 q2 q3 q4 q5=>?_) rfl Vo hinv.Lx (Ax.refl _ _) YY hq
       ·subst q6;obtain⟨W2,w2,r2,i2,k2,_⟩:=Dr (N:=N) q2 q3.Lx hinv q4 Wv hp q5;show(if id=id then Q .normal a' W'.w else Q (.exit id) a' W'.w);grind
       ·injection q5 with q5
        injection q5 with q5
        subst q5;exact hr y s' a' W' q1 q2 q3 q4 he
    ·cases he
   ·cases he
 |exit id=>
  refine⟨?_,fun c' e=>by cases e⟩;intro R cx s kn kx kr x a W Q hc V8 V3 Wv Vo hinv he hn hx hr;exact wp_exit (hx id s a W rfl Vo hinv (Ax.refl _ _) he)
 |ret=>
  refine⟨?_,fun c' e=>by cases e⟩;intro R cx s kn kx kr x a W Q hc V8 V3 Wv Vo hinv he hn hx hr;simp only[ev]at he;cases hq:rp s with
  |none=>grind
  |some y=>rw[hq]at he;exact wp_ret (hr y s a W rfl Vo hinv hq he)
 |loop c ih=>
  refine⟨?_,fun c' e=>by grind⟩;intro R cx s kn kx kr x a W Q hc V8 V3 Wv Vo hinv he hn hx hr;simp only[ev]at he;cases he
 |_=>
  refine⟨?_,fun c' e=>by cases e⟩;intro R cx s kn kx kr x a W Q hc V8 V3 Wv Vo hinv he hn hx hr;simp only[ev]at he;cases he
end
end Go.Ev
namespace Go.Ev
inductive BL(W:Wd):List (Nat×Nat)→List (Nat×Nat)→List (List Nat)→Prop
 |nil (us):BL W us us []
 |skip {us W6 os} (h:BL W us W6 os):BL W us W6 ([]::os)
 |take {us W6 os u o} (hu:u∉us) (hs:∀b∈o,b∈W.om (.lf u.1 u.2)) (hn:o.Nodup) (h:BL W (u::us) W6 os):BL W us W6 (o::os)
section
variable {P:Program}{E:Cy}{s:St}{W:Wd}{tm:Array Value}{β:Type}{t:β}
theorem BL.append{us us1 us2:List (Nat×Nat)}{xs ys:List (List Nat)}(h1:BL W us us1 xs)(h2:BL W us1 us2 ys):BL W us us2 (xs++ys):=by
 induction h1 with
 |nil=>exact h2
 |skip h ih=>exact .skip (ih h2)
 |take hu hs hn h ih=>exact .take hu hs hn (ih h2)
theorem BL.sub{us W6:List (Nat×Nat)}{os:List (List Nat)}(h:BL W us W6 os):∀u∈us,u∈W6:=by
 induction h with
 |nil=>grind
 |skip h ih=>exact ih
 |take hu hs hn h ih=>grind
theorem BL.mem{us W6:List (Nat×Nat)}{os:List (List Nat)}(h:BL W us W6 os):∀o∈os,∀b∈o,∃u,u∉us∧b∈W.om (.lf u.1 u.2):=by
 induction h with
 |nil=>grind
 |skip h ih=>
  grind
 |take hu hs hn h ih=>
  grind
theorem BL.nodup{us W6:List (Nat×Nat)}{os:List (List Nat)}(h:BL W us W6 os):∀o∈os,o.Nodup:=by
 induction h with
 |nil=>grind
 |skip h ih=>
  grind
 |take hu hs hn h ih=>
  grind
def FI(a b:List Nat):Prop:=∀x∈a,x∉b
theorem FI.symm{a b:List Nat}(h:FI a b):FI b a:=fun x hx hy=>h x hy hx
theorem BL.pair(hd:∀k k',k≠k'→∀b∈W.om k,b∉W.om k'){us W6:List (Nat×Nat)}{os:List (List Nat)}(h:BL W us W6 os):os.Pairwise FI:=by
 induction h with
 |nil=>exact .nil
 |skip h ih=>exact .cons (fun a _ x hx=>by cases hx) ih
 | @take us W6 os u o hu hs hn h ih=>
  refine .cons (fun a ha x hx eK=>?_) ih;obtain⟨u',h1,h2⟩:=h.mem a ha x eK;grind
theorem JW{α:Type}{R:α→α→Prop}(hs:∀a b,R a b→R b a){l:List α}(h:l.Pairwise R){i j:Nat}{a b:α}(aC:i≠j)(hi:l[i]?=some a)(hj:l[j]?=some b):R a b:=by
 obtain⟨h1,rfl⟩:=j9.1 hi;obtain⟨h2,rfl⟩:=j9.1 hj;rcases lY aC with Vs|Vs
 ·exact lj.1 h i j h1 h2 Vs
 ·exact hs _ _ (lj.1 h j i h2 h1 Vs)
theorem ER(h:AW E s tm W){us:List (Nat×Nat)}{l:L}{m:Nat}{a:LA}{v:Value}{k:Lv→List (Nat×Nat)→Step β}(hv:AP s W a v)(hl:(Fk s us l m a k).leads t):
  ∃(x:l.D) (W6:List (Nat×Nat)) (o:List Nat),(k ⟨l,x⟩ W6).leads t∧l.rd m W.w W.fz v x o∧BL W us W6 [o]:=by
 cases l with
 |int kk=>obtain⟨x,hl,hr⟩:=Bj h hv hl;exact⟨x,us,[],hl,(L.Aa _ rfl hr).1,.skip (.nil _)⟩
 |bool=>obtain⟨x,hl,hr⟩:=Bj h hv hl;exact⟨x,us,[],hl,(L.Aa _ rfl hr).1,.skip (.nil _)⟩
 |str=>obtain⟨x,hl,hr⟩:=Bj h hv hl;exact⟨x,us,[],hl,(L.Aa _ rfl hr).1,.skip (.nil _)⟩
 |sl t0 e=>
  unfold Fk at hl;cases m with
  |zero=>
   simp only at hl;split at hl
   ·rename_i hs;obtain⟨x,hl,hr⟩:=KR h hv hs hl;exact⟨x,us,[],hl,hr,.skip (.nil _)⟩
   ·exact hl.elim
  |succ m=>
   cases a with
   |CP=>exact⟨_,us,[],hl,by rw[show v=.slice none 0 0 from hv];exact Bm,.skip (.nil _)⟩
   |ref c=>
    simp only at hl;split at hl
    ·rename_i AA gen t' e' xs d Vl;split at hl
     ·rename_i hc;simp only[j8,kI,kJ]at hc;obtain⟨⟨⟨Vu,hp⟩,hd⟩,bB⟩:=hc;subst Vu;subst hd;have hp:c.p=[]:=by cases hq:c.p<;>simp_all[isNil]
      split at hl
      ·rename_i y hy;obtain⟨q1,q2⟩:=L.AH hy;cases q1;have q2:xs=y:=q2;subst q2;obtain⟨h',e2,WE,hn⟩:=hv gen _ _ _ _ Vl (.inl hp);rw[hp]at hn;obtain⟨rfl,rfl⟩:=hn;obtain⟨u',Vy,Vw⟩:=(h.roots c.r).row Vl;rw[WE]at Vy;injection Vy with Vy;subst Vy
       refine⟨xs,_,W.om (.lf c.r c.j),hl,Vw,.take (u:=(c.r,c.j)) (fun hh=>?_) (fun b hb=>hb) (h.sep.nodup _) (.nil _)⟩;grind
      ·exact hl.elim
     ·exact hl.elim
    ·exact hl.elim
   |win c lo hi=>
    simp only at hl;split at hl
    ·rename_i AA gen t' e' xs d Vl;split at hl
     ·rename_i hc;simp only[j8,kI,kJ]at hc;obtain⟨⟨⟨Vu,hp⟩,hd⟩,bB⟩:=hc;subst Vu;subst hd;have hp:c.p=[]:=by cases hq:c.p<;>simp_all[isNil]
      split at hl
      ·rename_i y hy;obtain⟨q1,q2⟩:=L.AH hy;cases q1;have q2:sub xs lo hi=y:=q2;subst q2;obtain⟨h',e2,A,n,k0,WE,hn,h1,h2,Yx⟩:=hv gen _ _ _ _ Vl (.inl hp);rw[hp]at hn;obtain⟨rfl,rfl⟩:=hn;obtain⟨u',Vy,Vw⟩:=(h.roots c.r).row Vl;rw[WE]at Vy;injection Vy with Vy;subst Vy
       obtain⟨o',q1,q2,q3⟩:=CE.sub Vw h1 h2;refine⟨sub xs lo hi,_,o',hl,?_,.take (u:=(c.r,c.j)) (fun hh=>?_) (fun b hb=>q2 b hb) (q3 (h.sep.nodup _)) (.nil _)⟩
       ·rw[Yx];exact q1
       grind
      ·exact hl.elim
     ·exact hl.elim
    ·exact hl.elim
   |_=>exact hl.elim
theorem Dg(h:AW E s tm W):∀(ls:List (L×Nat)) (as:List LA) (g:Nat→Option Value) {us:List (Nat×Nat)} {k:List Lv→List (Nat×Nat)→Step β},(∀(j:Nat)(a:LA),as[j]?=some a→∃u,g j=some u∧AP s W a u)→(Cc s ls as us k).leads t→
  ∃(vs:List Lv) (W6:List (Nat×Nat)) (os:List (List Nat)),(k vs W6).leads t∧vs.map (·.l)=ls.map (·.1)∧os.length=ls.length∧as.length=ls.length∧BL W us W6 os∧
   ∀(j:Nat)(p:L×Nat)(lv:Lv),ls[j]?=some p→vs[j]?=some lv→∃y,g j=some y∧lv.l.rd p.2 W.w W.fz y lv.x ((os[j]?).getD [])
 | [],[],g,us,k,hg,hl=>⟨[],us,[],hl,rfl,rfl,rfl,.nil _,fun j p lv hj=>by simp at hj⟩
 | [],_::_,g,us,k,hg,hl=>hl.elim
 |_::_,[],g,us,k,hg,hl=>hl.elim
 |(l,m)::ls,a::as,g,us,k,hg,hl=>by obtain⟨u,hu,WQ⟩:=hg 0 a rfl;obtain⟨x,us1,o,hl,hr,hb⟩:=ER h WQ hl;obtain⟨vs,us2,os,hl,h1,h2,h3,h4,h5⟩:=Dg h ls as (fun j=>g (j+1)) (fun j a hj=>hg (j+1) a (by simpa using hj)) hl;refine⟨⟨l,x⟩::vs,us2,o::os,hl,by simp[h1],by simp[h2],by simp[h3],hb.append h4,fun j p lv hj hv=>?_⟩;grind
def Jk(P:Program)(w:World)(tm:Array Value):List ResultVar→List Value→Prop
 | [],[]=>True
 | .tmp t::rv,u::us=>u=tm.getD t Go.undef∧Jk P w tm rv us
 | .cell t T::rv,u::us=>(do loadVar T (←asAddr (tm.getD t Go.undef)):Sem Value).run P w=.ok u w∧Jk P w tm rv us
 |_,_=>False
theorem Kh{T:TypeId}{y:Ty}(Xf:N1 P T y){as:List LA}{b:Nat}(hlen:as.length=y.ls.n)(V4:∀(j:Nat)(x:LA),as[j]?=some x→∃u,W.w.cell? ⟨b,0+j,none⟩=some u∧AP s W x u):
  ∃u,(loadVar T ⟨b,0,none⟩).run P W.w=.ok u W.w∧E6 s W y.agg as u:=by
 cases Xi:y.agg with
 |false=>
  obtain⟨l,XK,XI⟩:=Xf.lone Xi;rw[XK]at hlen
  obtain⟨a,rfl⟩:∃a,as=[a]:=by
   match as,hlen with
   | [a],_=>grind
  obtain⟨u,hu,hy⟩:=V4 0 a rfl;obtain⟨d,hd,Wi⟩:=XI.JR
  have YE:(isAgg T).run P W.w=.ok false W.w:=by
   unfold isAgg;rw[Sem.run_bind,run_underlying hd];cases d<;>simp_all
  simp only[kz]at hu;exact⟨u,by simp[loadVar,YE,load,Sem.run,hu],hy⟩
 |true=>
  obtain⟨fs,Xg,_⟩:=Xf.agg Xi;obtain⟨i,hi,V7,_⟩:=Xf.info
  let f:Nat→Value:=fun j=>(W.w.cell? ⟨b,0+j,none⟩).getD Go.undef
  let cs:List Value:=(List.range as.length).map f
  have Xt:∀j u,cs[j]?=some u→W.w.cell? ⟨b,0+j,none⟩=some u:=by
   intro j u hj;simp only[cs,kN]at hj;by_cases Vs:j<as.length
   ·rw[List.getElem?_range Vs]at hj;simp at hj;obtain⟨u',Vy,_⟩:=V4 j as[j] (j7 Vs);simp only[kO]at Vy;rw[←hj];simp[f,Vy]
   ·rw[List.getElem?_eq_none (by simp;omega)]at hj;cases hj
  have Vx:=run_loadVar_mid (P:=P) W.w b 0 T cs (.struct fs) (fun j u hj=>Xt j u hj) Xg rfl (by simp[hi,V7,cs,hlen]);refine⟨.agg cs.toArray,Vx,cs.toArray,rfl,by simp[cs],fun j y hy=>?_⟩;grind
theorem HX{ty:TypeId→Option Ty}(Xf:∀t x,ty t=some x→N1 P t x)(h:AW E s tm W):∀(rs:List (Bool×List (L×Nat))) (rv:List ResultVar) {us:List (Nat×Nat)} {k:List Lv→List (Nat×Nat)→Step β},(D4 ty s rs rv us k).leads t→
  ∃(vals:List Value) (Vn:List (List Lv)) (W6:List (Nat×Nat)) (os:List (List Nat)),(k Vn.flatten W6).leads t∧BL W us W6 os∧Jk P W.w tm rv vals∧
   ∀(off:Nat)(om:Nat→List Nat),(∀j,j<os.length→om (off+j)=(os[j]?).getD [])→EH W.w W.fz om rs vals Vn off
 | [],[],us,k,hl=>⟨[],[],us,[],hl,.nil _,trivial,fun off om YP=>trivial⟩
 | [],_::_,us,k,hl=>hl.elim
 |_::_,[],us,k,hl=>hl.elim
 |(g,ls)::rs,r::rv,us,k,hl=>by
  have main:∀ {u:Value} {as:List LA},E6 s W g as u→(∀us,Jk P W.w tm rv us→Jk P W.w tm (r::rv) (u::us))→(Cc s ls as us fun xs us=>D4 ty s rs rv us fun ys us=>k (xs++ys) us).leads t→
    ∃(vals:List Value) (Vn:List (List Lv)) (W6:List (Nat×Nat)) (os:List (List Nat)),(k Vn.flatten W6).leads t∧BL W us W6 os∧Jk P W.w tm (r::rv) vals∧
     ∀(off:Nat)(om:Nat→List Nat),(∀j,j<os.length→om (off+j)=(os[j]?).getD [])→EH W.w W.fz om ((g,ls)::rs) vals Vn off:=by
   intro u as WQ aF hl;obtain⟨vs,us1,os1,hl,h1,h2,h3,h4,h5⟩:=Dg h ls as (Ay g u) (fun j a hj=>B7 WQ j a hj) hl;obtain⟨vals,Vn,us2,os2,hl,h6,h7,h8⟩:=HX Xf h rs rv hl;refine⟨u::vals,vs::Vn,us2,os1++os2,by grind,h4.append h6,aF _ h7,fun off om YP=>⟨⟨h1,?_,fun j p lv hj hv=>?_⟩,?_⟩⟩
   ·cases g with
    |true=>obtain⟨cs,Xt,V7,_⟩:=WQ;grind
    |false=>
     cases as with
     |nil=>exact WQ.elim
     |cons b bs=>cases bs with
      |nil=>exact h3.symm
      |cons=>exact WQ.elim
   ·grind
   ·refine h8 (off+ls.length) om fun j hj=>?_;rw[show off+ls.length+j=off+(ls.length+j) by omega,YP (ls.length+j) (by simp;omega),lZ (by omega)];grind
  cases r with
  |tmp u=>
   simp only[D4]at hl;split at hl
   ·rename_i g' as XU;split at hl
    ·rename_i Zc;have Zc:g=g':=by simpa using Zc
     subst Zc;have WQ:E6 s W g as (tm.getD u Go.undef):=by have:=h.AO u;rw[XU]at this;exact this
     exact main WQ (fun us hu=>⟨rfl,hu⟩) hl
    ·exact hl.elim
   ·exact hl.elim
  |cell u T=>
   simp only[D4]at hl;split at hl
   ·rename_i y r0 AA iW XU;split at hl
    ·rename_i Zc;simp only[j8,kI]at Zc;obtain⟨Zc,hyn⟩:=Zc;subst Zc;have hv:AP s W (.ptr r0 0 AA) (tm.getD u Go.undef):=by have:=h.AO u;rw[XU]at this;exact this
     have X8:(s.root r0).box=true∧(s.root r0).AA=AA:=by
      have Yu:=hl;simp only[St.DG]at Yu;split at Yu
      ·grind
      ·exact Yu.elim
     obtain⟨as,hl,_,b,off,hp,V4⟩:=Fz h hv hl;split at hl
     ·rename_i hlen;have hlen:as.length=ls.length:=by simpa using hlen
      have YO:off=0:=by
       rw[hv X8.1 X8.2]at hp;injection hp with hp;injection hp with hp;injection hp with _ h2
       exact h2.symm
      subst YO;obtain⟨v,Zf,bt⟩:=Kh (Xf T y iW) (by omega) V4;exact main bt (fun us hu=>⟨by simp[hp,asAddr,Zf],hu⟩) hl
     ·exact hl.elim
    ·exact hl.elim
   ·exact hl.elim
def MF(E:Cy)(s:St)(W:Wd)(i:Nat)(pm:PM)(vs0 vs:List Lv)(os:List (List Nat)):Prop:=match pm with
 | .box ls=>(s.root i).box=true∧(s.root i).AA=1∧(s.root i).ls.length=ls.length∧vs.map (·.l)=ls.map (·.1)∧os.length=ls.length∧
   (∀(j:Nat)(p:L×Nat)(lv:Lv),ls[j]?=some p→vs[j]?=some lv→∃y,W.w.cell? ⟨W.bk i,j,none⟩=some y∧lv.l.rd p.2 W.w W.fz y lv.x ((os[j]?).getD []))∧
   ∀(j:Nat)(p:L×Nat),ls[j]?=some p→p.2=3→W.w.cell? ⟨W.bk i,j,none⟩=E.Ol i j
 | .row g ls=>vs.length=ls.length∧os.length=ls.length∧∀(j:Nat)(p:L×Nat)(lv:Lv),ls[j]?=some p→vs[j]?=some lv→
   (Bs p.1=true∧lv.l=p.1∧∃u,E.Ol i j=some u∧lv.l.rd p.2 W.w W.fz u lv.x ((os[j]?).getD []))∨(Bs p.1=false∧vs0[j]?=some lv∧os[j]?=some [])
 |_=>vs=[]∧os=[]
theorem Iv{i:Nat}:∀(j:Nat) (ls:List (L×Nat)),JM s i j ls=true→∀(m:Nat)(p:L×Nat),ls[m]?=some p→p.2=3→∃(gen:Nat) (t:TypeId) (e:Ls) (xs:List e.D) (d:Nat),s.leaf i (j+m)=.arr 1 gen t e xs d
 |_,[],_,m,p,hp,_=>by simp at hp
 |j,(l,d)::ls,hk,m,p,hp,h3=>by
  simp only[JM,j8]at hk;cases m with
  |zero=>
   simp only[List.getElem?_cons_zero,Option.some.injEq]at hp;subst hp;have h3:d=3:=h3;subst h3;have hk:=hk.1;simp only[beq_self_eq_true,cond_true]at hk;cases hq:s.leaf i j with
   |arr AA gen t e xs d=>
    rw[hq]at hk;have hk:AA=1:=by simpa using hk
    subst hk;exact⟨gen,t,e,xs,d,rfl⟩
   |_=>rw[hq]at hk;cases hk
  |succ m=>
   obtain⟨gen,t,e,xs,d',hq⟩:=Iv (j+1) ls hk.2 m p (by simpa using hp) h3;exact⟨gen,t,e,xs,d',by rw[show j+(m+1)=j+1+m by omega];exact hq⟩
theorem FL(h:AW E s tm W)(i:Nat):∀(j:Nat) (ls:List (L×Nat)) (vs0 rest:List Lv) {us:List (Nat×Nat)} {k:List Lv→List (Nat×Nat)→Step β},vs0.length=ls.length→(Ep s i j ls (vs0++rest) us k).leads t→
  ∃(vs:List Lv) (W6:List (Nat×Nat)) (os:List (List Nat)),(k vs W6).leads t∧vs.length=ls.length∧os.length=ls.length∧BL W us W6 os∧∀(m:Nat)(p:L×Nat)(lv:Lv),ls[m]?=some p→vs[m]?=some lv→
   (Bs p.1=true∧lv.l=p.1∧∃u,E.Ol i (j+m)=some u∧lv.l.rd p.2 W.w W.fz u lv.x ((os[m]?).getD []))∨(Bs p.1=false∧vs0[m]?=some lv∧os[m]?=some [])
 |j,[],vs0,rest,us,k,hlen,hl=>⟨[],us,[],hl,rfl,rfl,.nil _,fun m p lv hp=>by simp at hp⟩
 |j,_::_,[],rest,us,k,hlen,hl=>by simp at hlen
 |j,(l,d)::ls,x::vs0,rest,us,k,hlen,hl=>by
  have WO:vs0.length=ls.length:=by simpa using hlen
  have plain:Bs l=false→(Ep s i (j+1) ls (vs0++rest) us fun ys us=>k (x::ys) us).leads t→∃(vs:List Lv) (W6:List (Nat×Nat)) (os:List (List Nat)),(k vs W6).leads t∧vs.length=((l,d)::ls).length∧os.length=((l,d)::ls).length∧BL W us W6 os∧∀(m:Nat)(p:L×Nat)(lv:Lv),((l,d)::ls)[m]?=some p→vs[m]?=some lv→
    (Bs p.1=true∧lv.l=p.1∧∃u,E.Ol i (j+m)=some u∧lv.l.rd p.2 W.w W.fz u lv.x ((os[m]?).getD []))∨(Bs p.1=false∧(x::vs0)[m]?=some lv∧os[m]?=some []):=by
   intro hs hl;obtain⟨vs,us1,os,hl,h1,h2,h3,h4⟩:=FL h i (j+1) ls vs0 rest WO hl;refine⟨x::vs,us1,[]::os,hl,by simp[h1],by simp[h2],.skip h3,fun m p lv hp hv=>?_⟩;cases m with
   |zero=>grind
   |succ m=>
    grind
  cases l with
  |int i=>exact plain rfl hl
  |bool=>exact plain rfl hl
  |str=>exact plain rfl hl
  |sl t0 e=>
   simp only[lJ,Ep]at hl;split at hl
   ·rename_i gen t' e' WW d' Vl;obtain⟨u,hu,Vw⟩:=(h.roots i).row Vl;have hini:=h.init.1 _ _ _ _ _ _ _ Vl
    have hv:AP s W (.ref ⟨i,j,1,gen,[]⟩) u:=by intro gen2 t2 e2 xs2 d2 Yu _;have Yu:s.leaf i j=_:=Yu;exact⟨u,e2,hu,rfl,rfl⟩
    obtain⟨y,us1,o,hl,hr,hb⟩:=ER h hv hl;obtain⟨vs,us2,os,hl,h1,h2,h3,h4⟩:=FL h i (j+1) ls vs0 rest WO hl;refine⟨⟨.sl t0 e,y⟩::vs,us2,o::os,hl,by simp[h1],by simp[h2],hb.append h3,fun m p lv hp hv=>?_⟩;cases m with
    |zero=>simp at hp hv;subst hp;subst hv;exact .inl ⟨rfl,rfl,u,by grind,by grind⟩
    |succ m=>
     grind
   ·obtain⟨x,us1,o,hl,hr,hb⟩:=ER h (v:=Go.undef) (show AP s W .bad Go.undef from trivial) hl;cases d with
    |zero=>
     exfalso;exact absurd hl id
    |succ d=>exact absurd hl id
theorem Ig(h:AW E s tm W):∀(i:Nat)(ps:List PM) (vss0:List (List Lv)) {us:List (Nat×Nat)} {k:List Lv→Step β},vss0.length=ps.length→(∀(j:Nat)(pm:PM)(vs:List Lv),ps[j]?=some pm→vss0[j]?=some vs→vs.length=pm.ins.length)→(C8 s i ps vss0.flatten us k).leads t→
  ∃(Vn:List (List Lv)) (W6:List (Nat×Nat)) (oss:List (List (List Nat))),(k Vn.flatten).leads t∧Vn.length=ps.length∧oss.length=ps.length∧BL W us W6 oss.flatten∧
   ∀(j:Nat)(pm:PM)(vs0 vs:List Lv) (os:List (List Nat)),ps[j]?=some pm→vss0[j]?=some vs0→Vn[j]?=some vs→oss[j]?=some os→MF E s W (i+j) pm vs0 vs os
 |i,[],vss0,us,k,hlen,WX,hl=>⟨[],us,[],hl,rfl,rfl,.nil _,fun j pm vs0 vs os hj=>by simp at hj⟩
 |i,_::_,[],us,k,hlen,WX,hl=>by simp at hlen
 |i,pm::ps,vs0::vss0,us,k,hlen,WX,hl=>by
  have WO:vss0.length=ps.length:=by simpa using hlen
  have fg:∀(j:Nat)(pm:PM)(vs:List Lv),ps[j]?=some pm→vss0[j]?=some vs→vs.length=pm.ins.length:=fun j ZF vs h1 h2=>WX (j+1) ZF vs (by grind) (by grind);have ZO:=WX 0 pm vs0 rfl rfl
  have fin:∀ {us1:List (Nat×Nat)} (vs:List Lv) (os:List (List Nat)),BL W us us1 os→MF E s W i pm vs0 vs os→(C8 s (i+1) ps vss0.flatten us1 fun ys=>k (vs++ys)).leads t→
    ∃(Vn:List (List Lv)) (W6:List (Nat×Nat)) (oss:List (List (List Nat))),(k Vn.flatten).leads t∧Vn.length=(pm::ps).length∧oss.length=(pm::ps).length∧BL W us W6 oss.flatten∧
     ∀(j:Nat)(ZF:PM)(vs1 vs:List Lv) (os:List (List Nat)),(pm::ps)[j]?=some ZF→(vs0::vss0)[j]?=some vs1→Vn[j]?=some vs→oss[j]?=some os→MF E s W (i+j) ZF vs1 vs os:=by
   intro us1 vs os hb hp hl;obtain⟨Vn,us2,oss,hl,h1,h2,h3,h4⟩:=Ig h (i+1) ps vss0 WO fg hl;refine⟨vs::Vn,us2,os::oss,by grind,by simp[h1],by simp[h2],by simpa using hb.append h3,fun j ZF vs1 YW Wc hj Zf hv ho=>?_⟩;cases j with
   |zero=>grind
   |succ j=>
    grind
  cases pm with
  |val g ls=>
   have e:vs0.length=ls.length:=ZO;simp only[kW,C8]at hl;rw[←e,lI]at hl;exact fin [] [] (.nil _) ⟨rfl,rfl⟩ (by simpa using hl)
  |fn f=>
   have e:vs0=[]:=kD ZO;subst e;simp only[kW,ku,C8]at hl;exact fin [] [] (.nil _) ⟨rfl,rfl⟩ (by simpa using hl)
  |box ls=>
   have e:vs0.length=ls.length:=by simpa[PM.ins]using ZO
   simp only[kW,C8]at hl;rw[show(vs0++vss0.flatten).drop ls.length=vss0.flatten by rw[←e,lI]]at hl;split at hl
   ·rename_i hc;simp only[j8,kI]at hc;obtain⟨⟨⟨hb,Vu⟩,hlen⟩,er⟩:=hc;have hv:AP s W (.ptr i 0 1) (.pointer (some ⟨W.bk i,0,none⟩)):=fun _ _=>rfl;obtain⟨as,hl,_,b,off,hp,V4⟩:=Fz h hv hl;injection hp with hp;injection hp with hp;injection hp with fQ ZB
    subst fQ;subst ZB;obtain⟨vs,us1,os,hl,h1,h2,h3,h4,h5⟩:=Dg h ls as (fun j=>W.w.cell? ⟨W.bk i,0+j,none⟩) V4 hl;refine fin vs os h4 ⟨hb,Vu,hlen,h1,h2,fun j p lv hj hv=>?_,fun j p hj h3=>?_⟩ hl
    ·grind
    ·obtain⟨gen,t,e,xs,d,hq⟩:=Iv 0 ls er j p hj h3;rw[kO]at hq;rw[←h.init.1 _ _ _ _ _ _ _ hq];obtain⟨_,q2⟩:=h.roots i;rw[kF hb]at q2;obtain⟨_,arr0,T0,fr0,k1,_,_,k2⟩:=q2;rw[k2];simp[World.cell?,k1]
   ·exact hl.elim
  |row g ls=>
   have e:vs0.length=ls.length:=by simpa[PM.ins]using ZO
   simp only[kW,C8]at hl;rw[show(vs0++vss0.flatten).drop ls.length=vss0.flatten by rw[←e,lI]]at hl;obtain⟨vs,us1,os,hl,h1,h2,h3,h4⟩:=FL h i 0 ls vs0 _ e hl;exact fin vs os h3 ⟨h1,h2,fun j p lv hp hv=>by grind⟩ hl
end
end Go.Ev
namespace Go.Ev
def Dn(i:Nat)(pm:PM)(vs:List Lv):AV:=match pm with
 | .val g _=>.v g (vs.map fun x=>.sc x.l x.x)
 | .box _=>one (.ptr i 0 1)
 | .row g ls=>.v g (BE i 0 ls vs)
 | .fn f=>one (.fn f)
def CG(pm:PM)(vs:List Lv)(r:Bo):Bo:=match pm with
 | .box ls=>⟨true,1,AZ 1 ls vs⟩
 | .row _ ls=>⟨false,1,AZ 1 ls vs⟩
 |_=>r
theorem DY(i:Nat):∀(j:Nat) (ls:List (L×Nat)) (vs:List Lv),vs.length=ls.length→(BE i j ls vs).length=ls.length
 |_,[],[],_=>rfl
 |_,[],_::_,h=>by simp at h
 |_,_::_,[],h=>by simp at h
 |j,(l,d)::ls,x::vs,h=>by simp[BE,DY i (j+1) ls vs (by simpa using h)]
theorem F6(i:Nat):∀(j:Nat) (ls:List (L×Nat)) (vs rest:List Lv),vs.length=ls.length→BE i j ls (vs++rest)=BE i j ls vs
 |_,[],[],rest,_=>by cases rest<;>simp[BE]
 |_,[],_::_,_,h=>by simp at h
 |_,_::_,[],_,h=>by simp at h
 |j,(l,d)::ls,x::vs,rest,h=>by simp[BE,F6 i (j+1) ls vs rest (by simpa using h)]
theorem Gt(i:Nat):∀(j:Nat) (ls:List (L×Nat)) (vs:List Lv) (m:Nat) (p:L×Nat) (lv:Lv),ls[m]?=some p→vs[m]?=some lv→(BE i j ls vs)[m]?=some (if Bs p.1 then(if p.2==4 then .CP else .ref ⟨i,j+m,1,1,[]⟩)else .sc lv.l lv.x)
 |_,[],_,m,p,lv,h,_=>by simp at h
 |_,_::_,[],m,p,lv,_,h=>by simp at h
 |j,(l,d)::ls,x::vs,0,p,lv,h1,h2=>by
  simp at h1 h2;subst h1;subst h2;cases l<;>rfl
 |j,(l,d)::ls,x::vs,m+1,p,lv,h1,h2=>by have:=Gt i (j+1) ls vs m p lv (by grind) (by grind);rw[show j+1+m=j+(m+1) by omega]at this;simpa[BE]using this
theorem F7(i:Nat):∀(j:Nat) (ls:List (L×Nat)) (vs:List Lv) (a:LA),a∈BE i j ls vs→∀n∈a.AG,n=1
 |_,[],_,a,h=>by simp[BE]at h
 |_,_::_,[],a,h=>by simp[BE]at h
 |j,(l,d)::ls,x::vs,a,h=>by
  rcases kS.1 (show a∈_::BE i (j+1) ls vs from h)with rfl|h
  ·intro n hn;cases l with
   |sl t e=>
    dsimp only at hn;split at hn
    ·simp[LA.AG]at hn
    ·simpa[LA.AG]using hn
   |_=>simp[LA.AG]at hn
  ·exact F7 i (j+1) ls vs a h
theorem C0(s:St)(w:Wr):(s.AF w).sl.length=s.sl.length∧(s.AF w).ro.length=s.ro.length:=by
 cases w<;>simp[St.AF,CY]
def Gk(i:Nat)(pm:PM)(vs:List Lv):List Wr:=match pm with
 | .val _ _=>[.slot i (Dn i pm vs)]
 | .fn _=>[.slot i (Dn i pm vs)]
 |_=>[.root i (CG pm vs dead),.slot i (Dn i pm vs)]
theorem MS(i:Nat)(pm:PM)(vs:List Lv)(s:St)(h1:i<s.sl.length)(h2:i<s.ro.length):
  (s.app (Gk i pm vs)).sl.length=s.sl.length∧(s.app (Gk i pm vs)).ro.length=s.ro.length∧(∀t,t≠i→(s.app (Gk i pm vs)).slot t=s.slot t∧(s.app (Gk i pm vs)).root t=s.root t)∧
   (s.app (Gk i pm vs)).slot i=Dn i pm vs∧(s.app (Gk i pm vs)).root i=CG pm vs (s.root i):=by
 have one:∀x,(s.app [.slot i x]).sl.length=s.sl.length∧(s.app [.slot i x]).ro.length=s.ro.length∧(∀t,t≠i→(s.app [.slot i x]).slot t=s.slot t∧(s.app [.slot i x]).root t=s.root t)∧
   (s.app [.slot i x]).slot i=x∧(s.app [.slot i x]).root i=s.root i:=by
  intro x;refine⟨(C0 s _).1,(C0 s _).2,fun t ht=>⟨?_,rfl⟩,?_,rfl⟩
  ·show(s.AF (.slot i x)).slot t=_;rw[BR,kG (fun hh=>ht hh.1.symm)]
  ·show(s.AF (.slot i x)).slot i=_;rw[BR,kF ⟨rfl,h1⟩]
 have two:∀y x,(s.app [.root i y,.slot i x]).sl.length=s.sl.length∧(s.app [.root i y,.slot i x]).ro.length=s.ro.length∧(∀t,t≠i→(s.app [.root i y,.slot i x]).slot t=s.slot t∧(s.app [.root i y,.slot i x]).root t=s.root t)∧
   (s.app [.root i y,.slot i x]).slot i=x∧(s.app [.root i y,.slot i x]).root i=y:=by
  intro y x;have XU:(s.AF (.root i y)).sl=s.sl:=rfl;refine⟨(C0 (s.AF (.root i y)) (.slot i x)).1.trans (C0 s _).1,(C0 (s.AF (.root i y)) (.slot i x)).2.trans (C0 s _).2,fun t ht=>⟨?_,?_⟩,?_,?_⟩
  ·show((s.AF (.root i y)).AF (.slot i x)).slot t=_;rw[BR,kG (fun hh=>ht hh.1.symm)];rfl
  ·show(s.AF (.root i y)).root t=_;rw[A3,kG (fun hh=>ht hh.1.symm)]
  ·show((s.AF (.root i y)).AF (.slot i x)).slot i=_;rw[BR,kF ⟨rfl,h1⟩]
  ·show(s.AF (.root i y)).root i=_;rw[A3,kF ⟨rfl,h2⟩]
 cases pm with
 |val g ls=>exact one _
 |fn f=>exact one _
 |box ls=>exact two _ _
 |row g ls=>exact two _ _
theorem Ht:∀(ps:List PM) (Vn:List (List Lv)) (i:Nat) {ws:List Wr} (s:St),Vn.length=ps.length→(∀(j:Nat)(pm:PM)(vs:List Lv),ps[j]?=some pm→Vn[j]?=some vs→vs.length=pm.ins.length)→
  DF i ps Vn.flatten=some ws→i+ps.length≤s.sl.length→i+ps.length≤s.ro.length→
  (s.app ws).sl.length=s.sl.length∧(s.app ws).ro.length=s.ro.length∧(∀t,(t<i∨i+ps.length≤t)→(s.app ws).slot t=s.slot t∧(s.app ws).root t=s.root t)∧
   ∀(j:Nat)(pm:PM)(vs:List Lv),ps[j]?=some pm→Vn[j]?=some vs→(s.app ws).slot (i+j)=Dn (i+j) pm vs∧(s.app ws).root (i+j)=CG pm vs (s.root (i+j))
 | [],[],i,ws,s,hlen,hv,h,h1,h2=>by
  have:ws=[]:=by simpa[DF]using h.symm
  subst this;exact⟨rfl,rfl,fun t ht=>⟨rfl,rfl⟩,fun j pm vs hj=>by simp at hj⟩
 | [],_::_,i,ws,s,hlen,hv,h,h1,h2=>by simp at hlen
 |_::_,[],i,ws,s,hlen,hv,h,h1,h2=>by simp at hlen
 |pm::ps,vs::Vn,i,ws,s,hlen,hv,h,h1,h2=>by
  have XB:vs.length=pm.ins.length:=hv 0 pm vs rfl rfl
  have hex:∃XX,DF (i+1) ps Vn.flatten=some XX∧ws=Gk i pm vs++XX:=by
   cases pm with
   |val g ls=>
    simp only[kW,DF]at h;have Xo:vs.length=ls.length:=XB;rw[←Xo,lI,List.take_left]at h;split at h
    ·rename_i XX hq;injection h with h
     exact⟨XX,hq,h.symm⟩
    ·cases h
   |fn f=>
    have Xo:vs=[]:=kD XB;subst Xo;simp only[kW,DF,ku]at h;split at h
    ·rename_i XX hq;injection h with h
     exact⟨XX,hq,h.symm⟩
    ·cases h
   |box ls=>
    simp only[kW,DF]at h;have Xo:vs.length=ls.length:=by simpa[PM.ins]using XB
    have hd:(vs++Vn.flatten).drop ls.length=Vn.flatten:=by rw[←Xo,lI]
    rw[hd,DI 1 ls vs _ Xo]at h;split at h
    ·rename_i XX hq;injection h with h
     exact⟨XX,hq,h.symm⟩
    ·cases h
   |row g ls=>
    simp only[kW,DF]at h;have Xo:vs.length=ls.length:=by simpa[PM.ins]using XB
    have hd:(vs++Vn.flatten).drop ls.length=Vn.flatten:=by rw[←Xo,lI]
    rw[hd,DI 1 ls vs _ Xo,F6 i 0 ls vs _ Xo]at h;split at h
    ·rename_i XX hq;injection h with h
     exact⟨XX,hq,h.symm⟩
    ·cases h
  obtain⟨XX,hq,rfl⟩:=hex;simp only[lT]at h1 h2;obtain⟨a1,a2,a3,a4,a5⟩:=MS i pm vs s (by omega) (by omega);obtain⟨b1,b2,b3,b4⟩:=Ht ps Vn (i+1) (s.app (Gk i pm vs)) (by simpa using hlen) (fun j ZF YW hj W0=>hv (j+1) ZF YW (by simpa using hj) (by simpa using W0)) hq (by rw[a1];omega) (by rw[a2];omega);rw[BF];grind
section
variable {P:Program}{w:World}{fz:Nat→Prop}{ps:List PM}{args:List Value}{Vn:List (List Lv)}{bk:Nat→Nat}{om:Key→List Nat}{N:Nat}{ws:List Wr}
open Classical in
noncomputable def Fm (ps:List PM) (w:World) (args:List Value) (bk:Nat→Nat) (r j:Nat):Option Value:=match ps[r]? with
 |some (.box _)=>w.cell? ⟨bk r,j,none⟩
 |some (.row g _)=>(args[r]?).bind fun u=>Ay g u j
 |_=>none
noncomputable def Hj (T:List (String×Array Value)) (ps:List PM) (w:World) (fz:Nat→Prop) (args:List Value) (bk:Nat→Nat) (om:Key→List Nat):Cy:=
 {base:=w.heap.size,io:=fun b=>∃k,b∈om k,fa:=fz,w0:=w,Ol:=Fm ps w args bk,Pc:=bk,Nx:=T }
noncomputable def L9 (ps:List PM) (w:World) (fz:Nat→Prop) (args:List Value) (bk:Nat→Nat) (om:Key→List Nat):Wd:=
 {w:=w,fz:=fz,cv:=Fm ps w args bk,bk:=bk,om:=om }
theorem NK.kinds{pm:PM}{u:Value}{vs:List Lv}{b:Nat}{own:Nat→List Nat}(h:NK w fz pm u vs b own):vs.length=pm.ins.length:=by
 cases pm with
 |val g ls=>have:=congrArg List.length h.1;simpa[PM.ins]using this
 |box ls=>have:=congrArg List.length h.2.1;simpa[PM.ins]using this
 |row g ls=>have:=congrArg List.length h.1.1;simpa[PM.ins]using this
 |fn f=>rw[h.2];rfl
theorem Ha(n t:Nat):(blank n).slot t=one .bad:=by
 show nth _ (List.replicate n (one .bad)) t=_;rw[Ai,List.getElem?_replicate];split<;>rfl
theorem D5(n t:Nat):(blank n).root t=dead:=by
 show nth _ (List.replicate n dead) t=_;rw[Ai,List.getElem?_replicate];split<;>rfl
theorem MT(Vm:Ca ps w fz args Vn bk om)(hp:DF 0 ps Vn.flatten=some ws)(hN:ps.length≤N):Inv N ((blank N).app ws):=by
 obtain⟨b1,b2,b3,b4⟩:=Ht ps Vn 0 (blank N) Vm.BQ (fun j pm vs hj hv=>by
  obtain⟨u,hu⟩:∃u,args[j]?=some u:=⟨_,j7 (by rw[Vm.len];grind)⟩;exact(Vm.each j pm u vs hj hu hv).kinds) hp (by simp[blank];exact hN) (by simp[blank];exact hN)
 simp only[kO]at b3 b4;have Yb:((blank N).app ws).Bp=2:=JC ws _
 have get:∀t,(∃pm vs,ps[t]?=some pm∧Vn[t]?=some vs∧((blank N).app ws).slot t=Dn t pm vs∧((blank N).app ws).root t=CG pm vs dead)∨(((blank N).app ws).slot t=one .bad∧((blank N).app ws).root t=dead):=by
  intro t;rcases kq t ps.length with Vs|Wg
  ·left;have h1:=j7 Vs;have h2:=j7 (show t<Vn.length by rw[Vm.BQ];exact Vs);obtain⟨c1,c2⟩:=b4 t _ _ h1 h2;rw[D5]at c2;grind
  ·right;obtain⟨c1,c2⟩:=b3 t (.inr Wg);rw[Ha]at c1;rw[D5]at c2;grind
 have nl:∀(ls:List (L×Nat)) (vs:List Lv),∀a∈AZ 1 ls vs,(∀n∈a.AG,n=1)∧a.Ce=true:=by
  intro ls
  induction ls with
  |nil=>intro vs a ha;simp[AZ]at ha
  |cons p ls ih=>
   intro vs a ha;cases vs with
   |nil=>simp[AZ]at ha
   |cons x vs=>
    rcases kS.1 (show a∈BT 1 p.2 x::AZ 1 ls vs from ha)with rfl|ha
    ·exact KG 1 _ _
    grind
 have rt:∀(pm:PM)(vs:List Lv),((CG pm vs dead).AA<2)∧∀a∈(CG pm vs dead).ls,(∀n∈a.AG,n=1)∧a.Ce=true:=by
  intro pm vs;cases pm with
  |val g ls=>exact⟨by simp[CG,dead],fun a ha=>by simp[CG,dead]at ha⟩
  |fn f=>exact⟨by simp[CG,dead],fun a ha=>by simp[CG,dead]at ha⟩
  |box ls=>exact⟨by simp[CG],fun a ha=>nl ls vs a ha⟩
  |row g ls=>exact⟨by simp[CG],fun a ha=>nl ls vs a ha⟩
 refine⟨⟨fun t n hn=>?_,fun r n hn=>?_⟩,by omega,by rw[b1];simp[blank],by rw[b2];simp[blank],fun r a ha=>?_⟩
 ·rw[Yb];rcases get t with⟨pm,vs,_,_,h1,_⟩|⟨h1,_⟩
  ·rw[h1]at hn;cases pm with
   |val g ls=>
    exfalso;simp only[Dn,AV.AG,kA,kt]at hn;obtain⟨a,⟨x,_,rfl⟩,hn⟩:=hn;cases hn
   |fn f=>simp[Dn,one,AV.AG,LA.AG]at hn
   |box ls=>simp[Dn,one,AV.AG,LA.AG]at hn;omega
   |row g ls=>
    obtain⟨a,ha,hn⟩:=kA.1 (show n∈(BE t 0 ls vs).flatMap LA.AG from hn);have:=F7 t 0 ls vs a ha n hn;omega
  ·rw[h1]at hn;simp[one,AV.AG,LA.AG]at hn
 ·rw[Yb];rcases get r with⟨pm,vs,_,_,_,h1⟩|⟨_,h1⟩
  ·rw[h1]at hn;rcases kS.1 (show n∈(CG pm vs dead).AA::(CG pm vs dead).ls.flatMap LA.AG from hn)with rfl|hn
   all_goals grind
  ·rw[h1]at hn;simp[dead,Bo.AG]at hn;omega
 ·rcases get r with⟨pm,vs,_,_,_,h1⟩|⟨_,h1⟩
  ·grind
  ·rw[h1]at ha;simp[dead]at ha
theorem MU{T:List (String×Array Value)}(Vm:Ca ps w fz args Vn bk om)(hp:DF 0 ps Vn.flatten=some ws)(hN:ps.length≤N):
  AW (Hj T ps w fz args bk om) ((blank N).app ws) (args.toArray++Array.replicate (N-args.toArray.size) undef) (L9 ps w fz args bk om):=by
 obtain⟨b1,b2,b3,b4⟩:=Ht ps Vn 0 (blank N) Vm.BQ (fun j pm vs hj hv=>by
  obtain⟨u,hu⟩:∃u,args[j]?=some u:=⟨_,j7 (by rw[Vm.len];grind)⟩;exact(Vm.each j pm u vs hj hu hv).kinds) hp (by simp[blank];exact hN) (by simp[blank];exact hN)
 simp only[kO]at b3 b4
 have V7:(args.toArray++Array.replicate (N-args.toArray.size) undef).size=N:=by have:=Vm.len;simp;omega
 have get:∀t,(∃pm u vs,ps[t]?=some pm∧args[t]?=some u∧Vn[t]?=some vs∧((blank N).app ws).slot t=Dn t pm vs∧((blank N).app ws).root t=CG pm vs dead∧(args.toArray++Array.replicate (N-args.toArray.size) undef).getD t Go.undef=u) ∨
   (ps[t]?=none∧((blank N).app ws).slot t=one .bad∧((blank N).app ws).root t=dead):=by
  intro t;rcases kq t ps.length with Vs|Wg
  ·left;have h1:=j7 Vs;have dG:t<args.length:=by rw[Vm.len];exact Vs
   have h0:=j7 dG;have h2:=j7 (show t<Vn.length by rw[Vm.BQ];exact Vs);obtain⟨c1,c2⟩:=b4 t _ _ h1 h2;rw[D5]at c2;refine⟨_,_,_,h1,h0,h2,c1,c2,?_⟩;rw[kY,ka (by omega)];simp[dG]
  ·right;obtain⟨c1,c2⟩:=b3 t (.inr Wg);rw[Ha]at c1;rw[D5]at c2;grind
 refine⟨by rw[b1,V7];simp[blank],by rw[b2,V7];simp[blank],fun t=>?_,fun r=>?_,?_,⟨fun _ _ _ _ _ _ _ _=>rfl,fun _ _ _=>rfl⟩⟩
 ·rcases get t with⟨pm,u,vs,h1,h2,h3,h4,h5,h6⟩|⟨_,h4,_⟩
  ·rw[h4,h6];have ha:=Vm.each t pm u vs h1 h2 h3;cases pm with
   |val g ls=>
    obtain⟨a1,a2,a3⟩:=ha;have hlen:vs.length=ls.length:=by have:=congrArg List.length a1;simpa using this
    have Vw:∀(j:Nat)(lv:Lv),vs[j]?=some lv→∃y,Ay g u j=some y∧lv.l.rd 0 w fz y lv.x []:=by
     intro j lv hj;have Vs:j<ls.length:=by rw[←hlen];exact(j9.1 hj).1
     exact a3 j (ls[j],0) lv (by simp[Vs]) hj
    cases g with
    |false=>
     have Xo:vs.length=1:=by rw[hlen];simpa using a2
     obtain⟨lv,rfl⟩:∃lv,vs=[lv]:=by
      match vs,Xo with
      | [x],_=>grind
     obtain⟨y,hy,hr⟩:=Vw 0 lv rfl;simp[Ay]at hy;subst hy;exact hr
    |true=>
     obtain⟨cs,rfl,Xt⟩:=a2;refine⟨cs,rfl,by grind,fun j a hj=>?_⟩;simp only[kN]at hj;cases hq:vs[j]? with
     |none=>grind
     |some lv=>
      rw[hq]at hj;injection hj with hj;subst hj
      obtain⟨y,hy,hr⟩:=Vw j lv hq;exact⟨y,hy,hr⟩
   |box ls=>exact fun _ _=>ha.1
   |row g ls=>
    obtain⟨⟨a1,a2,a3⟩,a4⟩:=ha;have hlen:vs.length=ls.length:=by have:=congrArg List.length a1;simpa using this
    have Vl:∀(j:Nat)(p:L×Nat)(lv:Lv),ls[j]?=some p→vs[j]?=some lv→((blank N).app ws).leaf t j=BT 1 p.2 lv:=by intro j p lv p1 p2;show nth LA.bad (((blank N).app ws).root t).ls j=_;rw[h5];show nth LA.bad (AZ 1 ls vs) j=_;rw[Ai,B6 1 ls vs j _ _ p1 p2];rfl
    have WQ:∀(j:Nat)(a:LA),(BE t 0 ls vs)[j]?=some a→∃y,Ay g u j=some y∧AP ((blank N).app ws) (L9 ps w fz args bk om) a y:=by
     intro j a hj;have Vs:j<ls.length:=by rw[←DY t 0 ls vs hlen];exact(j9.1 hj).1
     have p1:=j7 Vs;have p2:=j7 (show j<vs.length by omega);obtain⟨y,hy,hr⟩:=a3 j _ _ p1 p2;refine⟨y,hy,?_⟩;rw[Gt t 0 ls vs j _ _ p1 p2]at hj;injection hj with hj
     subst hj
     have Xo:vs[j].l=ls[j].1:=by have:=congrArg (fun x=>x[j]?) a1;simpa[p1,p2]using this
     split
     ·split
      ·rename_i XU al;have:=a4 j _ p1 XU (kI.1 al);rw[hy]at this;exact Option.some.inj this
      intro gen t2 e2 xs2 d2 hl _;have hl:((blank N).app ws).leaf t (0+j)=_:=hl;rw[kO,Vl j _ _ p1 p2]at hl;refine⟨y,e2,?_,rfl,rfl⟩;show Fm ps w args bk t (0+j)=some y;simp[Fm,h1,h2,hy]
     ·rename_i hs;have:=(L.Aa (d':=0) (w':=w) (Vp:=fz) vs[j].l (by grind) hr);have h7:=this.1;rw[show(fun j=>om (Key.lf t j)) j=[]from this.2]at h7;exact h7
    cases g with
    |false=>
     obtain⟨a,gA⟩:∃a,BE t 0 ls vs=[a]:=by
      have:=(DY t 0 ls vs hlen).trans a2
      match h:BE t 0 ls vs,this with
      | [x],_=>grind
     show E6 _ _ false (BE t 0 ls vs) u;obtain⟨y,hy,hr⟩:=WQ 0 a (by rw[gA];rfl);simp[Ay]at hy;subst hy;rw[gA];exact hr
    |true=>
     obtain⟨cs,rfl,Xt⟩:=a2;exact⟨cs,rfl,by rw[Xt,DY t 0 ls vs hlen],fun j a hj=>WQ j a hj⟩
   |fn f=>exact ha.1
  ·rw[h4];trivial
 ·have Xc:(∀ls,ps[r]?≠some (.box ls))→(∀g ls,ps[r]?≠some (.row g ls))→EK ((blank N).app ws) (L9 ps w fz args bk om) r dead:=by
   intro q1 q2;refine⟨fun j=>?_,?_⟩
   ·have:nth LA.bad dead.ls j=.bad:=by simp[dead,nth]
    rw[this];exact⟨Vm.none r q1 q2 j,fun _ _=>trivial⟩
   ·show om (.AT r)=[];rw[Vm.AT];split
    ·rename_i ls hq;exact absurd hq (q1 ls)
    ·rfl
  rcases get r with⟨pm,u,vs,h1,h2,h3,h4,h5,h6⟩|⟨h1,_,h5⟩
  ·rw[h5];have ha:=Vm.each r pm u vs h1 h2 h3;cases pm with
   |val g ls=>exact Xc (fun ZP hq=>by rw[h1]at hq;cases hq) (fun g ls hq=>by rw[h1]at hq;cases hq)
   |fn f=>exact Xc (fun ZP hq=>by rw[h1]at hq;cases hq) (fun g ls hq=>by rw[h1]at hq;cases hq)
   |box ls=>
    obtain⟨a1,a2,arr,T,fr,a3,a4,a5,a6⟩:=ha;have hlen:vs.length=ls.length:=by have:=congrArg List.length a2;simpa using this
    have WE:∀j,Fm ps w args bk r j=arr[j]?:=by intro j;simp[Fm,h1,World.cell?,a3]
    refine⟨fun j=>?_,?_⟩
    ·show Ab _ _ (nth .bad (AZ 1 ls vs) j) (Fm ps w args bk r j) (om (.lf r j));rcases kq j ls.length with Vs|Wg
     ·have p1:=j7 Vs;have p2:=j7 (show j<vs.length by omega);obtain⟨y,hy,hr⟩:=a6 j _ _ p1 p2;rw[Ai,B6 1 ls vs j _ _ p1 p2,WE,hy];exact FZ (W':=L9 ps w fz args bk om) hr
     ·rw[A6 _ (by rw[Bk 1 ls vs hlen];exact Wg)];exact⟨Vm.box r ls h1 j Wg,fun _ _=>trivial⟩
    ·show(if true=true then _ else _);rw[kF rfl];refine⟨?_,arr,T,fr,a3,a4,?_,fun j=>WE j⟩
     ·show om (.AT r)=[bk r];rw[Vm.AT,h1]
     ·show arr.size=(AZ 1 ls vs).length;rw[Bk 1 ls vs hlen,a5]
   |row g ls=>
    obtain⟨⟨a1,a2,a3⟩,a4⟩:=ha;have hlen:vs.length=ls.length:=by have:=congrArg List.length a1;simpa using this
    refine⟨fun j=>?_,?_⟩
    ·show Ab _ _ (nth .bad (AZ 1 ls vs) j) (Fm ps w args bk r j) (om (.lf r j));rcases kq j ls.length with Vs|Wg
     ·have p1:=j7 Vs;have p2:=j7 (show j<vs.length by omega);obtain⟨y,hy,hr⟩:=a3 j _ _ p1 p2;rw[Ai,B6 1 ls vs j _ _ p1 p2,show Fm ps w args bk r j=some y by simp[Fm,h1,h2,hy]];exact FZ (W':=L9 ps w fz args bk om) hr
     ·rw[A6 _ (by rw[Bk 1 ls vs hlen];exact Wg)];exact⟨Vm.row r g ls h1 j Wg,fun _ _=>trivial⟩
    ·show om (.AT r)=[];rw[Vm.AT,h1]
  grind
 ·exact {
   nodup:=Vm.nodup
   Av:=Vm.Av
   own:=fun k b hb=>⟨(Vm.own k b hb).1,(Vm.own k b hb).2,.inr ⟨k,hb⟩⟩
   fz:=fun b hb=>⟨Vm.fz b hb,.inl hb⟩
   frame:=fun _ _ _=>rfl
   size:=kT _
   rest:=⟨rfl,rfl,rfl⟩ }
end
end Go.Ev
namespace Go.Ev
theorem Gs{P:Program}{fn:Func}{tm:Array Value}{w:World}{vals:List Value}(h:Jk P w tm fn.results.toList vals):(results fn tm).run P w=.ok (JZ vals) w:=by
 have key:∀(g:ResultVar→Sem Value),(∀t,g (.tmp t)=pure (tm.getD t undef))→(∀t T,g (.cell t T)=(do loadVar T (←asAddr (tm.getD t undef))))→∀(l:List ResultVar)(vals:List Value),Jk P w tm l vals→(l.mapM g).run P w=.ok vals w:=by
  intro g hg cE l
  induction l with
  |nil=>
   intro vals hl;cases vals with
   |nil=>rfl
   |cons v vs=>exact hl.elim
  |cons v l ih=>
   intro vals hl;cases vals with
   |nil=>cases v<;>exact hl.elim
   |cons u us=>
    rw[List.mapM_cons,Sem.run_bind];cases v with
    |tmp t=>
     obtain⟨rfl,hl⟩:=hl;rw[hg];simp[Sem.run_bind,ih us hl]
    |cell a t=>
     obtain⟨h1,hl⟩:=hl;rw[cE,h1];simp[Sem.run_bind,ih us hl]
 unfold results;rw[Array.mapM_eq_mapM_toList];simp only[map_eq_pure_bind,bind_assoc,pure_bind];rw[Sem.run_bind,key _ ?h1 ?h2 _ vals h]
 case h1=>intro t;rfl
 case h2=>grind
 show Result.ok _ w=_;congr 1
 match vals with
 | []=>rfl
 | [u]=>rfl
 |u::v::l=>simp[JZ]
section
variable {P:Program}{ty:TypeId→Option Ty}{env:Env}{an:An}{n:Nat}{sm:Sm}{fn:Func}{f:FuncId}{c:Code}
theorem Nr{T:List (String×Array Value)}{w:World}{fz:Nat→Prop}{args:List Value}{Vn:List (List Lv)}{bk:Nat→Nat}{om:Key→List Nat}{s:St}{W:Wd}{tm:Array Value}{z:sm.outs.D}
  (Vm:Ca sm.ps w fz args Vn bk om) (h:AW (Hj T sm.ps w fz args bk om) s tm W) (Xf:∀t x,ty t=some x→N1 P t x) (hz:IH ty sm fn.results.toList Vn.flatten s=some z):
  ∃r WR rv vsR vsP,(results fn tm).run P W.w=.ok r W.w∧El sm w fz args bk om z r W.w W.fz WR rv vsR vsP:=by
 unfold IH at hz;obtain⟨tt,hl,YY⟩:=Step.C3 _ hz;obtain⟨vals,vsR,us1,osR,hl,XP,aF,XE⟩:=HX Xf h sm.rs fn.results.toList hl
 obtain⟨vsP,us2,osP,hl,hZ,XI,XT,XN⟩:=Ig h 0 sm.ps Vn Vm.BQ (fun j pm vs hj hv=>by
  obtain⟨u,hu⟩:∃u,args[j]?=some u:=⟨_,j7 (by rw[Vm.len];grind)⟩;exact(Vm.each j pm u vs hj hu hv).kinds) hl
 have hl:vsR.flatten++vsP.flatten=tt:=hl;subst hl;have aA:=XP.append XT;have ax:=aA.pair h.sep.Av;have Wi:=aA.nodup;have YM:=aA.mem;rw[List.pairwise_append]at ax;obtain⟨fQ,ZB,dN⟩:=ax;rw[List.pairwise_flatten]at ZB;obtain⟨ZB,eE⟩:=ZB
 let WR:Key→List Nat
  | .fl k=>(osR[k]?).getD []
  | .lf i j=>(((osP[i]?).getD [])[j]?).getD []
  | .AT i=>om (.AT i)
 have inR:∀k,∀b∈WR (.fl k),∃o,osR[k]?=some o∧b∈o:=by
  intro k b hb;have hb:b∈(osR[k]?).getD []:=hb;cases hq:osR[k]? with
  |none=>grind
  |some o=>grind
 have inP:∀i j,∀b∈WR (.lf i j),∃os o,osP[i]?=some os∧os[j]?=some o∧b∈o:=by
  intro i j b hb;have hb:b∈(((osP[i]?).getD [])[j]?).getD []:=hb;cases hq:osP[i]? with
  |none=>grind
  |some os=>
   grind
 have memP:∀ {i j:Nat} {os:List (List Nat)} {o:List Nat},osP[i]?=some os→os[j]?=some o→o∈osP.flatten:=fun h1 h2=>List.mem_flatten.2 ⟨_,kC h1,kC h2⟩
 have blkW:∀i,∀b∈om (.AT i),W.om (.AT i)=om (.AT i):=by
  intro i b hb;have hk:=Vm.AT i;cases hq:sm.ps[i]? with
  |none=>grind
  |some pm=>
   rw[hq]at hk;cases pm with
   |box ls=>
    have Vs:i<sm.ps.length:=(j9.1 hq).1;have Z0:=XN i (.box ls) _ _ _ hq (j7 (by rw[Vm.BQ];exact Vs)) (j7 (by omega)) (j7 (by omega));rw[kO]at Z0;obtain⟨b1,b2,_⟩:=Z0;have h2:=(h.roots i).2;rw[kF b1]at h2;rw[h2.1,h.init.2 i b1 b2,hk];rfl
   |val g ls=>grind
   |row g ls=>grind
   |fn f=>grind
 have ah:∀k,∀b∈WR k,∃k0,b∈W.om k0∧((∃i,k0=.AT i∧k=.AT i)∨∃r j,k0=.lf r j):=by
  intro k b hb;cases k with
  |fl k=>
   grind
  |lf i j=>
   grind
  |AT i=>
   grind
 have iJ:=Gs aF;refine⟨_,WR,vals,vsR,vsP,iJ,?_⟩
 refine {
  outs:=Ae _ _ _ YY
  res:=rfl
  IG:=XE 0 _ fun j hj=>by grind
  len:=hZ
  each:=?_
  AT:=fun _=>rfl
  nodup:=?_
  Av:=?_
  own:=?_
  fz:=fun b hb=>h.sep.fz b hb |>.imp id fun hh=>hh.imp id id
  frame:=fun b hb hk=>h.sep.frame b hb fun⟨k,hh⟩=>hk k hh
  size:=h.sep.size
  rest:=h.sep.rest
  kept:=?_ }
 rotate_right
 ·intro i ls j p h1 h2 h3;have Vs:i<osP.length:=by rw[XI];exact(j9.1 h1).1
  have ZO:=j7 (show i<Vn.length by rw[Vm.BQ];omega);have Zf:=j7 (show i<vsP.length by omega);have Z0:=XN i (.box ls) _ _ _ h1 ZO Zf (j7 Vs);rw[kO]at Z0;obtain⟨b1,b2,b3,b4,b5,b6,b7⟩:=Z0;have hq:=b7 j p h2 h3;rw[h.init.2 i b1 b2]at hq;have hq:W.w.cell? ⟨bk i,j,none⟩=Fm sm.ps w args bk i j:=hq;rw[hq];simp only[Fm,h1]
 ·intro i pm u vs h1 h2 h3;have Vs:i<osP.length:=by rw[XI];exact(j9.1 h1).1
  have fN:=j7 Vs;obtain⟨vs0,ZO⟩:∃vs0,Vn[i]?=some vs0:=⟨_,j7 (by rw[Vm.BQ];omega)⟩;have Z0:=XN i pm vs0 vs _ h1 ZO h3 fN;rw[kO]at Z0;have ha:=Vm.each i pm u vs0 h1 h2 ZO
  have YP:∀j,WR (.lf i j)=(osP[i][j]?).getD []:=by intro j;show(((osP[i]?).getD [])[j]?).getD []=_;rw[fN];rfl
  cases pm with
  |val g ls=>exact Z0.1
  |fn f=>exact Z0.1
  |box ls=>
   obtain⟨b1,b2,b3,b4,b5,b6,_⟩:=Z0;have X7:=(h.roots i).2;rw[kF b1]at X7;obtain⟨q1,arr,T,fr,q2,q3,q4,q5⟩:=X7;have Zb:W.bk i=bk i:=h.init.2 i b1 b2;rw[Zb]at q2;refine⟨ha.1,b4,arr,T,fr,q2,q3,by rw[q4,b3],fun j p lv hj hv=>?_⟩;obtain⟨y,hy,hr⟩:=b6 j p lv hj hv;refine⟨y,?_,?_⟩
   ·rw[Zb]at hy;simpa[World.cell?,q2]using hy
   grind
  |row g ls=>
   obtain⟨⟨a1,a2,a3⟩,_⟩:=ha;obtain⟨b1,b2,b3⟩:=Z0;have hlen0:vs0.length=ls.length:=by have:=congrArg List.length a1;simpa using this
   have ep:∀(j:Nat)(p:L×Nat)(lv:Lv),ls[j]?=some p→vs[j]?=some lv→lv.l=p.1∧∃y,Ay g u j=some y∧lv.l.rd p.2 W.w W.fz y lv.x (WR (.lf i j)):=by
    intro j p lv hj hv;rw[YP];rcases b3 j p lv hj hv with⟨_,c2,y,hy,hr⟩|⟨c1,c2,c3⟩
    ·refine⟨c2,y,?_,hr⟩;have hy:Fm sm.ps w args bk i j=some y:=hy;simpa[Fm,h1,h2]using hy
    ·obtain⟨y,hy,hr⟩:=a3 j p lv hj c2
     have hl:lv.l=p.1:=by have:=congrArg (fun x=>x[j]?) a1;simpa[hj,c2]using this
     have Zn:=L.Aa (d':=p.2) (w':=W.w) (Vp:=W.fz) lv.l (by rw[hl];exact c1) hr;have h7:=Zn.1;rw[show(fun j=>om (Key.lf i j)) j=[]from Zn.2]at h7;refine⟨hl,y,hy,?_⟩;rw[c3];exact h7
   refine⟨?_,a2,fun j p lv hj hv=>(ep j p lv hj hv).2⟩;apply List.ext_getElem?;grind
 ·intro k;cases k with
  |fl k=>
   grind
  |lf i j=>
   grind
  |AT i=>exact Vm.nodup _
 ·intro k k' Vv b hb Vz
  have cross:∀i (k0:Key),(∀i,k0≠.AT i)→b∈WR (.AT i)→b∈WR k0→False:=by
   intro i k0 hk h1 h2;have h1:b∈om (.AT i):=h1;have h3:b∈W.om (.AT i):=by rw[blkW i b h1];exact h1
   obtain⟨k1,h4,h5⟩:=ah k0 b h2;rcases h5 with⟨i',_,h5⟩|⟨r,j,rfl⟩
   ·grind
   ·exact h.sep.Av _ _ (by simp) b h3 h4
  cases k with
  |AT i=>cases k' with
   |AT i'=>exact Vm.Av _ _ Vv b hb Vz
   |lf i' j'=>exact cross i (.lf i' j') (by simp) hb Vz
   |fl k'=>exact cross i (.fl k') (by simp) hb Vz
  |lf i j=>cases k' with
   |AT i'=>exact cross i' (.lf i j) (by simp) Vz hb
   |lf i' j'=>
    obtain⟨os,o,h1,h2,hb⟩:=inP i j b hb;obtain⟨Wc,o',XS,X7,hc⟩:=inP i' j' b Vz;by_cases hi:i=i'
    ·subst hi;rw[h1]at XS;injection XS with XS;subst XS
     have hj:j≠j':=fun e=>Vv (by rw[e]);exact JW (fun _ _=>FI.symm) (ZB os (kC h1)) hj h2 X7 b hb hc
    ·have:=JW (R:=fun l₁ l₂=>∀x,x∈l₁→∀y,y∈l₂→FI x y) (fun a c hh x hx y hy=>(hh y hy x hx).symm) eE hi h1 XS;exact this o (kC h2) o' (kC X7) b hb hc
   |fl k'=>
    obtain⟨os,o,h1,h2,hb⟩:=inP i j b hb;obtain⟨o',XS,Vz⟩:=inR k' b Vz;exact dN o' (kC XS) o (memP h1 h2) b Vz hb
  |fl k=>cases k' with
   |AT i'=>exact cross i' (.fl k) (by simp) Vz hb
   |lf i' j'=>
    obtain⟨os,o,h1,h2,Vz⟩:=inP i' j' b Vz;obtain⟨o',XS,hb⟩:=inR k b hb;exact dN o' (kC XS) o (memP h1 h2) b hb Vz
   |fl k'=>
    obtain⟨o,h1,hb⟩:=inR k b hb;obtain⟨o',XS,Vz⟩:=inR k' b Vz;exact JW (fun _ _=>FI.symm) fQ (fun e=>Vv (by rw[e])) h1 XS b hb Vz
 ·intro k b hb;obtain⟨k0,h1,_⟩:=ah k b hb;exact h.sep.own k0 b h1
theorem Ob{T:List (String×Array Value)}{w:World}{fz:Nat→Prop}{args:List Value}{Vn:List (List Lv)}{bk:Nat→Nat}{om:Key→List Nat}{s:St}{W:Wd}{tm:Array Value}{z:sm.outs.D}{v:Nat}
  (Vm:Ca sm.ps w fz args Vn bk om) (h:AW (Hj T sm.ps w fz args bk om) s tm W) (hv:Af s v) (Xf:∀t x,ty t=some x→N1 P t x) (X0:sm.mk?=false) (hz:DX ty sm fn.results.toList Vn.flatten s=some z):
  ∃r Vp WR rv vsR vsP,(results fn tm).run P W.w=.ok r W.w∧El sm w fz args bk om z r W.w Vp WR rv vsR vsP:=by
 unfold DX at hz;rw[X0]at hz;simp only[lh,if_false]at hz;split at hz
 ·rename_i fs Xg;obtain⟨W1,h1,fr,_⟩:=Eu h hv Xg;obtain⟨r,WR,rv,vsR,vsP,q1,q2⟩:=Nr (P:=P) (fn:=fn) Vm h1 Xf hz;rw[fr.w]at q1 q2;grind
 ·cases hz
theorem IB:∀(ls:List L)(as:List LA) {vs:List Lv},DW ls as=some vs→vs.map (·.l)=ls∧as.length=ls.length∧∀(j:Nat)(lv:Lv),vs[j]?=some lv→as[j]?=some (.sc lv.l lv.x)
 | [],[],vs,h=>by simp only[DW,Option.some.injEq]at h;grind
 |l::ls,a::as,vs,h=>by
  cases a with
  |sc m x=>
   simp only[DW]at h;split at h
   ·rename_i y ys hc hr;injection h with h
    subst h;obtain⟨h1,h2,h3⟩:=IB ls as hr;obtain⟨rfl,iV⟩:=L.AH hc;grind
   ·cases h
  |_=>simp[DW]at h
 | [],_::_,vs,h=>by simp[DW]at h
 |_::_,[],vs,h=>by simp[DW]at h
theorem Oa{T:List (String×Array Value)}{w:World}{fz:Nat→Prop}{args:List Value}{Vn:List (List Lv)}{bk:Nat→Nat}{om:Key→List Nat}{s:St}{W:Wd}{tm:Array Value}{z:sm.outs.D}
  (Vm:Ca sm.ps w fz args Vn bk om) (h:AW (Hj T sm.ps w fz args bk om) s tm W) (X0:sm.mk?=true) (hz:DX ty sm fn.results.toList Vn.flatten s=some z):
  ∃r b,(results fn tm).run P W.w=.ok r W.w∧ME sm w fz z r W.w W.fz b:=by
 unfold DX at hz;rw[X0,kF rfl]at hz;unfold N4 at hz;split at hz
 ·rename_i t aF;split at hz
  ·rename_i r AA ZN;split at hz
   ·rename_i hc;simp only[j8,kI]at hc;obtain⟨⟨Xu,WN⟩,Vu⟩:=hc;split at hz
    ·rename_i vs XV;have hu:=h.AO t;rw[ZN]at hu;have hu:tm.getD t Go.undef=.pointer (some ⟨W.bk r,0,none⟩):=hu WN Vu;obtain⟨p1,p2,p3⟩:=IB _ _ XV;have WG:=h.roots r;obtain⟨hl,hb⟩:=WG;rw[kF WN]at hb;obtain⟨Wu,arr,T0,fr,V6,We,V7,WE⟩:=hb;unfold Sm.plain at Xu;simp only[j8]at Xu
     have XG:∀pm∈sm.ps,∃g ls,pm=.val g ls:=fun pm iE=>by
      have:=kL.1 Xu.1 pm iE;cases pm with
      |val g ls=>grind
      |_=>cases this
     have Xc:∀k,om k=[]:=by
      intro k;cases k with
      |fl n=>exact Vm.fl n
      |AT i=>
       rw[Vm.AT i];cases hq:sm.ps[i]? with
       |none=>rfl
       |some pm=>obtain⟨g,ls,rfl⟩:=XG pm (kC hq);rfl
      |lf i j=>
       refine Vm.none i (fun ls hq=>?_) (fun g ls hq=>?_) j
       ·obtain⟨g,ls,hh⟩:=XG _ (kC hq);cases hh
       ·obtain⟨g,ls,hh⟩:=XG _ (kC hq);cases hh
     have Yt:∀b,¬(∃k,b∈om k):=fun b ⟨k,hb⟩=>by grind
     have YQ:=h.sep.own (.AT r) (W.bk r) (by grind);have Vx:=Gs (fn:=fn) (P:=P) (w:=W.w) (tm:=tm) (vals:=[tm.getD t Go.undef]) (by rw[aF];exact⟨rfl,trivial⟩);refine⟨_,W.bk r,Vx,?_⟩;have Ww:unpack sm.outs z=vs:=Ae _ _ _ hz
     exact {
      box:=by
       rw[Ww];refine⟨hu,p1,arr,T0,fr,V6,We,by grind,fun j p lv hj W7=>?_⟩;have Ze:=p3 j lv W7;have aE:=hl j;rw[Ai,Ze]at aE;have bT:j<arr.size:=by rw[V7];exact(j9.1 Ze).1
       have aO:arr[j]?=some arr[j]:=kX bT;refine⟨arr[j],aO,?_⟩;have hp:p.2=0:=by simpa using kL.1 Xu.2 p (kC hj)
       rw[hp];exact aE.2 _ (by grind)
      new:=⟨YQ.2.2.elim id fun h=>(Yt _ h).elim,YQ.2.1,YQ.1⟩
      fz:=fun x hx=>by
       obtain⟨a1,a2⟩:=h.sep.fz x hx;refine⟨a1,?_⟩;rcases a2 with a2|a2|a2
       ·exact .inl a2
       ·exact .inr a2
       ·exact(Yt _ a2).elim
      frame:=fun x hx=>h.sep.frame x hx (Yt x)
      size:=h.sep.size
      rest:=h.sep.rest }
    ·cases hz
   ·cases hz
  ·cases hz
 ·cases hz
theorem O0{T:List (String×Array Value)}(hf:P.funcs[f]?=some fn)(hb:fn.body=some c)(hlen:sm.ps.length≤fn.ntmps)(Xf:∀t x,ty t=some x→N1 P t x)(V8:Kz P T env)(hm:P.follows .mixedOrders=true):
  Dz P T f ⟨sm,MO ty env an n fn sm⟩:=by
 intro args w fz Vn bk om x z ej Vm hx hz;have hz:MO ty env an n fn sm x=some z:=hz;have hu:unpack sm.ins x=Vn.flatten:=Ae _ _ _ hx;simp only[MO,hb,hu]at hz;cases hp:DF 0 sm.ps Vn.flatten with
 |none=>grind
 |some ws=>
  rw[hp]at hz;dsimp only at hz;split at hz
  ·cases hz
  ·rename_i V3;have V3:codeOk fn.ntmps c=true:=by simpa using V3
   refine calls_of_wp hf hb ?_;have Vo:=MU (T:=T) Vm hp hlen;have hinv:=MT (N:=fn.ntmps) Vm hp hlen;have aP:Claim P (Hj T sm.ps w fz args bk om) fn.ntmps an n (DX ty sm fn.results.toList Vn.flatten) c:=(NW hm c).1
   have fin:∀ {s':St} {a':Act} {W':Wd} {z':sm.outs.D},a'.defers=[]→AW (Hj T sm.ps w fz args bk om) s' a'.tmps W'→Inv fn.ntmps s'→DX ty sm fn.results.toList Vn.flatten s'=some z'→bodyPost P fn (fun en w'=>match sm.mk? with
     |false=>∃r Vp WR rv vsR vsP,en=.returned r∧El sm w fz args bk om z' r w' Vp WR rv vsR vsP
     |true=>∃r Vp b,en=.returned r∧ME sm w fz z' r w' Vp b) .ret a' W'.w:=by
    intro s' a' W' z' hd hr hi hq;cases X0:sm.mk? with
    |false=>
     obtain⟨r,Vp,WR,rv,vsR,vsP,h1,h2⟩:=Ob (P:=P) (fn:=fn) Vm hr (hi.AG.H3 (v:=s'.Bp) (Nat.lt_irrefl _) (by have:=hi.two;omega)) Xf X0 hq;exact⟨hd,r,h1,r,Vp,WR,rv,vsR,vsP,rfl,h2⟩
    |true=>
     obtain⟨r,b,h1,h2⟩:=Oa (P:=P) (fn:=fn) Vm hr X0 hq;exact⟨hd,r,h1,r,W'.fz,b,rfl,h2⟩
   refine aP (W:=L9 sm.ps w fz args bk om) (a:=⟨_,[]⟩) (Q:=bodyPost P fn _) ?_ (show DN P (Hj T sm.ps w fz args bk om) env from⟨V8,ej⟩) V3 (fun _ _=>⟨rfl,rfl⟩) Vo hinv hz ?_ ?_ ?_
   ·exact Xf
   ·intro s' a' W' hd hr hi hk hq;exact fin hd hr hi hq
   all_goals grind
end
end Go.Ev
namespace Go.Ev
mutual
def L.fit:(l:L)→l.D→Prop
 | .int k,x=>k.min≤(show Int from x)∧(show Int from x)≤k.max
 | .bool,_=>True
 | .str,x=>List.length (α:=UInt8) x≤maxLen
 | .sl _ e,x=>List.length (α:=e.D) x≤maxLen∧∀y,List.Mem (α:=e.D) y x→e.fit y
def Ls.fit:(ls:Ls)→ls.D→Prop
 | .nil,_=>True
 | .one l,x=>l.fit x
 | .cons l ls,x=>l.fit x.1∧ls.fit x.2
end
theorem Mc:∀ls:List L,(E4 ls).n=ls.length
 | []=>rfl
 | [_]=>rfl
 |_::m::r=>by simp only[E4,Ls.n,Mc (m::r),lT]
theorem DH:∀ls:List L,(E4 ls).kinds=ls
 | []=>rfl
 | [_]=>rfl
 |_::m::r=>by simp only[E4,Ls.kinds,DH (m::r)]
mutual
theorem L.DA:∀l:L,L.eq? l l=true
 | .int _=>by simp[L.eq?]
 | .bool=>rfl
 | .str=>rfl
 | .sl t e=>by simp[L.eq?,Ls.DA e]
theorem Ls.DA:∀e:Ls,Ls.eq? e e=true
 | .nil=>rfl
 | .one l=>by simp[Ls.eq?,L.DA l]
 | .cons l ls=>by simp[Ls.eq?,L.DA l,Ls.DA ls]
end
theorem F5:∀(e:Ls)(vs:List Lv),vs.map (·.l)=e.kinds→∃x:e.D,pack e vs=some x∧((∀(j:Nat)(lv:Lv),vs[j]?=some lv→lv.l.fit lv.x)→e.fit x)
 | .nil,[],_=>⟨(),rfl,fun _=>trivial⟩
 | .nil,_::_,h=>by simp[Ls.kinds]at h
 | .one l,[],h=>by simp[Ls.kinds]at h
 | .one l,[v],h=>by simp[Ls.kinds]at h;subst h;refine⟨v.x,?_,fun hf=>hf 0 v rfl⟩;have he:L.eq? v.l v.l=true:=L.DA v.l;simp only[pack,L.cast,he,dif_pos];rfl
 | .one l,_::_::_,h=>by simp[Ls.kinds]at h
 | .cons l ls,[],h=>by simp[Ls.kinds]at h
 | .cons l ls,v::vs,h=>by simp only[Ls.kinds,lQ,List.cons.injEq]at h;obtain⟨h1,h2⟩:=h;subst h1;obtain⟨xs,hx,hf⟩:=F5 ls vs h2;have he:L.eq? v.l v.l=true:=L.DA v.l;refine⟨(v.x,xs),?_,fun hh=>⟨hh 0 v rfl,hf fun j lv hj=>hh (j+1) lv (by grind)⟩⟩;simp only[pack,L.cast,he,dif_pos,hx]
def J7(P:Program)(r:TypeId→Option (List L)):Nat→List Field→Option (List L)
 |_,[]=>some []
 |off,f::fs=>match f.offset==off,r f.type with
  |true,some ls=>match P.cellsOf f.type==ls.length,J7 P r (off+ls.length) fs with
   |true,some ms=>some (ls++ms)
   |_,_=>none
  |_,_=>none
def lay(P:Program):Nat→TypeId→Option (List L)
 |0,_=>none
 |k+1,t=>match P.underlying t with
  |some .bool=>some [.bool]
  |some (.int k)=>some [.int k]
  |some .string=>some [.str]
  |some (.slice e)=>match lay P k e with
   |some ls=>match P.cellsOf e==ls.length,ls with
    |true,l::ls=>some [.sl e (E4 (l::ls))]
    |_,_=>none
   |none=>none
  |some (.struct fs)=>match J7 P (lay P k) 0 fs.toList with
   |some ls=>match P.cellsOf t==ls.length with
    |true=>some ls
    |false=>none
   |none=>none
  |_=>none
def Old(w:World)(b:Nat):Prop:=b<w.heap.size
section
variable {H:Type}{enc:TypeId×Value→H}{P:Program}{w:World}{base:Nat}{held:Bool}
def Holds(w:World)(ls:List L)(cs:List Value):Prop:=cs.length=ls.length∧∃vs:List Lv,vs.map (·.l)=ls∧∀(j:Nat)(lv:Lv),vs[j]?=some lv→∃v,cs[j]?=some v∧lv.l.rd 0 w (Old w) v lv.x []∧lv.l.fit lv.x
theorem Holds.append{ls ms:List L}{cs ds:List Value}(h1:Holds w ls cs)(h2:Holds w ms ds):Holds w (ls++ms) (cs++ds):=by
 obtain⟨a1,vs,a2,a3⟩:=h1;obtain⟨b1,us,b2,b3⟩:=h2;have hl:vs.length=cs.length:=by have:=congrArg List.length a2;simp at this;omega
 refine⟨by simp[a1,b1],vs++us,by simp[a2,b2],fun j lv hj=>?_⟩;grind
theorem Holds.elem{e:Ls}{cs:List Value}(h:Holds w e.kinds cs):∃x:e.D,e.rd 0 w (Old w) (fun j=>cs[j]?) x []∧e.fit x:=by
 obtain⟨_,vs,h1,h2⟩:=h;obtain⟨x,hx,hf⟩:=F5 e vs h1;refine⟨x,Bg e fun j lv hj=>?_,hf fun j lv hj=>?_⟩
 ·rw[Ae e vs x hx]at hj;obtain⟨v,hv,hr,_⟩:=h2 j lv hj;exact⟨v,hv,hr⟩
 grind
theorem J8{r:TypeId→Option (List L)}{cs:List Value}:∀(fs:List Field)(off:Nat) {ls:List L},J7 P r off fs=some ls→off+ls.length=cs.length→
  (∀(i:Nat)(f:Field)(ms:List L),fs[i]?=some f→r f.type=some ms→Holds w ms ((cs.drop f.offset).take (P.cellsOf f.type)))→Holds w ls (cs.drop off)
 | [],off,ls,h,hl,hf=>by
  simp only[J7,Option.some.injEq]at h;subst h;have:cs.drop off=[]:=by simp at hl;simp;omega
  rw[this];exact⟨rfl,[],rfl,fun j lv hj=>by simp at hj⟩
 |f::fs,off,ls,h,hl,hf=>by
  simp only[J7]at h;split at h
  ·rename_i ls1 YO hr;have YO:f.offset=off:=by simpa using YO
   split at h
   ·rename_i ms hc V2;injection h with h
    subst h;have hc:P.cellsOf f.type=ls1.length:=by simpa using hc
    have h1:=hf 0 f ls1 rfl hr;rw[YO,hc]at h1;have h2:=J8 fs (off+ls1.length) V2 (by grind) fun i f' ia hi WV=>hf (i+1) f' ia (by grind) WV;have:=h1.append h2;rw[←List.drop_drop,List.take_append_drop]at this;exact this
   ·cases h
  ·cases h
theorem Js{a:Addr}{n i:Nat}{cs:List Value}(hn:0<n)(hs:a.spot=none)(h:w.cells? base (a.add (i*n)) n=some cs):cs.length=n∧∀j,j<n→w.cell? ⟨a.block,a.off+(i*n+j),none⟩=cs[j]?:=by obtain⟨_,h1,h2⟩:=World.cells?_some h;refine⟨h1,fun j hj=>?_⟩;rw[←h2 j hj,EM hs];have:(at_ a (i*n)).spot=none:=rfl;rw[EM this];simp[at_,Nat.add_assoc]
theorem L3{a:Addr}{n:Nat}{cs:List Value}(hn:0<n)(h:w.cells? base (a.add (0*n)) n=some cs):a.spot=none:=by
 obtain⟨_,h1,h2⟩:=World.cells?_some h;have:=h2 0 hn;rw[show cs[0]?=some (cs[0]'(by omega))from j7 _]at this;simp only[Nat.zero_mul,Addr.add,kF]at this;unfold World.cell? at this;split at this
 ·cases hq:a.spot with
  |none=>rfl
  |some s=>grind
 ·cases this
theorem IU:∀(k:Nat) {t:TypeId} {ls:List L} {fuel:Nat} {cs:List Value} {x:DataW H×List MemPlace},lay P k t=some ls→DataW.trod enc P w base (fun _=>true) held fuel t cs=some x→Holds w ls cs
 |0,t,ls,fuel,cs,x,h,hx=>by simp[lay]at h
 |k+1,t,ls,fuel,cs,x,h,hx=>by
  simp only[lay]at h;split at h
  ·rename_i hu;injection h with h;subst h
   obtain⟨b,rfl,_⟩:=DataW.trod_bool hu hx;refine⟨rfl,[⟨.bool,show Bool from b⟩],rfl,fun j lv hj=>?_⟩;cases j with
   |zero=>simp at hj;subst hj;exact⟨_,rfl,⟨rfl,rfl⟩,trivial⟩
   |succ j=>simp at hj
  ·rename_i kk hu;injection h with h;subst h
   obtain⟨n,rfl,_,hw⟩:=DataW.trod_int hu hx;refine⟨rfl,[⟨.int kk,show Int from n⟩],rfl,fun j lv hj=>?_⟩;cases j with
   |zero=>simp at hj;subst hj;exact⟨_,rfl,⟨rfl,rfl⟩,by simpa[Lit.wf,L.fit]using hw⟩
   |succ j=>simp at hj
  ·rename_i hu;injection h with h;subst h
   obtain⟨s,rfl,_,hs⟩:=DataW.trod_string hu hx;refine⟨rfl,[⟨.str,show List UInt8 from s.data.toList⟩],rfl,fun j lv hj=>?_⟩;cases j with
   |zero=>simp at hj;subst hj;exact⟨_,rfl,⟨by simp,rfl⟩,by simpa[L.fit]using hs⟩
   |succ j=>simp at hj
  ·rename_i e hu;split at h
   ·rename_i ls1 Xo;split at h
    ·rename_i l ls2 hc;injection h with h;subst h
     have hc:P.cellsOf e=(l::ls2).length:=by simpa using hc
     let E:Ls:=E4 (l::ls2)
     have hEn:E.n=P.cellsOf e:=by rw[hc];exact Mc _
     have gq:E.kinds=l::ls2:=DH _;have YR:0<P.cellsOf e:=by rw[hc];simp
     rcases DataW.trod_slice hu hx with⟨rfl,_⟩|⟨a,len,cap,elems,rest,n,rfl,rfl,_,hb,hle,Wn,V5,h1,h2,_⟩
     ·refine⟨rfl,[⟨.sl e E,([]:List E.D)⟩],rfl,fun j lv hj=>?_⟩;cases j with
      |zero=>simp at hj;subst hj;exact⟨_,rfl,Bm,by simp[L.fit],fun y hy=>by cases hy⟩
      |succ j=>simp at hj
     ·have all:∀i,i<cap→∃cR y,w.cells? base (a.add (i*P.cellsOf e)) (P.cellsOf e)=some cR∧DataW.trod enc P w base (fun _=>true) held n e cR=some y:=by
       intro i hi;obtain⟨h3,h4⟩:=h2 rfl;rcases kq i len with Vs|Wg
       ·have:=h1 i Vs;rw[j7 (show i<elems.length by omega)]at this;obtain⟨cR,q1,q2⟩:=lp.1 this;grind
       ·have:=h4 (i-len) (by omega);rw[j7 (show i-len<rest.length by omega),show len+(i-len)=i by omega]at this;obtain⟨cR,q1,q2⟩:=lp.1 this;grind
      have elem:a.spot=none→∀i,i<cap→∃y:E.D,E.rd 0 w (Old w) (fun j=>w.cell? ⟨a.block,a.off+(i*E.n+j),none⟩) y []∧E.fit y:=by intro hs i hi;obtain⟨cR,y,q1,q2⟩:=all i hi;have hh:=IU k Xo q2;rw[←gq]at hh;obtain⟨z,hz,hf⟩:=hh.elem;obtain⟨c1,c2⟩:=Js YR hs q1;exact⟨z,Ls.BG E hz fun j hj=>by grind,hf⟩
      refine⟨rfl,?_⟩;by_cases cA:cap=0
      ·have XB:len=0:=by omega
       subst XB;subst cA;refine⟨[⟨.sl e E,([]:List E.D)⟩],rfl,fun j lv hj=>?_⟩;cases j with
       |zero=>simp at hj;subst hj;exact⟨_,rfl,⟨some a,0,rfl,kT _,.inl ⟨rfl,rfl,rfl⟩⟩,by simp[L.fit],fun y hy=>by cases hy⟩
       |succ j=>simp at hj
      ·obtain⟨cs0,y0,q0,_⟩:=all 0 (by omega);have hs:=L3 YR q0;have hy:=elem hs
       let F:Nat→E.D:=fun i=>if hi:i<cap then(hy i hi).choose else Ff E
       have hF:∀i,i<cap→E.rd 0 w (Old w) (fun j=>w.cell? ⟨a.block,a.off+(i*E.n+j),none⟩) (F i) []∧E.fit (F i):=by intro i hi;simp only[F,dif_pos hi];exact(hy i hi).choose_spec
       obtain⟨csl,yl,ql,_⟩:=all (cap-1) (by omega);obtain⟨l1,l2⟩:=Js YR hs ql;have Yf:=l2 (P.cellsOf e-1) (by omega);rw[j7 (show P.cellsOf e-1<csl.length by omega)]at Yf
       have YO:a.off+((cap-1)*P.cellsOf e+(P.cellsOf e-1))=a.off+cap*P.cellsOf e-1:=by
        have:cap*P.cellsOf e=(cap-1)*P.cellsOf e+P.cellsOf e:=by rw[←Nat.succ_mul];congr 1;omega
        omega
       rw[YO]at Yf
       have Wu:∃arr T fr,w.heap[a.block]?=some (.cells arr T fr)∧a.off+cap*P.cellsOf e≤arr.size:=by
        unfold World.cell? at Yf;split at Yf
        ·grind
        ·cases Yf
       obtain⟨arr,T,fr,hh,V7⟩:=Wu
       let xs:List E.D:=(List.range len).map F
       have cM:xs.length=len:=by simp[xs]
       have iU:∀i (hi:i<xs.length),xs[i]=F i:=fun i hi=>by simp[xs]
       refine⟨[⟨.sl e E,xs⟩],rfl,fun j lv hj=>?_⟩;cases j with
       |succ j=>simp at hj
       |zero=>
        simp at hj;subst hj;refine⟨_,rfl,⟨some a,cap,by rw[cM],by grind,.inr ⟨fun j=>arr[a.off+j]?,fun _=>[],⟨hs,arr,T,fr,hh,by grind,fun h=>by simp at h,fun j=>rfl⟩,fun i hi=>?_,?_⟩⟩,?_,fun y hy=>?_⟩
        ·have hi:i<xs.length:=hi;show E.rd 0 w (Old w) _ xs[i] [];rw[iU i hi];have:=(hF i (by omega)).1;refine Ls.BG E this fun j hj=>?_;simp[World.cell?,hh]
        ·exact⟨(lD.1 hh).1,rfl,fun _ _=>rfl⟩
        ·grind
        ·have hy:y∈xs:=hy;obtain⟨i,hi,rfl⟩:=kt.1 hy;grind
    ·cases h
   ·cases h
  ·rename_i fs hu;split at h
   ·rename_i ls1 Xo;split at h
    ·rename_i hc;injection h with h;subst h
     have hc:P.cellsOf t=ls1.length:=by simpa using hc
     obtain⟨xs,n,rfl,_,hlen,cM,V4⟩:=DataW.trod_struct hu hx
     have:=J8 (w:=w) (cs:=cs) fs.toList 0 Xo (by omega) fun i f ms hi hr=>by
      have XJ:fs[i]?=some f:=by simpa using hi
      have Vs:i<xs.length:=by rw[cM];exact(lD.1 XJ).1
      have hg:=V4 i f XJ;rw[j7 Vs]at hg;exact IU k hr hg
     grind
    ·cases h
   ·cases h
  ·cases h
end
end Go.Ev
namespace Go.Ev
open Go.ChangeShapes Go.RowKit
def HK(P:Program)(t:TypeId):Bool:=match P.underlying t with
 |some (.struct _)=>true
 |_=>false
def Fe(P:Program):List TypeId→Option (List PM)
 | []=>some []
 |t::ts=>match lay P 12 t,Fe P ts with
  |some ls,some ps=>some (.val (HK P t) ls::ps)
  |_,_=>none
def GV(P:Program)(ts:List TypeId):Bool:=ts.all fun t=>P.readableRec t&&decide (t<P.types.size)
section
variable {H:Type}{enc:TypeId×Value→H}{P:Program}{w:World}{base cP:Nat}{held:Bool}
theorem KI{t:TypeId}{v:Value}{ls:List L}{r:Reach}(h:Value.okWide P w r base t v)(hl:lay P 12 t=some ls)(ha:HK P t=false):v.cells = #[v]∧ls.length=1:=by
 unfold lay at hl;unfold HK at ha;unfold Value.okWide Cell.okWide Cell.ok at h;split at hl
 ·rename_i hu;rw[hu]at h;injection hl with hl;subst hl
  cases v<;>first|exact⟨rfl,rfl⟩|exact h.elim
 ·rename_i hu;rw[hu]at h;injection hl with hl;subst hl
  cases v<;>first|exact⟨rfl,rfl⟩|exact h.elim
 ·rename_i hu;rw[hu]at h;injection hl with hl;subst hl
  cases v<;>first|exact⟨rfl,rfl⟩|exact h.elim
 ·rename_i hu;rw[hu]at h;split at hl
  ·split at hl
   ·injection hl with hl;subst hl
    cases v<;>first|exact⟨rfl,rfl⟩|exact h.elim
   ·cases hl
  ·cases hl
 ·rename_i hu;rw[hu]at ha;cases ha
 ·cases hl
theorem LQ{t:TypeId}{v:Value}{r:Reach}(h:Value.okWide P w r base t v)(ha:HK P t=true):∃cs,v=.agg cs:=by
 unfold HK at ha;unfold Value.okWide at h;split at ha
 ·rename_i hu;rw[hu]at h;obtain⟨cs,h,_⟩:=h;exact⟨cs,h⟩
 ·cases ha
theorem G4:∀ {ts:List TypeId} {vs:List Value} {ds:List (DataW H)} {p:List MemPlace} {pms:List PM},DataW.TrodAll enc P w base (fun _=>true) held ts vs ds p→
  (∀(j:Nat) t v,ts[j]?=some t→vs[j]?=some v→Value.okWide P w .any cP t v)→Fe P ts=some pms→
  vs.length=pms.length∧ds.length=ts.length∧∃Vn:List (List Lv),Vn.length=pms.length∧Vn.flatten.map (·.l)=pms.flatMap PM.ins∧(∀(j:Nat)(lv:Lv),Vn.flatten[j]?=some lv→lv.l.fit lv.x)∧
   ∀(i:Nat)(pm:PM)(u:Value)(xs:List Lv),pms[i]?=some pm→vs[i]?=some u→Vn[i]?=some xs→NK w (Old w) pm u xs 0 (fun _=>[])∧∃g ls,pm=.val g ls
 | [],[],[],p,pms,h,hv,hp=>by simp only[Fe,Option.some.injEq]at hp;subst hp;exact⟨rfl,rfl,[],rfl,rfl,(fun j lv hj=>by simp at hj),fun i pm u xs hi=>by simp at hi⟩
 |t::ts,v::vs,d::ds,p,pms,h,hv,hp=>by
  obtain⟨p1,p2,⟨fuel,h1⟩,h2,_⟩:=h;simp only[Fe]at hp;split at hp
  ·rename_i ls ps hl XN;injection hp with hp;subst hp
   obtain⟨a1,a2,Vn,a3,a4,a5,a6⟩:=G4 h2 (fun j t v ht W0=>hv (j+1) t v (by simpa using ht) (by simpa using W0)) XN;have WQ:=hv 0 t v rfl rfl;obtain⟨hlen,us,b1,b2⟩:=IU 12 hl h1;have hul:us.length=ls.length:=by have:=congrArg List.length b1;simpa using this
   refine⟨by simp[a1],by simp[a2],us::Vn,by simp[a3],by simp[a4,b1,PM.ins],fun j lv hj=>?_,fun i pm u xs hi hu hx=>?_⟩
   ·rw[kW]at hj;rcases kq j us.length with Vs|Wg
    ·rw[lP Vs]at hj;obtain⟨_,_,_,hf⟩:=b2 j lv hj;exact hf
    ·rw[lZ Wg]at hj;exact a5 _ lv hj
   ·cases i with
    |succ i=>exact a6 i pm u xs (by simpa using hi) (by simpa using hu) (by simpa using hx)
    |zero=>
     simp at hi hu hx;subst hi;subst hu;subst hx;refine⟨⟨by simp[b1,Function.comp_def],?_,fun j p lv hj W7=>?_⟩,_,_,rfl⟩
     ·cases Xi:HK P t with
      |true=>
       obtain⟨cs,rfl⟩:=LQ WQ Xi;exact⟨cs,rfl,by simpa[Value.cells]using hlen⟩
      |false=>
       have:=(KI WQ hl Xi).2;simpa using this
     ·obtain⟨y,hy,hr,_⟩:=b2 j lv W7
      have ZB:p.2=0:=by
       simp only[kN]at hj;cases hq:ls[j]? with
       |none=>rw[hq]at hj;cases hj
       |some l=>rw[hq]at hj;injection hj with hj;rw[←hj]
      rw[ZB];refine⟨y,?_,hr⟩;cases Xi:HK P t with
      |true=>
       show v.cells[j]?=some y;rw[←hy];simp
      |false=>
       obtain⟨q1,q2⟩:=KI WQ hl Xi;rw[q1]at hy;cases j with
       |zero=>simp at hy;subst hy;rfl
       |succ j=>simp at hy
  ·cases hp
 | [],_::_,_,_,_,h,_,_=>by cases h
 | [],[],_::_,_,_,h,_,_=>by cases h
 |_::_,[],_,_,_,h,_,_=>by cases h
 |_::_,_::_,[],_,_,h,_,_=>by cases h
theorem Co(hl:laidOutB P=true){W W':World}(hb:Below W.heap.size W W'):∀ {ts:List TypeId} {vs:List Value} {ds:List (DataW H)} {p:List MemPlace},GV P ts=true→
  DataW.TrodAll enc P W 0 (fun _=>true) true ts vs ds p→(∀x∈p,x.block<W.heap.size)→DataW.TrodAll enc P W' 0 (fun b=>decide (b<W.heap.size)) true ts vs ds p
 | [],[],[],p,hr,h,Vs=>h
 |t::ts,v::vs,d::ds,p,hr,h,Vs=>by obtain⟨p1,p2,h1,h2,rfl⟩:=h;simp only[GV,List.all_cons,j8,kV]at hr;exact⟨p1,p2,Below.trod hl hr.1.1 hr.1.2 h1 hb (fun x hx=>Vs x (kK _ hx)),Co hl hb (by simpa[GV]using hr.2) h2 (fun x hx=>Vs x (kH _ hx)),rfl⟩
 | [],_::_,_,_,_,h,_=>by cases h
 | [],[],_::_,_,_,h,_=>by cases h
 |_::_,[],_,_,_,h,_=>by cases h
 |_::_,_::_,[],_,_,h,_=>by cases h
end
theorem II{w:World}{fz:Nat→Prop}{om:Nat→List Nat}{g:Bool}{ls:List (L×Nat)}:∀ {rv:List Value} {vsR:List (List Lv)} {off:Nat},EH w fz om [(g,ls)] rv vsR off→∃u vs,rv=[u]∧vsR=[vs]∧FK w fz g ls u vs (fun j=>om (off+j))
 | [u],[vs],_,h=>⟨u,vs,rfl,rfl,h.1⟩
 | [],_,_,h=>h.elim
 |_::_,[],_,h=>h.elim
 | [_],_::_::_,_,h=>h.2.elim
 |_::_::_,[_],_,h=>h.2.elim
 |_::_::_,_::_::_,_,h=>h.2.elim
theorem PY{H:Type}{enc:TypeId×Value→H}{C:Checked}{os:Os}{f:FuncId}{fn:Func}{s:ChangeSpec}{conds:List PathCond}
  (own:ownKnob C.prog.godebug=none) (started:os.Started) (noInit:C.prog.inits.idxOf? f=none) (YH:C.prog.funcs[f]?=some fn)
  (witness:∃(w:World) (tape:Tape) (i:Input),w.os=os∧(w.forCall tape i).Shaped C.prog∧i.vars=[]∧Input.okWide C.prog (w.forCall tape i) .any w.heap.size f i∧
   s.pre6 enc C.prog fn conds false (w.forCall tape i).memory i.args∧({}:Assume).holds C.prog (lone (Frame.enter C.prog f i.args .normal) [] (w.forCall tape i)))
  {sm:Sm} {F:Nat→sm.ins.D→Option sm.outs.D} (WQ:∀n,Dz C.prog [] f ⟨sm,F n⟩) (XN:Fe C.prog fn.params.toList=some sm.ps) (a7:sm.rs=[(false,[(.bool,0)])])
  {tb:TypeId} (ZD:fn.resultTypes = #[tb]) (de:C.prog.underlying tb=some .bool) (Xr:s.vars=[]) (X2:GV C.prog fn.params.toList=true) (Ye:laidOutB C.prog=true)
  (XF:∀(ds:List (DataW H)),ds.length=fn.params.toList.length→s.fn H ds={results:=[.lit (.bool true)],args:=ds })
  (pure:∀x:sm.ins.D,sm.ins.fit x→∃n z,F n x=some z∧unpack sm.outs z=[⟨.bool,(show Bool from true)⟩]):
  ReturnsInHanded {} C os f .any (s.pre6 enc C.prog fn conds false) (s.post enc C.prog fn false true false false):=by
 refine returnsInHanded_of_change_sized own started noInit YH witness ?_;intro W base args ds gs before XG hW _ _ _;have Wl:=hW;obtain⟨p,q,hA,hV,rfl,XA,Wi⟩:=hW;rw[Xr]at hV;obtain⟨rfl,rfl⟩:=trodVars_none hV;obtain⟨a1,a2,Vn,a3,a4,a5,a6⟩:=G4 hA (fun j t v ht hv=>XG j t v (by simpa using ht) (by simpa using hv)) XN;have Zs:Vn.flatten.map (·.l)=sm.ins.kinds:=by rw[a4];exact(DH _).symm
 obtain⟨x,hx,WH⟩:=F5 sm.ins Vn.flatten Zs;obtain⟨n,z,hz,Z8⟩:=pure x (WH a5)
 have Vm:Ca sm.ps W (Old W) args.toList Vn (fun _=>0) (fun _=>[]):={
  len:=a1
  BQ:=a3
  each:=fun i pm u xs h1 h2 h3=>(a6 i pm u xs h1 h2 h3).1
  AT:=fun i=>by
   cases hq:sm.ps[i]? with
   |none=>rfl
   |some pm=>
    have Vs:=(j9.1 hq).1;obtain⟨_,g,ls,rfl⟩:=a6 i pm _ _ hq (j7 (by omega)) (j7 (by omega));rfl
  none:=fun i _ _ j=>rfl
  box:=fun i ls _ j _=>rfl
  row:=fun i g ls _ j _=>rfl
  fl:=fun k=>rfl
  nodup:=fun k=>kE
  Av:=fun k k' _ b hb=>by cases hb
  own:=fun k b hb=>by cases hb
  fz:=fun b hb=>hb }
 have WB:=WQ n args.toList W (Old W) Vn _ _ x z (fun _ h=>by cases h) Vm hx hz;have X0:sm.mk?=false:=by unfold Sm.mk?;rw[a7]
 have X0:(MB.mk sm (F n)).s.mk?=false:=X0;rw[X0]at WB;rw[lG]at WB;refine WB.mono ?_
 rintro en W' ⟨r,Vp,WR,rv,vsR,vsP,rfl,co⟩
 have Ww:=co.outs;have Xp:=co.IG;rw[a7]at Xp;obtain⟨u,vs,rfl,rfl,b1,_,b2⟩:=II Xp;have WX:vs.length=1:=by have:=congrArg List.length b1;simpa using this
 obtain⟨lv,rfl⟩:∃lv,vs=[lv]:=by
  match vs,WX with
  | [x],_=>exact⟨x,rfl⟩
 obtain⟨l0,x0⟩:=lv;have XB:l0=.bool:=by simpa using b1
 subst XB;obtain⟨y,hy,hr⟩:=b2 0 (.bool,0) ⟨.bool,x0⟩ rfl rfl;have ag:u=y:=by simpa[Ay]using hy
 subst ag;have Z8:unpack sm.outs z=[⟨.bool,(show Bool from true)⟩]:=Z8;have Ww:unpack sm.outs z=_:=Ww;rw[Z8]at Ww;simp only[kW,List.flatten_nil,kh,lJ,ku,List.cons.injEq]at Ww
 have YT:x0=(show Bool from true):=by
  have:=Ww.1;injection this with _ h2
  exact h2.symm
 subst YT;have hu:u=.bool true:=hr.1;subst hu;have Yw:r=.bool true:=co.res;subst Yw;have W8:Below W.heap.size W W':=⟨co.rest.1,co.rest.2.1,co.rest.2.2,co.size,fun k hk=>co.frame k hk fun _ hb=>by cases hb⟩;have Vs:∀y∈p,y.block<W.heap.size:=fun y hy=>Wl.lt y (by simpa using hy);refine⟨_,rfl,ds,[],_,[],p,[],Wl,?_,?_,?_,W8.frame _,fun h=>by cases h⟩
 ·rw[kh,XF ds a2,ZD];exact trodAll_mk1 (shut_bool de _)
 ·rw[kh,XF ds a2];exact Co Ye W8 X2 hA Vs
 ·rw[kh,XF ds a2,Xr];rfl
end Go.Ev
namespace Go.Ev
def find{α:Type}:List (Nat×α)→Nat→Option α
 | [],_=>none
 |(k,x)::r,t=>match Nat.beq k t with
  |true=>some x
  |false=>find r t
theorem Jy{α:Type}:∀ {l:List (Nat×α)} {t:Nat} {x:α},find l t=some x→(t,x)∈l
 | [],t,x,h=>by cases h
 |(k,y)::r,t,x,h=>by
  unfold find at h;split at h
  ·rename_i hk;have:k=t:=Nat.eq_of_beq_eq_true hk;injection h with h;subst h;subst this;exact kR
  ·exact kB _ (Jy h)
def PV:L→Value→Bool
 | .int k,.int k' n=>IntKind.code k==IntKind.code k'&&n==0
 | .bool,.bool b => !b
 | .str,.string s=>s.size==0
 | .sl _ _,.slice none l c=>l==0&&c==0
 |_,_=>false
theorem OO{l:L}{v:Value}(h:PV l v=true):v=CA l:=by
 unfold PV at h;split at h
 ·simp only[j8,kI]at h;obtain⟨h1,rfl⟩:=h;rw[IntKind.ES h1];rfl
 ·simp at h;subst h;rfl
 ·rename_i s;have:s=.empty:=ByteArray.size_eq_zero_iff.1 (by simpa using h);subst this;rfl
 ·simp only[j8,kI]at h;obtain⟨rfl,rfl⟩:=h;rfl
 ·cases h
def LR:List L→List Value→Bool
 | [],[]=>true
 |l::ls,v::vs=>PV l v&&LR ls vs
 |_,_=>false
theorem G3:∀ {ls:List L} {vs:List Value},LR ls vs=true→vs=ls.map CA
 | [],[],_=>rfl
 |l::ls,v::vs,h=>by simp only[LR,j8]at h;rw[OO h.1,G3 h.2];rfl
 | [],_::_,h=>by cases h
 |_::_,[],h=>by cases h
def PO(P:Program)(t:TypeId)(e:Ls):Bool:=decide (0<e.n)&&match P.info? t with
 |some i=>i.size==e.n&&decide (i.bytes≤1024)&&match i.zero with
  |some z=>LR e.kinds z.cells.toList
  |none=>false
 |none=>false
theorem OJ{P:Program}{t:TypeId}{e:Ls}(h:PO P t e=true):MC P t e:=by
 unfold PO at h;simp only[j8,kV]at h;obtain⟨hp,h⟩:=h;split at h
 ·rename_i i hi;simp only[j8,kV,kI]at h;obtain⟨⟨h1,h2⟩,h⟩:=h;split at h
  ·rename_i z hz;exact⟨⟨i,hi,h1,h2,z,hz,by rw[←G3 h]⟩,hp⟩
  ·cases h
 ·cases h
def Iy(P:Program)(t:TypeId):L→Bool
 | .int k=>match P.underlying t with
  |some (.int k')=>IntKind.code k==IntKind.code k'
  |_=>false
 | .bool=>match P.underlying t with
  |some .bool=>true
  |_=>false
 | .str=>match P.underlying t with
  |some .string=>true
  |_=>false
 | .sl t' e=>(match P.underlying t with
  |some (.slice fp)=>t'==fp
  |_=>false)&&PO P t' e
theorem MZ{P:Program}{t:TypeId}{l:L}(h:Iy P t l=true):GY P t l:=by
 cases l with
 |int k=>
  simp only[Iy]at h;split at h
  ·rename_i k' hk;have:=IntKind.ES (by simpa using h:IntKind.code k=IntKind.code k');subst this;exact hk
  ·cases h
 |bool=>
  simp only[Iy]at h;split at h
  ·assumption
  ·cases h
 |str=>
  simp only[Iy]at h;split at h
  ·assumption
  ·cases h
 |sl t' e=>
  simp only[Iy,j8]at h;obtain⟨h1,h2⟩:=h;split at h1
  ·rename_i fp ht;have:t'=fp:=by simpa using h1
   subst this;exact⟨ht,OJ h2⟩
  ·cases h1
def G7:List Field→List (Nat×TypeId)→Bool
 | [],[]=>true
 |f::fs,(o,t)::r=>f.offset==o&&f.type==t&&G7 fs r
 |_,_=>false
theorem Hl:∀ {fs:List Field} {r:List (Nat×TypeId)},G7 fs r=true→fs.map (fun f=>(f.offset,f.type))=r
 | [],[],_=>rfl
 |f::fs,(o,t)::r,h=>by simp only[G7,j8,kI]at h;rw[lQ,h.1.1,h.1.2,Hl h.2]
 | [],_::_,h=>by cases h
 |_::_,[],h=>by cases h
def HC(P:Program):List Field→Bool
 | []=>true
 |f::fs=>(P.info? f.type).isSome&&HC P fs
theorem H9{P:Program}:∀ {fs:List Field},HC P fs=true→∃pl,fs.mapM (fun f=>(P.info? f.type).map fun i=>(f.offset,i.size))=some pl
 | [],_=>⟨[],rfl⟩
 |f::fs,h=>by simp only[HC,j8]at h;obtain⟨pl,Xu⟩:=H9 h.2;obtain⟨i,hi⟩:=Option.isSome_iff_exists.1 h.1;exact⟨(f.offset,i.size)::pl,by simp[List.mapM_cons,hi,Xu]⟩
def IA(P:Program)(t:TypeId):L→Bool
 | .int k=>match P.underlying t with
  |some (.int k')=>IntKind.code k==IntKind.code k'
  |_=>false
 | .bool=>match P.underlying t with
  |some .bool=>true
  |_=>false
 | .str=>match P.underlying t with
  |some .string=>true
  |_=>false
 | .sl _ _=>false
theorem Lu{P:Program}{t:TypeId}{l:L}(h:IA P t l=true):JA P t l:=by
 cases l with
 |int k=>
  simp only[IA]at h;split at h
  ·rename_i k' hk;have:=IntKind.ES (by simpa using h:IntKind.code k=IntKind.code k');subst this;exact hk
  ·cases h
 |bool=>
  simp only[IA]at h;split at h
  ·assumption
  ·cases h
 |str=>
  simp only[IA]at h;split at h
  ·assumption
  ·cases h
 |sl t' e=>cases h
def Il(P:Program):Nat→List Field→List L→Bool
 |_,[],[]=>true
 | n, f :: fs, l :: ls => f.name != "_" && f.offset == n && IA P f.type l && Il P (n + 1) fs ls
 |_,_,_=>false
theorem Ju{P:Program}:∀ {n:Nat} {fs:List Field} {ls:List L},Il P n fs ls=true→G0 P n fs ls
 |_,[],[],_=>trivial
 |n,f::fs,l::ls,h=>by simp only[Il,j8,kI,bne_iff_ne,ne_eq]at h;obtain⟨⟨⟨h1,h2⟩,h3⟩,h4⟩:=h;exact⟨h1,h2,Lu h3,Ju h4⟩
 |_,[],_::_,h=>by simp[Il]at h
 |_,_::_,[],h=>by simp[Il]at h
def PQ(P:Program)(t:TypeId)(ls:List L):Bool := !P.stoodInHeld t && !P.eqGuardType P.depth t&&match P.underlying t with
 |some (.struct fs)=>Il P 0 fs.toList ls
 |_=>false
theorem OL{P:Program}{t:TypeId}{ls:List L}(h:PQ P t ls=true):Pa P t ls:=by
 unfold PQ at h;simp only[j8,kJ]at h;obtain⟨⟨h1,h2⟩,h3⟩:=h;split at h3
 ·rename_i fs Xg;exact⟨h1,h2,fs,Xg,Ju h3⟩
 ·cases h3
def PJ(P:Program)(t:TypeId)(ty:Ty):Bool:=(match ty.eq with
 |true=>PQ P t ty.ls.kinds
 |false=>true)&&((match P.info? t with
  |some i=>i.size==ty.ls.n&&match i.zero with
   |some z=>match ty.agg with
    |true=>match z with
     | .agg cs=>LR ty.ls.kinds cs.toList
     |_=>false
    |false=>LR ty.ls.kinds z.cells.toList
   |none=>false
  |none=>false) &&
 match ty.agg with
 |true=>match P.underlying t with
  |some (.struct fs)=>G7 fs.toList ty.fs&&HC P fs.toList
  |_=>false
 |false=>match ty.ls with
  | .one l=>Iy P t l
  |_=>false)
theorem Oj{P:Program}{t:TypeId}{ty:Ty}(h:PJ P t ty=true):N1 P t ty:=by
 unfold PJ at h;rw[j8]at h;obtain⟨h0,h⟩:=h;simp only[j8]at h;obtain⟨h1,h2⟩:=h;refine⟨?_,fun ha=>?_,fun ha=>?_,fun he=>by rw[he]at h0;exact OL h0⟩
 ·split at h1
  ·rename_i i hi;simp only[j8,kI]at h1;obtain⟨hs,h1⟩:=h1;split at h1
   ·rename_i z hz;refine⟨i,hi,hs,z,hz,?_⟩;split at h1
    ·rename_i ha;split at h1
     ·rename_i cs;have hc:cs=(ty.ls.kinds.map CA).toArray:=by rw[←G3 h1]
      exact⟨hc,.inl (by rw[hc])⟩
     ·cases h1
    ·rename_i ha;exact⟨by rw[←G3 h1],.inr ha⟩
   ·cases h1
  ·cases h1
 ·rw[ha]at h2;dsimp only at h2;split at h2
  ·rename_i fs Xg;simp only[j8]at h2;exact⟨fs,Xg,Hl h2.1,H9 h2.2⟩
  ·cases h2
 ·rw[ha]at h2;dsimp only at h2;split at h2
  ·rename_i l hl;exact⟨l,hl,MZ h2⟩
  ·cases h2
theorem NA{P:Program}{tbl:List (Nat×Ty)}(h:tbl.all (fun p=>PJ P p.1 p.2)=true):∀t x,find tbl t=some x→N1 P t x:=
 fun t x hx=>Oj (kL.1 h _ (Jy hx))
def NI (P : Program) (f : FuncId) : Prop := ∃ (fn : Func) (c : Code), P.funcs[f]? = some fn ∧ fn.body = some c ∧ (fn.name == "runtime.NumGoroutine") = false
theorem PD{P:Program}{T:List (String×Array Value)}:Jh P T (find []):=fun f g h=>by cases h
theorem Oy{P:Program}{T:List (String×Array Value)}{f:FuncId}{g:MB}{l:List (FuncId×MB)}(h:Dz P T f g)(hb:NI P f)(hl:Jh P T (find l)):Jh P T (find ((f,g)::l)):=by
 intro f' g' h';unfold find at h';split at h'
 ·rename_i hk;have:f=f':=Nat.eq_of_beq_eq_true hk;subst this;injection h' with h';subst h'
  exact⟨h,hb⟩
 ·exact hl f' g' h'
def plain(l:List (FuncId×MB)):Env:=⟨find l,fun _ _=>none,fun _=>false⟩
theorem Om{P:Program}{T:List (String×Array Value)}{l:List (FuncId×MB)}(h:Jh P T (find l)):Kz P T (plain l):=⟨h,(fun _ _ _ h=>by cases h),(fun _ h=>by cases h)⟩
def PI(l:List (FuncId×MB))(f g:FuncId)(σ:Ow)(ts:List TypeId):Env:=⟨find l,fun f' g'=>if f'==f&&g'==g then some σ else none,fun t=>has ts t⟩
theorem PF{P:Program}{T:List (String×Array Value)}{f:FuncId}{sm:Sm}:Dz P T f ⟨sm,fun _=>none⟩:=by intro args w fz Vn bk om x z hg Vm hx hz;cases hz
theorem On{P:Program}{T:List (String×Array Value)}{tbl:List (Nat×Ty)}{l:Env}{an:An}{n:Nat}{sm:Sm}{fn:Func}{f:FuncId}{c:Code}{F:sm.ins.D→Option sm.outs.D}
  (hf:P.funcs[f]?=some fn) (hb:fn.body=some c) (hlen:decide (sm.ps.length≤fn.ntmps)=true) (ht:tbl.all (fun p=>PJ P p.1 p.2)=true) (hl:Kz P T l) (hm:P.follows .mixedOrders=true)
  (hF:∀x,MO (find tbl) l an n fn sm x=F x):Dz P T f ⟨sm,F⟩:=by
 have h:=O0 (an:=an) (n:=n) (sm:=sm) hf hb (kp hlen) (NA ht) hl hm;have:MO (find tbl) l an n fn sm=F:=funext hF;rw[this]at h;exact h
end Go.Ev
