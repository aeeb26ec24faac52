/- A plain evaluator for Go's loaded code,and that it is sound;part 4. Conditions: none. -/
import Derived.Test.YtccgnkaemdnniaaGreatLib3
import Derived.Deep.LoopGhost
import Derived.Tactics
import Derived.SizedLaws
import Derived.Carry
import Derived.ChangeShapes
import Derived.RowKit
set_option linter.all false
namespace Go.Ev
theorem Ck(v:Nat):∀(ls:List (Option (L×Nat))) (vs:List Lv) (j:Nat) (l:L),ls[j]?=some (some (l,0))→(nth .bad (AQ v ls vs) j).CN=false
 | [],vs,j,l,h=>by simp at h
 |none::ls,vs,0,l,h=>by simp at h
 |none::ls,vs,j+1,l,h=>Ck v ls vs j l (by simpa using h)
 |some (l',d)::ls,[],0,l,h=>rfl
 |some (l',d)::ls,[],j+1,l,h=>Ck v ls [] j l (by simpa using h)
 |some (l',d)::ls,⟨l0,x⟩::vs,0,l,h=>by
  simp at h;obtain⟨_,rfl⟩:=h;cases l0<;>rfl
 |some (l',d)::ls,x::vs,j+1,l,h=>Ck v ls vs j l (by simpa using h)
theorem JD{cx:Cx}{ms:List Nat}{ps:List VP}{r:Nat}(h1:r∉ms)(h2:r∉ps.flatMap VP.roots):(cx.in ms ps).lock r=true:=by
 have a:has ms r=false:=by cases h:has ms r;rfl;exact absurd ((A8 _ _).1 h) h1
 have b:has (ps.flatMap VP.roots) r=false:=by cases h:has (ps.flatMap VP.roots) r;rfl;exact absurd ((A8 _ _).1 h) h2
 simp[Cx.in,a,b]
theorem Hp{cx:Cx}{ms:List Nat}{ps:List VP}{r:Nat}(h1:r∉ms)(h2:r∉ps.flatMap VP.AP):(cx.in ms ps).FD r=true:=by
 have a:has ms r=false:=by cases h:has ms r;rfl;exact absurd ((A8 _ _).1 h) h1
 have b:has (ps.flatMap VP.AP) r=false:=by cases h:has (ps.flatMap VP.AP) r;rfl;exact absurd ((A8 _ _).1 h) h2
 simp[Cx.in,a,b]
structure F7(ms:List Nat)(ps:List VP)(s0 s1 σ:St)(W:Wd)(tm:Array Value)(fz:Nat→Prop)(tV:List (List Lv)):Prop where
 len:tV.length=ps.length
 told:∀(i:Nat)(p:VP)(vs:List Lv),ps[i]?=some p→tV[i]?=some vs→Told s1 W tm fz p vs
 at_:∀(i:Nat)(p:VP)(vs:List Lv),ps[i]?=some p→tV[i]?=some vs→At s0.Bq s0 σ p vs
 slot:∀t,t∉ps.flatMap VP.AP→σ.slot t=(base ms ps s0).slot t
 root:∀r,r∉ps.flatMap VP.roots→σ.root r=(base ms ps s0).root r
 l1:σ.sl.length=s0.sl.length
 l2:σ.ro.length=s0.ro.length
theorem F7.get{ms:List Nat}{ps:List VP}{s0 s1 σ:St}{W:Wd}{tm:Array Value}{fz:Nat→Prop}{tV:List (List Lv)}(h:F7 ms ps s0 s1 σ W tm fz tV){p:VP}(hp:p∈ps):∃vs,Told s1 W tm fz p vs∧At s0.Bq s0 σ p vs:=by obtain⟨i,hi⟩:=AAp hp;obtain⟨vs,hv⟩:=Bb h.len (AAH.1 hi).1;exact⟨vs,h.told i p vs hi hv,h.at_ i p vs hi hv⟩
def E1(W:Wd)(ps:List VP)(b:Nat):Prop:=W.fz b∨∃r j,OX ps r j∧b∈W.om (.lf r j)
theorem Mx{E:Cw}{cx:Cx}{N:Nat}{ms:List Nat}{ps:List VP}{s0 s1:St}{tm:Array Value}{W:Wd}{x:(DF ps).D}(h1:AW E s1 tm W)(r1:Bh s1)(hk:Ar (cx.in ms ps) s0 s1)(hp:Cp cx ms ps=true)(hx:Aq ps s1=some x):
  ∃tV,F7 ms ps s0 s1 (B5 ms ps s0 x) W tm (E1 W ps) tV:=by
 unfold Aq at hx;obtain⟨lvs,hl,wL⟩:=Step.C3 _ hx;obtain⟨tV,hl,hlen,yx⟩:=KC h1 r1 (fz:=E1 W ps) (fun b hb=>.inl hb) (fun r j hf b hb=>.inr ⟨r,j,hf,hb⟩) hl;have hl:tV.flatten=lvs:=hl;subst hl;have wv:=Aw _ _ _ wL;simp only[Cp,AAG]at hp;obtain⟨⟨d1,d2⟩,_⟩:=hp;have vQ:s1.ro.length=s1.sl.length:=by rw[h1.DH,h1.B0]
 have tv:∀p∈ps,∃vs,Told s1 W tm (E1 W ps) p vs:=fun p hp=>by obtain⟨i,hi⟩:=AAp hp;obtain⟨vs,hv⟩:=Bb hlen (AAH.1 hi).1;exact⟨vs,yx i p vs hi hv⟩
 have hlook:=Ga s0.Bq s0 ps tV (base ms ps s0) hlen (fun i p vs hi hv=>by
   have:=yx i p vs hi hv;cases p with
   |slot t l=>obtain⟨_,x,rfl,_⟩:=this;rfl
   |own t ty e d k=>obtain⟨_,x,rfl,_⟩:=this;rfl
   |box r ls=>exact this.2.2.1) d2 d1
  (fun t ht=>by
   rw[(Fh ms ps s0).1,←hk.l1];obtain⟨p,hp,ht⟩:=AAI.1 ht;obtain⟨vs,hv⟩:=tv p hp;cases p with
   |slot u l=>simp[VP.AP]at ht;subst ht;exact hv.1
   |own u ty e d k=>simp[VP.AP]at ht;subst ht;exact hv.1
   |box r ls=>simp[VP.AP]at ht)
  (fun t ht=>by
   rw[(Fh ms ps s0).2,←hk.l2];obtain⟨p,hp,ht⟩:=AAI.1 ht;obtain⟨vs,hv⟩:=tv p hp;cases p with
   |slot u l=>simp[VP.roots]at ht
   |own u ty e d k=>simp[VP.roots]at ht;subst ht;rw[vQ];exact hv.1
   |box r ls=>simp[VP.roots]at ht;subst ht;exact JT hv.1)
 have he:B5 ms ps s0 x=(base ms ps s0).app (B6 s0.Bq s0 ps tV.flatten):=by unfold B5;rw[wv]
 rw[he];obtain⟨a,b,c⟩:=hlook;exact⟨tV,hlen,yx,c,a,b,(CG _ _).1.trans (Fh ms ps s0).1,(CG _ _).2.trans (Fh ms ps s0).2⟩
end Go.Ev
namespace Go.Ev
section
variable {E:Cw}{cx:Cx}{N:Nat}{ms:List Nat}{ps:List VP}{s0 s1 σ:St}{tm:Array Value}{W:Wd}{tV:List (List Lv)}
noncomputable def C6 (σ:St) (W:Wd) (ps:List VP):Wd where
 w:=W.w
 fz:=E1 W ps
 cv:=W.cv
 bk:=W.bk
 om k:=match k with
  | .lf r j=>bif(σ.leaf r j).CN then W.om (.lf r j)else []
  | .AX r=>bif(σ.root r).box then W.om (.AX r)else []
  | .fl _=>[]
theorem Em(k:Key):∀b∈(C6 σ W ps).om k,b∈W.om k:=by
 intro b hb;cases k with
 |lf r j=>
  have hb:b∈(bif(σ.leaf r j).CN then W.om (.lf r j)else []):=hb;cases h:(σ.leaf r j).CN<;>rw[h]at hb
  ·cases hb
  ·exact hb
 |AX r=>
  have hb:b∈(bif(σ.root r).box then W.om (.AX r)else []):=hb;cases h:(σ.root r).box<;>rw[h]at hb
  ·cases hb
  ·exact hb
 |fl k=>cases hb
theorem OI{p:VP}(hp:p∈ps){r:Nat}(hr:r∈p.roots):r∈ps.flatMap VP.roots:=AAI.2 ⟨p,hp,hr⟩
theorem Lz(ha:F7 ms ps s0 s1 σ W tm (E1 W ps) tV){r j:Nat}(hf:OX ps r j):(σ.leaf r j).CN=false:=by obtain⟨ls,l,hm,hj⟩:=hf;obtain⟨vs,_,u3⟩:=ha.get hm;have u3:σ.root r=_:=u3;unfold St.leaf;rw[u3];exact Ck _ ls vs j l hj
theorem L2(h:AW E s1 tm W)(ha:F7 ms ps s0 s1 σ W tm (E1 W ps) tV):Sep E (C6 σ W ps) where
 nodup k:=by
  cases k with
  |lf r j=>
   show(bif(σ.leaf r j).CN then W.om (.lf r j)else []).Nodup;cases(σ.leaf r j).CN
   ·exact AAL
   ·exact h.sep.nodup _
  |AX r=>
   show(bif(σ.root r).box then W.om (.AX r)else []).Nodup;cases(σ.root r).box
   ·exact AAL
   ·exact h.sep.nodup _
  |fl k=>exact AAL
 A4 k k' tj b hb th:=h.sep.A4 k k' tj b (Em k b hb) (Em k' b th)
 own k b hb:=by
  obtain⟨q1,q2,q3⟩:=h.sep.own k b (Em k b hb);refine⟨?_,q2,q3⟩
  rintro (hz|⟨r,j,hf,hz⟩)
  ·exact q1 hz
  ·have hk:k=.lf r j:=AAn fun tj=>h.sep.A4 k _ tj b (Em k b hb) hz;subst hk;have hb:b∈(bif(σ.leaf r j).CN then W.om (.lf r j)else []):=hb;rw[Lz ha hf]at hb;cases hb
 fz b hb:=by
  rcases hb with hz|⟨r,j,_,hz⟩
  ·exact h.sep.fz b hz
  ·obtain⟨_,q2,q3⟩:=h.sep.own _ b hz;exact⟨q2,.inr q3⟩
 frame:=h.sep.frame
 size:=h.sep.size
 rest:=h.sep.rest
theorem HJ(hk:Ar (cx.in ms ps) s0 s1)(hp:Cp cx ms ps=true)(ha:F7 ms ps s0 s1 σ W tm (E1 W ps) tV){r:Nat}(hb:(σ.root r).box=true):(s1.root r).box=true∧(s1.root r).AA=(σ.root r).AA∧(s1.root r).ls.length=(σ.root r).ls.length:=by
 simp only[Cp,AAG]at hp;obtain⟨_,uZ⟩:=hp;by_cases hr:r∈ps.flatMap VP.roots
 ·obtain⟨p,hm,hr⟩:=AAI.1 hr;obtain⟨vs,ht,u3⟩:=ha.get hm;cases p with
  |slot t l=>simp[VP.roots]at hr
  |own t ty e d k=>
   simp[VP.roots]at hr;subst hr;obtain⟨_,xs,rfl,_⟩:=ht;have:=(u3 _ rfl).2;rw[this]at hb;cases hb
  |box q ls=>
   simp[VP.roots]at hr;subst hr;have u3:σ.root r=_:=u3;have h2:=AAU.1 uZ _ hm;simp only[AAG,AAT]at h2;have n1:r∉ms:=fun hh=>by rw[(A8 _ _).2 hh]at h2;exact absurd h2.1.1 (by simp)
   have n2:r∉ps.flatMap VP.AP:=fun hh=>by rw[(A8 _ _).2 hh]at h2;exact absurd h2.2 (by simp)
   obtain⟨b1,b2,b3⟩:=hk.box r (Hp n1 n2);refine⟨ht.1,?_,?_⟩
   ·rw[u3,b2]
   ·rw[u3];exact ht.2.1.symm.trans (BI _ _ _).symm
 ·have vQ:=ha.root r hr;rw[CK]at vQ;split at vQ
  ·rw[vQ]at hb;cases hb
  ·rename_i zQ;have n1:r∉ms:=fun hh=>zQ ((A8 _ _).2 hh);have:=hk.roots r (JD n1 hr);have e:s1.root r=σ.root r:=this.trans vQ.symm;rw[e];exact⟨hb,rfl,rfl⟩
theorem DM(hk:Ar (cx.in ms ps) s0 s1)(hp:Cp cx ms ps=true)(ha:F7 ms ps s0 s1 σ W tm (E1 W ps) tV){a:LA}{v:Value}(hr:∀c,(a=.ref c∨(∃lo hi,a=.EF c lo hi)∨a=.Bn c∨∃t,a=.JC t c)→σ.root c.r=s1.root c.r)(hv:AR s1 W a v):AR σ (C6 σ W ps) a v:=by
 cases a with
 |bad=>trivial
 |undef=>exact hv
 |DJ=>exact hv
 |JI=>exact hv
 |sc l x=>exact L.AJ l hv (fun _ _=>rfl) fun b hb=>.inl hb
 |ref c=>
  intro gen t e xs d hl hg;rw[Ak (hr c (.inl rfl))]at hl;exact hv gen t e xs d hl hg
 |EF c lo hi=>
  intro gen t e xs d hl hg;rw[Ak (hr c (.inr (.inl ⟨lo,hi,rfl⟩)))]at hl;exact hv gen t e xs d hl hg
 |Bn c=>
  intro gen t e xs d hl hg;rw[Ak (hr c (.inr (.inr (.inl rfl))))]at hl;exact hv gen t e xs d hl hg
 |ptr r j AA=>
  intro hb tc;obtain⟨b1,b2,_⟩:=HJ hk hp ha hb;exact hv b1 (b2.trans tc)
 |D9 e x off=>
  obtain⟨ad,g,arr,T,fr,vE,hz,hh,hg,te⟩:=hv;exact⟨ad,g,arr,T,fr,vE,.inl hz,hh,hg,Ls.AJ e te (fun _ _=>rfl) fun b hb=>.inl hb⟩
 |fn f=>exact hv
 |JC tt c=>
  obtain⟨u,hu,hv⟩:=hv;refine⟨u,hu,fun gen t e xs d hl hg=>?_⟩;rw[Ak (hr c (.inr (.inr (.inr ⟨tt,rfl⟩))))]at hl;exact hv gen t e xs d hl hg
 |EI g qs _=>
  obtain⟨bs,hu,hlen,hv⟩:=hv;refine⟨bs,hu,hlen,fun k p b yo hb hx tc=>?_⟩;obtain⟨b1,b2,_⟩:=HJ hk hp ha hx;exact hv k p b yo hb b1 (b2.trans tc)
 |arr=>exact hv
end
end Go.Ev
namespace Go.Ev
section
variable {E:Cw}{cx:Cx}{N:Nat}{ms:List Nat}{ps:List VP}{s0 s1 σ:St}{tm:Array Value}{W:Wd}{tV:List (List Lv)}
theorem CX{ms:List Nat}{r:Nat}(h:has ms r=false):r∉ms:=fun hh=>by rw[(A8 _ _).2 hh]at h;cases h
theorem G5{ms:List Nat}{r:Nat}(h:r∉ms):has ms r=false:=by
 cases hh:has ms r with
 |false=>rfl
 |true=>exact absurd ((A8 _ _).1 hh) h
theorem F8(hk:Ar (cx.in ms ps) s0 s1)(ha:F7 ms ps s0 s1 σ W tm (E1 W ps) tV){r:Nat}(h1:r∉ms)(h2:r∉ps.flatMap VP.roots):σ.root r=s1.root r:=by rw[ha.root r h2,CK,G5 h1,hk.roots r (JD h1 h2)];rfl
theorem HK(hk:Ar (cx.in ms ps) s0 s1)(hp:Cp cx ms ps=true)(ha:F7 ms ps s0 s1 σ W tm (E1 W ps) tV){a a':LA}{v:Value}(hc:FG (cx.in ms ps) a a')(hv:AR s1 W a' v):
  AR σ (C6 σ W ps) (a.clean (fun r=>has ms r||has (ps.flatMap VP.AP) r) fun r=>has ms r||has (ps.flatMap VP.roots) r) v:=by
 have far:∀r,¬(has ms r||has (ps.flatMap VP.roots) r)=true→(cx.in ms ps).lock r=true∧σ.root r=s1.root r:=by intro r hr;simp only[AAa,not_or,Bool.not_eq_true]at hr;exact⟨JD (CX hr.1) (CX hr.2),F8 hk ha (CX hr.1) (CX hr.2)⟩
 have same:∀ {b:LA},a=b→¬Hc (cx.in ms ps) b→AR s1 W b v:=by
  intro b e hd;subst e;rcases hc with rfl|⟨_,hh⟩
  ·exact hv
  ·exact absurd hh hd
 cases a with
 |ref c=>
  simp only[LA.clean];split
  ·trivial
  ·rename_i hr;obtain⟨q1,q2⟩:=far c.r hr;refine DM hk hp ha (fun c' uW=>?_) (same rfl (by simp[Hc,q1]));rcases uW with e|⟨_,_,e⟩|e|⟨_,e⟩<;>cases e;exact q2
 |EF c lo hi=>
  simp only[LA.clean];split
  ·trivial
  ·rename_i hr;obtain⟨q1,q2⟩:=far c.r hr;refine DM hk hp ha (fun c' uW=>?_) (same rfl (by simp[Hc,q1]));rcases uW with e|⟨_,_,e⟩|e|⟨_,e⟩<;>cases e;exact q2
 |Bn c=>
  simp only[LA.clean];split
  ·trivial
  ·rename_i hr;obtain⟨q1,q2⟩:=far c.r hr;refine DM hk hp ha (fun c' uW=>?_) (same rfl (by simp[Hc,q1]));rcases uW with e|⟨_,_,e⟩|e|⟨_,e⟩<;>cases e;exact q2
 |ptr r j AA=>
  simp only[LA.clean];split
  ·trivial
  ·rename_i hr;simp only[AAa,not_or,Bool.not_eq_true]at hr;have q1:=Hp (cx:=cx) (CX hr.1) (CX hr.2);refine DM hk hp ha (fun c' uW=>?_) (same rfl (by simp[Hc,q1]));rcases uW with e|⟨_,_,e⟩|e|⟨_,e⟩<;>cases e
 |JC t c=>
  simp only[LA.clean];split
  ·trivial
  ·rename_i hr;obtain⟨q1,q2⟩:=far c.r hr;refine DM hk hp ha (fun c' uW=>?_) (same rfl (by simp[Hc,q1]));rcases uW with e|⟨_,_,e⟩|e|⟨_,e⟩<;>cases e;exact q2
 |EI g qs q2=>
  simp only[LA.clean];split
  ·trivial
  ·rename_i hr;refine DM hk hp ha (fun c' uW=>?_) (same rfl ?_)
   ·rcases uW with e|⟨_,_,e⟩|e|⟨_,e⟩<;>cases e
   ·rintro ⟨p,yo,hd⟩
    refine hr (AA6.2 ⟨p,yo,?_⟩);refine AAn fun hn=>?_;simp only[AAa,not_or,Bool.not_eq_true]at hn;rw[Hp (cx:=cx) (CX hn.1) (CX hn.2)]at hd;cases hd
 |_=>
  refine DM hk hp ha (fun c' uW=>?_) (same rfl (fun hd=>(hd:False)));rcases uW with e|⟨_,_,e⟩|e|⟨_,e⟩<;>cases e
theorem LC(hk:Ar (cx.in ms ps) s0 s1)(hp:Cp cx ms ps=true)(ha:F7 ms ps s0 s1 σ W tm (E1 W ps) tV){a a':AV}{v:Value}(hc:C5 (cx.in ms ps) a a')(hv:Ba s1 W a' v):
  Ba σ (C6 σ W ps) (a.clean (fun r=>has ms r||has (ps.flatMap VP.AP) r) fun r=>has ms r||has (ps.flatMap VP.roots) r) v:=by
 have hV:∀ {g:Bool} {as xP:List LA},xP.length=as.length→(∀(j:Nat)(b:LA),as[j]?=some b→∃b',xP[j]?=some b'∧FG (cx.in ms ps) b b')→E4 s1 W g xP v→
   E4 σ (C6 σ W ps) g (as.map (LA.clean (fun r=>has ms r||has (ps.flatMap VP.AP) r) fun r=>has ms r||has (ps.flatMap VP.roots) r)) v:=by
  intro g as xP hlen hl hv;cases g with
  |false=>
   match as,xP,hlen,hl,hv with
   | [b],[b'],_,hl,hv=>
    obtain⟨b2,h1,h2⟩:=hl 0 b rfl;simp at h1;subst h1;exact HK hk hp ha h2 hv
   | [],[],_,hl,hv=>exact hv.elim
   |_::_::_,_::_::_,_,hl,hv=>exact hv.elim
  |true=>
   obtain⟨cs,wF,uC,tv⟩:=hv;refine⟨cs,wF,by rw[uC,hlen];simp,fun j b hj=>?_⟩;rw[AAX]at hj;cases hq:as[j]? with
   |none=>rw[hq]at hj;cases hj
   |some c=>
    rw[hq]at hj;injection hj with hj;subst hj
    obtain⟨c',h1,h2⟩:=hl j c hq;obtain⟨u,hu,uU⟩:=tv j c' h1;exact⟨u,hu,HK hk hp ha h2 uU⟩
 cases hc with
 |same=>
  cases a with
  |Dp vs=>trivial
  |bx as=>trivial
  |v g as=>exact hV rfl (fun j b hj=>⟨b,hj,.inl rfl⟩) hv
 |v g as xP h hl=>exact hV h hl hv
 |Dp vs=>trivial
 |bx as=>trivial
end
end Go.Ev
namespace Go.Ev
section
variable {E:Cw}{cx:Cx}{N:Nat}{ms:List Nat}{ps:List VP}{s0 s1 σ:St}{tm:Array Value}{W:Wd}{tV:List (List Lv)}
theorem Lm{a:LA}{v:Nat}{fz:Nat→Prop}{y:Value}{o:List Nat}(h:match a with
  | .arr AA gen t e xs d=>AA=v∧gen=v∧AD e d W.w W.fz y xs o
  | .sc l x=>l.rd 0 W.w (E1 W ps) y x []
  | .bad=>True
  |_=>False):Aa σ (C6 σ W ps) a (some y) (bif a.CN then o else []):=by
 cases a with
 |arr AA gen t e xs d=>exact⟨y,rfl,h.2.2.frame (fun _ _=>rfl) fun b hb=>.inl hb⟩
 |sc l x=>exact⟨rfl,fun u hu=>by injection hu with hu;subst hu;exact h⟩
 |bad=>exact⟨rfl,fun _ _=>trivial⟩
 |_=>exact h.elim
theorem L1(h:AW E s1 tm W)(r1:Bh s1)(h2:2≤s0.Bq)(hk:Ar (cx.in ms ps) s0 s1)(hp:Cp cx ms ps=true)(ha:F7 ms ps s0 s1 σ W tm (E1 W ps) tV):AW E σ tm (C6 σ W ps) where
 DH:=by rw[ha.l1,←hk.l1,h.DH]
 B0:=by rw[ha.l2,←hk.l2,h.B0]
 AP t:=by
  by_cases ht:t∈ps.flatMap VP.AP
  ·obtain⟨p,hm,ht⟩:=AAI.1 ht;obtain⟨vs,wS,u3⟩:=ha.get hm;cases p with
   |slot u l=>
    simp[VP.AP]at ht;subst ht;obtain⟨_,x,rfl,hr⟩:=wS;rw[u3 _ rfl];exact L.AJ l hr (fun _ _=>rfl) fun b hb=>.inl hb
   |own u ty e d k=>
    simp[VP.AP]at ht;subst ht;obtain⟨_,xs,rfl,_,uJ,hr,_⟩:=wS;rw[(u3 _ rfl).1];intro gen t' e' u6 d' hl hg;exact⟨_,e',uJ,rfl,rfl⟩
   |box r ls=>simp[VP.AP]at ht
  ·rw[ha.slot t ht,GB];cases zQ:has ms t with
   |true=>exact trivial
   |false=>exact LC hk hp ha (hk.AP t (Hp (CX zQ) ht)) (h.AP t)
 roots r:=by
  by_cases hr:r∈ps.flatMap VP.roots
  ·obtain⟨p,hm,hr⟩:=AAI.1 hr;obtain⟨vs,wS,u3⟩:=ha.get hm;cases p with
   |slot u l=>simp[VP.roots]at hr
   |own u ty e d k=>
    simp[VP.roots]at hr;subst hr;obtain⟨_,xs,rfl,wP,uJ,te,_⟩:=wS;have vQ:=(u3 _ rfl).2;refine⟨fun j=>?_,?_⟩
    ·have wa:(C6 σ W ps).om (.lf r j)=bif(nth .bad (σ.root r).ls j).CN then W.om (.lf r j)else []:=rfl;rw[wa,vQ];cases j with
     |zero=>
      show Aa _ _ (DU s0.Bq d k ⟨.sl ty e,xs⟩) (W.cv r 0) (bif(DU s0.Bq d k ⟨.sl ty e,xs⟩).CN then W.om (.lf r 0)else []);rw[uJ];cases d with
      |zero=>
       have:=AD.zero te;rw[this]at te;exact⟨rfl,fun u hu=>by injection hu with hu;subst hu;exact L.AJ (.sl ty e) te (fun _ _=>rfl) fun b hb=>.inl hb⟩
      |succ d=>exact⟨_,rfl,te.frame (fun _ _=>rfl) fun b hb=>.inl hb⟩
     |succ j=>exact⟨rfl,fun _ _=>trivial⟩
    ·rw[vQ];show(if false=true then _ else _);rw[AAM (by simp)];show(bif(σ.root r).box then W.om (.AX r)else [])=[];rw[vQ];rfl
   |box q ls=>
    simp[VP.roots]at hr;subst hr;have u3:σ.root r=_:=u3;obtain⟨wP,hlen,_,wS⟩:=wS;obtain⟨_,wO⟩:=h.roots r;rw[AAK wP]at wO;obtain⟨ho,arr,T,fr,hh,a1,a2,a3⟩:=wO;refine⟨fun j=>?_,?_⟩
    ·have wa:(C6 σ W ps).om (.lf r j)=bif(nth .bad (σ.root r).ls j).CN then W.om (.lf r j)else []:=rfl;rw[wa,u3];show Aa _ _ (nth .bad (AQ s0.Bq ls vs) j) (W.cv r j) (bif(nth .bad (AQ s0.Bq ls vs) j).CN then W.om (.lf r j)else []);cases uJ:W.cv r j with
     |some y=>exact Lm (v:=s0.Bq) (fz:=E1 W ps) (wS s0.Bq j y uJ)
     |none=>
      have hj:ls.length≤j:=by rw[hlen,←a2];rw[a3 j]at uJ;exact Array.getElem?_eq_none_iff.1 uJ
      rw[Az _ (by rw[BI];exact hj)];exact⟨rfl,fun _ hu=>by cases hu⟩
    ·rw[u3];show(if true=true then _ else _);rw[AAK rfl];refine⟨?_,arr,T,fr,hh,a1,by rw[BI,hlen];exact a2,a3⟩;show(bif(σ.root r).box then W.om (.AX r)else [])=_;rw[u3];exact ho
  ·cases zQ:has ms r with
   |true=>
    have vQ:σ.root r=dead:=by rw[ha.root r hr,CK,zQ];rfl
    rw[vQ];refine⟨fun j=>?_,?_⟩
    ·have wa:(C6 σ W ps).om (.lf r j)=bif(nth .bad (σ.root r).ls j).CN then W.om (.lf r j)else []:=rfl;rw[wa,vQ];exact⟨rfl,fun _ _=>trivial⟩
    ·show(if false=true then _ else _);rw[AAM (by simp)];show(bif(σ.root r).box then W.om (.AX r)else [])=[];rw[vQ];rfl
   |false=>
    have vQ:=F8 hk ha (CX zQ) hr;rw[vQ];obtain⟨q1,q2⟩:=h.roots r;refine⟨fun j=>?_,?_⟩
    ·have wa:(C6 σ W ps).om (.lf r j)=bif(nth .bad (σ.root r).ls j).CN then W.om (.lf r j)else []:=rfl;rw[wa,vQ];have hq:=q1 j;show Aa _ _ _ (W.cv r j) _
     have hri:∀b,nth LA.bad (s1.root r).ls j=b→b.Cf=true:=by
      intro b hb;by_cases hj:j<(s1.root r).ls.length
      ·rw[←hb];exact r1 r _ (G8 hj)
      ·rw[Az _ (by omega)]at hb;subst hb;rfl
     generalize nth LA.bad (s1.root r).ls j=b at hq hri;have hri:=hri b rfl
     have yG:∀v,AR s1 W b v→AR σ (C6 σ W ps) b v:=fun v hv=>DM hk hp ha (fun c hc=>by
      rcases hc with e|⟨_,_,e⟩|e|⟨_,e⟩<;>(subst e;cases hri)) hv
     cases b with
     |arr AA gen t e xs d=>
      obtain⟨u,hu,te⟩:=hq;exact⟨u,hu,te.frame (fun _ _=>rfl) fun b hb=>.inl hb⟩
     |_=>exact⟨rfl,fun u hu=>yG u (hq.2 u hu)⟩
    ·have wa:(C6 σ W ps).om (.AX r)=bif(σ.root r).box then W.om (.AX r)else []:=rfl;rw[wa,vQ];cases hb:(s1.root r).box with
     |true=>
      rw[hb]at q2;rw[AAK rfl]at q2 ⊢;exact q2
     |false=>rw[AAM (by simp)];rfl
 sep:=L2 h ha
 init:=by
  refine⟨fun r j gen t e xs d hl=>?_,fun r hb tc=>?_⟩
  ·by_cases hr:r∈ps.flatMap VP.roots
   ·obtain⟨p,hm,hr⟩:=AAI.1 hr;obtain⟨vs,wS,u3⟩:=ha.get hm;cases p with
    |slot u l=>simp[VP.roots]at hr
    |own u ty e' d' k=>
     simp[VP.roots]at hr;subst hr;obtain⟨_,ys,rfl,_,_,_,hkk⟩:=wS;have vQ:=(u3 _ rfl).2;unfold St.leaf at hl;rw[vQ]at hl;cases j with
     |zero=>
      have hl:DU s0.Bq d' k ⟨.sl ty e',ys⟩=.arr 1 gen t e xs d:=hl;cases k with
      |true=>
       obtain⟨g1,t1,e1,xs1,d1,wB⟩:=hkk rfl;exact h.init.1 r 0 g1 t1 e1 xs1 d1 wB
      |false=>
       cases d' with
       |zero=>cases hl
       |succ d'=>
        have hl:LA.arr s0.Bq s0.Bq ty e' ys (d'+1)=.arr 1 gen t e xs d:=hl;injection hl with h1;omega
     |succ j=>cases hl
    |box q ls=>
     simp[VP.roots]at hr;subst hr;have u3:σ.root r=_:=u3;unfold St.leaf at hl;rw[u3]at hl;have hl:nth LA.bad (AQ s0.Bq ls vs) j=.arr 1 gen t e xs d:=hl;obtain⟨wP,hlen,_,wS⟩:=wS;obtain⟨_,wO⟩:=h.roots r;rw[AAK wP]at wO;obtain⟨_,arr,T,fr,hh,a1,a2,a3⟩:=wO
     have hj:j<ls.length:=by
      rcases AAo j ls.length with hj|hj
      ·exact hj
      ·rw[Az _ (by rw[BI];exact hj)]at hl;cases hl
     have uJ:W.cv r j=some (arr[j]'(by omega)):=by rw[a3 j];exact AAc _
     have:=wS s0.Bq j _ uJ;rw[hl]at this;have:=this.1;omega
   ·have vQ:=ha.root r hr;cases zQ:has ms r with
    |true=>
     rw[CK,zQ]at vQ;unfold St.leaf at hl;rw[vQ]at hl;cases j<;>cases hl
    |false=>
     have vQ:=F8 hk ha (CX zQ) hr;exact h.init.1 r j gen t e xs d (by rw[←Ak vQ];exact hl)
  ·obtain⟨b1,b2,_⟩:=HJ hk hp ha hb;exact h.init.2 r b1 (b2.trans tc)
end
end Go.Ev
namespace Go.Ev
section
variable {E:Cw}{cx:Cx}{N:Nat}{ms:List Nat}{ps:List VP}{s0 s1 σ:St}{tm:Array Value}{W:Wd}{tV:List (List Lv)}
structure Open(c:Cx)(ms:List Nat)(ps:List VP):Prop where
 m1:∀r∈ms,c.lock r=false∧c.FD r=false
 p1:∀r∈ps.flatMap VP.roots,c.lock r=false
 p2:∀r∈ps.flatMap VP.AP,c.FD r=false
theorem MX(vA:∀t∈ms,cx.lock t=false∧cx.FD t=false)(hp:Cp cx ms ps=true):Open cx ms ps:=by
 simp only[Cp,AAG]at hp;refine⟨vA,fun r hr=>?_,fun r hr=>?_⟩
 ·obtain⟨p,hm,hr⟩:=AAI.1 hr;have:=AAU.1 hp.2 p hm;cases p with
  |slot u l=>simp[VP.roots]at hr
  |own u ty e d k=>simp[VP.roots]at hr;subst hr;simp only[AAG,AAT]at this;exact this.1.1
  |box q ls=>simp[VP.roots]at hr;subst hr;simp only[AAG,AAT]at this;exact this.1.2
 ·obtain⟨p,hm,hr⟩:=AAI.1 hr;have:=AAU.1 hp.2 p hm;cases p with
  |slot u l=>simp[VP.AP]at hr;subst hr;simpa using this
  |own u ty e d k=>simp[VP.AP]at hr;subst hr;simp only[AAG,AAT]at this;exact this.1.2
  |box q ls=>simp[VP.AP]at hr
theorem NN(h:Open cx ms ps):Open (cx.in ms ps) ms ps:=by
 refine⟨fun r hr=>?_,fun r hr=>?_,fun r hr=>?_⟩
 ·have:=h.m1 r hr;simp[Cx.in,this.1,this.2,(A8 ms r).2 hr]
 ·simp[Cx.in,h.p1 r hr,(A8 _ r).2 hr]
 ·simp[Cx.in,h.p2 r hr,(A8 _ r).2 hr]
theorem HL{c:Cx}(ho:Open c ms ps)(hk:Ar (cx.in ms ps) s0 s1)(hp:Cp cx ms ps=true)(ha:F7 ms ps s0 s1 σ W tm (E1 W ps) tV)(w7:s0.Bq≤σ.Bq):Ar c s0 σ where
 AP t ht:=by
  have n1:t∉ms:=fun hh=>by rw[(ho.m1 t hh).2]at ht;cases ht
  have n2:t∉ps.flatMap VP.AP:=fun hh=>by rw[ho.p2 t hh]at ht;cases ht
  rw[ha.slot t n2,GB,G5 n1];refine LK (fun r hr=>?_) (fun r hr=>?_) _
  ·simp only[AAa]at hr;exact hr.elim (fun hr=>(ho.m1 r ((A8 _ _).1 hr)).2) fun hr=>ho.p2 r ((A8 _ _).1 hr)
  ·simp only[AAa]at hr;exact hr.elim (fun hr=>(ho.m1 r ((A8 _ _).1 hr)).1) fun hr=>ho.p1 r ((A8 _ _).1 hr)
 roots r hr:=by
  have n1:r∉ms:=fun hh=>by rw[(ho.m1 r hh).1]at hr;cases hr
  have n2:r∉ps.flatMap VP.roots:=fun hh=>by rw[ho.p1 r hh]at hr;cases hr
  rw[ha.root r n2,CK,G5 n1];rfl
 box r hr:=by
  have n1:r∉ms:=fun hh=>by rw[(ho.m1 r hh).2]at hr;cases hr
  have n3:r∉ps.flatMap VP.AP:=fun hh=>by rw[ho.p2 r hh]at hr;cases hr
  by_cases n2:r∈ps.flatMap VP.roots
  ·obtain⟨p,hm,uS⟩:=AAI.1 n2;obtain⟨vs,wS,u3⟩:=ha.get hm;cases p with
   |slot u l=>simp[VP.roots]at uS
   |own u ty e d k=>simp[VP.roots]at uS;subst uS;exact absurd (AAI.2 ⟨_,hm,by simp[VP.AP]⟩) n3
   |box q ls=>
    simp[VP.roots]at uS;subst uS;have u3:σ.root r=_:=u3;obtain⟨b1,b2,b3⟩:=hk.box r (Hp n1 n3);rw[u3];exact⟨wS.1.symm.trans b1,rfl,(BI _ _ _).trans (wS.2.1.trans b3)⟩
  ·rw[ha.root r n2,CK,G5 n1];exact⟨rfl,rfl,rfl⟩
 l1:=ha.l1
 l2:=ha.l2
 Bq:=w7
end
end Go.Ev
namespace Go.Ev
theorem Gj(v m:Nat)(x:Lv):(∀n∈(BU v m x).AG,n=v)∧(BU v m x).Cf=true:=by
 obtain⟨l,x⟩:=x;cases l with
 |sl t e=>cases m with
  |zero=>exact⟨fun n hn=>by simp[BU,LA.AG]at hn,rfl⟩
  |succ m=>exact⟨fun n hn=>by simp[BU,LA.AG]at hn;exact hn,rfl⟩
 |_=>exact⟨fun n hn=>by simp[BU,LA.AG]at hn,rfl⟩
theorem Ir(v:Nat)(k:Bool):FX v k=v∨FX v k=1:=by cases k;exact .inl rfl;exact .inr rfl
theorem Gk(v m:Nat)(k:Bool)(x:Lv):(∀n∈(DU v m k x).AG,n=v∨n=1)∧(DU v m k x).Cf=true:=by
 obtain⟨l,x⟩:=x;cases l with
 |sl t e=>cases m with
  |zero=>exact⟨(fun n hn=>by have hn:n∈([]:List Nat):=hn;cases hn),rfl⟩
  |succ m=>
   refine⟨fun n hn=>?_,rfl⟩;have hn:n∈[FX v k,v]:=hn;simp at hn;rcases hn with rfl|rfl
   ·exact Ir _ _
   ·exact .inl rfl
 |_=>exact⟨(fun n hn=>by have hn:n∈([]:List Nat):=hn;cases hn),rfl⟩
theorem CA(v:Nat):∀(ls:List (Option (L×Nat))) (vs:List Lv),∀a∈AQ v ls vs,(∀n∈a.AG,n=v)∧a.Cf=true
 | [],vs,a,h=>by cases h
 |none::ls,vs,a,h=>by
  rcases AAZ.1 (show a∈.bad::AQ v ls vs from h)with rfl|h
  ·exact⟨(fun n hn=>by cases hn),rfl⟩
  ·exact CA v ls vs a h
 |some (l,d)::ls,[],a,h=>by
  rcases AAZ.1 (show a∈.bad::AQ v ls []from h)with rfl|h
  ·exact⟨(fun n hn=>by cases hn),rfl⟩
  ·exact CA v ls [] a h
 |some (l,d)::ls,x::vs,a,h=>by
  rcases AAZ.1 (show a∈BU v d x::AQ v ls vs from h)with rfl|h
  ·exact Gj v d x
  ·exact CA v ls vs a h
section
variable {E:Cw}{cx:Cx}{N:Nat}{ms:List Nat}{ps:List VP}{s0 s1 σ:St}{tm:Array Value}{W:Wd}{tV:List (List Lv)}
theorem L0(i0:Inv N s0)(ha:F7 ms ps s0 s1 σ W tm (E1 W ps) tV)(w7:σ.Bq=s0.Bq+1):Inv N σ where
 AG:=by
  rw[w7];refine⟨fun t n hn=>?_,fun r n hn=>?_⟩
  ·by_cases ht:t∈ps.flatMap VP.AP
   ·obtain⟨p,hm,ht⟩:=AAI.1 ht;obtain⟨vs,wS,u3⟩:=ha.get hm;cases p with
    |slot u l=>
     simp[VP.AP]at ht;subst ht;obtain⟨_,x,rfl,hr⟩:=wS;rw[u3 _ rfl]at hn;simp[one,AV.AG,LA.AG]at hn
    |own u ty e d k=>
     simp[VP.AP]at ht;subst ht;obtain⟨_,xs,rfl,_⟩:=wS;rw[(u3 _ rfl).1]at hn;have:=Ir s0.Bq k;have:=i0.two;simp[one,AV.AG,LA.AG]at hn;omega
    |box r ls=>simp[VP.AP]at ht
   ·rw[ha.slot t ht,GB]at hn;split at hn
    ·simp[one,AV.AG,LA.AG]at hn
    ·have:=i0.AG.1 t n (KT _ _ _ n hn);omega
  ·by_cases hr:r∈ps.flatMap VP.roots
   ·obtain⟨p,hm,hr⟩:=AAI.1 hr;obtain⟨vs,wS,u3⟩:=ha.get hm;cases p with
    |slot u l=>simp[VP.roots]at hr
    |own u ty e d k=>
     simp[VP.roots]at hr;subst hr;obtain⟨_,xs,rfl,_⟩:=wS;rw[(u3 _ rfl).2]at hn;rcases AAZ.1 hn with hn|hn
     ·have hn:n=s0.Bq:=hn;omega
     ·obtain⟨a,za,hn⟩:=AAI.1 hn;simp at za;subst za;have:=(Gk _ _ _ _).1 n hn;have:=i0.two;omega
    |box q ls=>
     simp[VP.roots]at hr;subst hr;have u3:σ.root r=_:=u3;rw[u3]at hn;rcases AAZ.1 hn with hn|hn
     ·have hn:n=(s0.root r).AA:=hn;have:=i0.AG.2 r n (by rw[hn];exact AAe);omega
     ·obtain⟨a,za,hn⟩:=AAI.1 hn;have:=(CA _ _ _ a za).1 n hn;omega
   ·rw[ha.root r hr,CK]at hn;split at hn
    ·simp[dead,Bp.AG]at hn;omega
    ·have:=i0.AG.2 r n hn;omega
 two:=by have:=i0.two;omega
 len:=ha.l1.trans i0.len
 B0:=ha.l2.trans i0.B0
 Ld:=by
  intro r a vM;by_cases hr:r∈ps.flatMap VP.roots
  ·obtain⟨p,hm,hr⟩:=AAI.1 hr;obtain⟨vs,wS,u3⟩:=ha.get hm;cases p with
   |slot u l=>simp[VP.roots]at hr
   |own u ty e d k=>
    simp[VP.roots]at hr;subst hr;obtain⟨_,xs,rfl,_⟩:=wS;rw[(u3 _ rfl).2]at vM;simp at vM;subst vM;exact(Gk _ _ _ _).2
   |box q ls=>
    simp[VP.roots]at hr;subst hr;have u3:σ.root r=_:=u3;rw[u3]at vM;exact(CA _ _ _ a vM).2
  ·rw[ha.root r hr,CK]at vM;split at vM
   ·cases vM
   ·exact i0.Ld r a vM
theorem LL(x:(DF ps).D):(B5 ms ps s0 x).Bq=s0.Bq+1:=by unfold B5;rw[I5];rfl
theorem Dt{x:(DF ps).D}(h1:AW E s1 tm W)(i1:Bh s1)(i0:Inv N s0)(hk:Ar (cx.in ms ps) s0 s1)(vA:∀t∈ms,cx.lock t=false∧cx.FD t=false)(hp:Cp cx ms ps=true)(hx:Aq ps s1=some x):
  ∃W',W'.w=W.w∧AW E (B5 ms ps s0 x) tm W'∧Inv N (B5 ms ps s0 x)∧Ar cx s0 (B5 ms ps s0 x)∧Ar (cx.in ms ps) s0 (B5 ms ps s0 x):=by
 obtain⟨tV,ha⟩:=Mx (N:=N) h1 i1 hk hp hx;have hc:=LL (ms:=ms) (s0:=s0) x;have ho:=MX vA hp;exact⟨C6 (B5 ms ps s0 x) W ps,rfl,L1 h1 i1 i0.two hk hp ha,L0 i0 ha hc,HL ho hk hp ha (by omega),HL (NN ho) hk hp ha (by omega)⟩
end
end Go.Ev
namespace Go.Ev
section
variable {P:Program}{E:Cw}{cx:Cx}{N:Nat}{s:St}{W:Wd}{a:Act}{Q:Exit→Act→World→Prop}
theorem M4{n:Nat}{tm:Array Value}(h:AW E s tm W):AW E { s with Bq:=n } tm W where
 DH:=h.DH
 B0:=h.B0
 AP t:=Ba.map (fun b hb=>⟨hb,rfl⟩) (fun a v hv=>by cases a<;>exact hv) (h.AP t)
 roots r:=by
  obtain⟨q1,q2⟩:=h.roots r;exact⟨fun j=>(q1 j).map (fun a v hv=>by cases a<;>exact hv) fun _ _ _ _ hr=>hr,q2⟩
 sep:=h.sep
 init:=h.init
theorem MY(hc:Dr P cx)(uF:DL P E cx.env)(hm:P.follows .mixedOrders=true){id:Nat}{ops:Array Oper}{draw:Bool}{R:Type}{k:St→Option R}{x:R}(uB:codeOk N (.region id ops draw)=true)(hslk:∀o∈ops.toList,∀d,o.dst=some d→cx.FD d=false)
  (tT:AW E s a.tmps W) (hinv:Inv N s) (he:EY cx ⟨ops,s.Bq,draw⟩ (number 0 ops.toList) (E0 ops.toList []) [] s k=some x)
  (hK:∀s' a' W',a'.defers=a.defers→AW E s' a'.tmps W'→Ar cx s s'→Bh s'→BV s' (· < s.Bq+ops.size)→k s'=some x→Q .normal a' W'.w):(Code.region id ops draw).wp P Q a W.w:=by
 obtain⟨tr,ht,hlen,hk⟩:=EZ ops.toList 0 [] s he;simp only[codeOk,AAG]at uB;obtain⟨hE,vx⟩:=uB
 have hd:∀o∈ops.toList,∀d,o.dst=some d→d<s.sl.length:=by intro o ho d hd;have:=AAU.1 vx o ho;rw[hd]at this;rw[hinv.len];simpa using this
 obtain⟨hkeep,hrin⟩:=Gg ops.toList 0 [] s tr ht hslk hinv.Ld
 have hfin:∀a' W',a'.defers=a.defers→AW E (AL (fun _=>true) 0 tr s) a'.tmps W'→BV (AL (fun _=>true) 0 tr s) (pA s.Bq (· < ops.size))→Q .normal a' W'.w:=fun a' W' h1 h2 h3=>
  hK _ a' W' h1 h2 hkeep hrin (h3.mono fun n hn=>by
   rcases hn with hn|⟨j,hj,e⟩
   ·omega
   ·have:j<ops.size:=hj;omega) hk
 have h2:=hinv.two;cases draw with
 |false=>
  refine wp_region ?_
  have:=Mg (g:=⟨ops,s.Bq,false⟩) (bs:=E0 ops.toList []) (Q:=Q) hc uF (show 1<s.Bq by omega) (fun i j hi hj=>by
   have hi:i<ops.size:=hi
   exact Iz (ops:=ops) hE (A:=(· < i)) (fun k o hk ho e he hb=>by
     have:=Co ops.toList 0 hE k o (by simpa using ho) e he hb;have hk:k<i:=hk;show e.on<i;omega) (fun k hk=>Nat.lt_trans hk hi) (i:=i) (o:=ops[i]) (by simp[hi]) (fun e he hb=>by
     have:=Co ops.toList 0 hE i ops[i] (by simp[hi]) e he hb;show e.on<i;omega) j hj) ops.toList 0 [] s tr a W ht (fun k o hk=>by simpa using hk) tT (hinv.AG.mono fun n hn=>.inl hn) hd (fun a' W' q1 q2 q3=>hfin a' W' q1 q2 (by simpa using q3))
  have e:List.range ops.size=List.range' 0 ops.toList.length:=by rw[List.range_eq_range'];simp
  rw[e];exact this
 |true=>
  refine wp_region_any hm ?_
  have vU:∀(tr:List (Nat×List Wr)) (i:Nat) (s:St),AL (fun i=>(Array.replicate ops.size false).getD i false) i tr s=s:=by
   intro tr
   induction tr with
   |nil=>intro i s;rfl
   |cons y tr ih=>
    intro i s;simp only[AL]
    have:(Array.replicate ops.size false).getD i false=false:=by
     rw[AAg,Array.getElem?_replicate];split<;>rfl
    rw[this];exact ih (i+1) s
  have hrepd:AW E s a.tmps { W with w:={ W.w with drawn:=W.w.drawn+1 } }:=tT.world (fun _ _=>rfl) (fun _ _ _=>rfl) (AAd _) ⟨rfl,rfl,rfl⟩
  exact Ng (g:=⟨ops,s.Bq,true⟩) (Q:=Q) hc uF (show 1<s.Bq by omega) hE rfl ht (by simpa using hlen) hinv.AG hd hfin ops.size (Array.replicate ops.size false) a { W with w:={ W.w with drawn:=W.w.drawn+1 } } (by simp) (by simp) rfl
   (by rw[vU];exact hrepd) (by rw[vU];exact hinv.AG.mono fun n hn=>.inl hn) (fun i o hi=>by
    rw[AAg,Array.getElem?_replicate]at hi;split at hi<;>cases hi)
end
end Go.Ev
namespace Go.Ev
section
variable {P:Program}{E:Cw}{cx:Cx}{N:Nat}{s:St}{W:Wd}{a:Act}{Q:Exit→Act→World→Prop}
theorem Hd:∀(os:List Oper)(i:Nat)(o:Oper)(d:Nat),o∈os→o.dst=some d→d∈Gu (number i os)
 | [],i,o,d,h,_=>by cases h
 |x::os,i,o,d,h,hd=>by
  simp only[number,Gu];rcases AAZ.1 h with rfl|h
  ·rw[hd];exact AAe
  ·have:=Hd os (i+1) o d h hd;cases x.dst with
   |none=>exact this
   |some y=>exact AAJ _ this
theorem LP{s':St}{n:Nat}(h:Ar cx s s')(hn:s.Bq≤n):Ar cx s { s' with Bq:=n }:=⟨h.AP,h.roots,h.box,h.l1,h.l2,hn⟩
theorem IB{an:An}(hc:Dr P cx)(uF:DL P E cx.env)(hm:P.follows .mixedOrders=true){id:Nat}{ops:Array Oper}{draw:Bool}{R:Type}{k:St→Option R}{x:R}(uB:codeOk N (.region id ops draw)=true)
  (vA:∀t∈CH (.region id ops draw),cx.lock t=false∧cx.FD t=false) (tT:AW E s a.tmps W) (hinv:Inv N s) (he:Et cx an id ops draw s k=some x)
  (hK:∀s' a' W',a'.defers=a.defers→AW E s' a'.tmps W'→Inv N s'→Ar cx s s'→k s'=some x→Q .normal a' W'.w):(Code.region id ops draw).wp P Q a W.w:=by
 unfold Et at he;dsimp only at he;split at he
 ·refine MY hc uF hm uB (fun o ho d hd=>(vA d (Hd _ _ o d ho hd)).2) tT hinv he fun s' a' W' q1 q2 q3 q4 q5 q6=>?_;exact hK { s' with Bq:=s.Bq+ops.size } a' W' q1 (M4 q2) ⟨q5,by have:=hinv.two;show 2≤s.Bq+ops.size;omega,q3.l1.trans hinv.len,q3.l2.trans hinv.B0,q4⟩ (LP q3 (by omega)) q6
 ·have he:(fun ps:List VP=>if Cp cx (Gu (number 0 ops.toList)) ps then(EY (cx.in (Gu (number 0 ops.toList)) ps) ⟨ops,s.Bq,draw⟩ (number 0 ops.toList) (E0 ops.toList []) [] s (Aq ps)).bind fun x=>k (B5 (Gu (number 0 ops.toList)) ps s x)else none) (match an.Ol id with
   |some p=>p
   |none=>JF ops.toList)=some x:=he
  generalize (match an.Ol id with
   |some p=>p
   |none=>JF ops.toList)=ps at he
  dsimp only at he;split at he
  ·rename_i hpat;cases hq:EY (cx.in (Gu (number 0 ops.toList)) ps) ⟨ops,s.Bq,draw⟩ (number 0 ops.toList) (E0 ops.toList []) [] s (Aq ps)with
   |none=>rw[hq]at he;cases he
   |some y=>
    rw[hq]at he;have he:k (B5 (Gu (number 0 ops.toList)) ps s y)=some x:=he;have yC:Dr P (cx.in (Gu (number 0 ops.toList)) ps):=hc;refine MY yC uF hm uB (fun o ho d hd=>?_) tT hinv hq fun s' a' W' q1 q2 q3 q4 q5 q6=>?_
    ·have wJ:=Hd ops.toList 0 o d ho hd;have h1:cx.FD d=false:=(vA d wJ).2;simp[Cx.in,h1,(A8 _ d).2 wJ]
    ·obtain⟨W2,w2,r2,i2,k2,_⟩:=Dt (N:=N) q2 q4 hinv q3 (fun t ht=>vA t ht) hpat q6;rw[←w2];exact hK _ a' W2 q1 r2 i2 k2 he
  ·cases he
theorem Ju{rs:List Nat}{s':St}{W':Wd}(fr:JZ s s' W W' rs)(vA:∀r∈rs,cx.lock r=false)(uK:∀r,r∉rs→s'.root r=s.root r)(w7:s'.Bq=s.Bq):Ar cx s s' where
 AP t _:=by
  have:s'.slot t=s.slot t:=by show nth _ s'.sl t=_;rw[fr.same.sl];rfl
  rw[this];exact .same _
 roots r hr:=uK r fun hm=>by rw[vA r hm]at hr;cases hr
 box r _:=fr.same.box r
 l1:=by rw[fr.same.sl]
 l2:=fr.same.len
 Bq:=by rw[w7];exact AAd _
theorem Gh(r:Nat):∀(as:List LA)(j:Nat)(s:St),(s.app (BA r j as)).Bq=s.Bq∧∀x,x≠r→(s.app (BA r j as)).root x=s.root x
 | [],j,s=>⟨rfl,fun _ _=>rfl⟩
 |a::as,j,s=>by obtain⟨h1,h2⟩:=Gh r as (j+1) (s.AF (.leaf r j a));refine⟨h1,fun x hx=>(h2 x hx).trans ?_⟩;show nth _ (Cb s.ro r _) x=_;rw[Ax,AAM fun hh=>hx hh.1.symm];rfl
theorem Fj:∀ {rs:List Nat} {ws:List Wr} (s0 s:St),As cx s0 rs=some ws→(s.app ws).Bq=s.Bq∧∀x,x∉rs→(s.app ws).root x=s.root x
 | [],ws,s0,s,h=>by injection h with h;subst h;exact⟨rfl,fun _ _=>rfl⟩
 |r::rs,ws,s0,s,h=>by
  simp only[As]at h;split at h
  ·cases h
  ·split at h
   ·rename_i vk wx;injection h with h;subst h
    rw[BC]
    obtain⟨a1,a2⟩:(s.app (DB s0 r)).Bq=s.Bq∧∀x,x≠r→(s.app (DB s0 r)).root x=s.root x:=by
     unfold DB;split
     ·exact⟨rfl,fun _ _=>rfl⟩
     ·exact Gh r ((s0.root r).ls.map BE) 0 s
    obtain⟨b1,b2⟩:=Fj s0 (s.app (DB s0 r)) wx;exact⟨b1.trans a1,fun x hx=>(b2 x fun hm=>hx (AAJ _ hm)).trans (a2 x fun e=>hx (e▸AAe))⟩
   ·cases h
theorem JB(a:LA):(BE a).AG=a.AG:=by cases a<;>rfl
theorem KU(a:LA)(h:a.Cf=true):(BE a).Cf=true:=by cases a<;>first|exact h|rfl
theorem Hs(r:Nat):∀(as:List LA)(j:Nat)(s:St)(x:Nat),∀a∈((s.app (BA r j as)).root x).ls,a∈(s.root x).ls∨(x=r∧a∈as)
 | [],j,s,x,a,h=>.inl h
 |b::as,j,s,x,a,h=>by
  rcases Hs r as (j+1) (s.AF (.leaf r j b)) x a h with h|⟨h1,h2⟩
  ·have uK:(s.AF (.leaf r j b)).root x=if r=x∧r<s.ro.length then { s.root r with ls:=Cb (s.root r).ls j b }else s.root x:=Ax _ _ _ _ _
   rw[uK]at h;split at h
   ·rename_i hx;have h:a∈Cb (s.root r).ls j b:=h;rw[Bl]at h;rcases ABA h with h|h
    ·rw[←hx.1];exact .inl h
    ·exact .inr ⟨hx.1.symm,by rw[h];exact AAe⟩
   ·exact .inl h
  ·exact .inr ⟨h1,AAJ _ h2⟩
theorem FQ:∀ {rs:List Nat} {ws:List Wr} (s0 s:St),As cx s0 rs=some ws→∀(x:Nat),∀a∈((s.app ws).root x).ls,a∈(s.root x).ls∨∃b∈(s0.root x).ls,a=BE b
 | [],ws,s0,s,h,x,a,ha=>by injection h with h;subst h;exact .inl ha
 |r::rs,ws,s0,s,h,x,a,ha=>by
  simp only[As]at h;split at h
  ·cases h
  ·split at h
   ·rename_i vk wx;injection h with h;subst h
    rw[BC]at ha;rcases FQ s0 _ wx x a ha with ha|ha
    ·unfold DB at ha;split at ha
     ·exact .inl ha
     rcases Hs r _ 0 s x a ha with ha|⟨h1,h2⟩
     ·exact .inl ha
     ·subst h1;obtain⟨b,hb,e⟩:=AAs.1 h2;exact .inr ⟨b,hb,e.symm⟩
    ·exact .inr ha
   ·cases h
theorem J0(r:Nat):∀(as:List LA)(j:Nat)(s:St)(x:Nat),((s.app (BA r j as)).root x).AA=(s.root x).AA
 | [],j,s,x=>rfl
 |b::as,j,s,x=>by refine(J0 r as (j+1) (s.AF (.leaf r j b)) x).trans ?_;exact((BH s r j b).box x).2.1
theorem Lc{an:An}(hc:Dr P cx)(uF:DL P E cx.env)(hm:P.follows .mixedOrders=true){id:Nat}{ops:Array Oper}{draw:Bool}{R:Type}{k:St→Option R}{x:R}(uB:codeOk N (.region id ops draw)=true)
  (vA:∀t∈CH (.region id ops draw),cx.lock t=false∧cx.FD t=false) (tT:AW E s a.tmps W) (hinv:Inv N s) (he:Hh cx an id ops draw s k=some x)
  (hK:∀s' a' W',a'.defers=a.defers→AW E s' a'.tmps W'→Inv N s'→Ar cx s s'→k s'=some x→Q .normal a' W'.w):(Code.region id ops draw).wp P Q a W.w:=by
 unfold Hh at he;split at he
 ·exact IB hc uF hm uB vA tT hinv he hK
 ·rename_i r rs _;split at he
  ·rename_i uZ;split at he
   ·rename_i fs ve;have hnv:Ad s s.Bq:=hinv.AG.Hz (v:=s.Bq) (Nat.lt_irrefl _) (by have:=hinv.two;omega);obtain⟨W1,xz,fr,_⟩:=Eu tT hnv ve;obtain⟨c1,c2⟩:=Fj (cx:=cx) s s ve;have y7:Ar cx s (s.app fs):=Ju fr (fun y hy=>by simpa using AAU.1 uZ y hy) c2 c1
    have hi1:Inv N (s.app fs):={
     AG:=by
      have hv:=hinv.AG;rw[c1];refine⟨fun t n hn=>?_,fun y n hn=>?_⟩
      ·have:(s.app fs).slot t=s.slot t:=by show nth _ (s.app fs).sl t=_;rw[fr.same.sl];rfl
       rw[this]at hn;exact hv.1 t n hn
      ·have tc:((s.app fs).root y).AA=(s.root y).AA:=(fr.same.box y).2.1;unfold Bp.AG at hn;rw[tc]at hn;rcases AAZ.1 hn with e|hn
       ·exact hv.2 y n (by unfold Bp.AG;rw[e];exact AAe)
       ·obtain⟨b,hb,hbn⟩:=AAI.1 hn;rcases FQ (cx:=cx) s s ve y b hb with hb|⟨b0,xr,e⟩
        ·exact hv.2 y n (by unfold Bp.AG;exact AAJ _ (AAI.2 ⟨b,hb,hbn⟩))
        ·rw[e,JB]at hbn;exact hv.2 y n (by unfold Bp.AG;exact AAJ _ (AAI.2 ⟨b0,xr,hbn⟩))
     two:=by rw[c1];exact hinv.two
     len:=y7.l1.trans hinv.len
     B0:=y7.l2.trans hinv.B0
     Ld:=fun y b hb=>by
      rcases FQ (cx:=cx) s s ve y b hb with hb|⟨b0,xr,e⟩
      ·exact hinv.Ld y b hb
      ·rw[e];exact KU b0 (hinv.Ld y b0 xr) }
    rw[←fr.w];exact IB hc uF hm uB vA xz hi1 he fun s' a' W' q1 q2 q3 q4 q5=>hK s' a' W' q1 q2 q3 (y7.trans q4) q5
   ·cases he
  ·cases he
end
end Go.Ev
namespace Go.Ev
section
variable {P:Program}{E:Cw}{N:Nat}
theorem GF{cx:Cx}{ms:List Nat}{ps:List VP}(h:∀t∈ms,cx.lock t=false∧cx.FD t=false):∀t∈ms,(cx.in ms ps).lock t=false∧(cx.in ms ps).FD t=false:=fun t ht=>by have:=h t ht;simp[Cx.in,this.1,this.2,(A8 ms t).2 ht]
def Claim(P:Program)(E:Cw)(N:Nat)(an:An)(n:Nat){RD:Type}(rp:St→Option RD)(c:Code):Prop:=∀ {R:Type} {cx:Cx} {s:St} {kn:St→Option R} {kx:Nat→St→Option R} {kr:RD→Option R} {x:R} {a:Act} {W:Wd} {Q:Exit→Act→World→Prop},
  Dr P cx→DL P E cx.env→codeOk N c=true→(∀t∈CH c,cx.lock t=false∧cx.FD t=false)→AW E s a.tmps W→Inv N s→ev an n rp c cx s kn kx kr=some x→
  (∀s' a' W',a'.defers=a.defers→AW E s' a'.tmps W'→Inv N s'→Ar cx s s'→kn s'=some x→Q .normal a' W'.w)→
  (∀id s' a' W',a'.defers=a.defers→AW E s' a'.tmps W'→Inv N s'→Ar cx s s'→kx id s'=some x→Q (.exit id) a' W'.w)→
  (∀y s' a' W',a'.defers=a.defers→AW E s' a'.tmps W'→Inv N s'→rp s'=some y→kr y=some x→Q .ret a' W'.w)→c.wp P Q a W.w
theorem Kt{an:An}{n:Nat}{RD:Type}{rp:St→Option RD}{c':Code}(ihb:Claim P E N an n rp c'){cx:Cx}{s:St}{ps:List VP}{id:Nat}{a0:Act}
  (hc:Dr P cx) (uF:DL P E cx.env) (uB:codeOk N c'=true) (vA:∀t∈CH c',cx.lock t=false∧cx.FD t=false) (hinv:Inv N s) (hp:Cp cx (CH c') ps=true)
  {γ:Type} {g:(DF ps).D→γ} {kr':RD→Option ((DF ps).D⊕γ)} (hkr:∀r y,kr' r=some (.inl y)→False) {q:γ} {Q:Exit→Act→World→Prop}
  (hdone:∀x' s' a' W',a'.defers=a0.defers→AW E s' a'.tmps W'→Inv N s'→Ar (cx.in (CH c') ps) s s'→Aq ps s'=some x'→g x'=q→Q (.exit id) a' W'.w)
  (hret:∀y s' a' W',a'.defers=a0.defers→AW E s' a'.tmps W'→Inv N s'→rp s'=some y→kr' y=some (.inr q)→Q .ret a' W'.w)
  {m:Nat} {x0:(DF ps).D} {a:Act} {W:Wd} {s1:St} (hd:a.defers=a0.defers) (tT:AW E s1 a.tmps W) (tS:Bh s1) (hk:Ar (cx.in (CH c') ps) s s1) (hx:Aq ps s1=some x0)
  (xw:iter (α:=(DF ps).D) (γ:=γ) m (fun x=>ev an n rp c' (cx.in (CH c') ps) (B5 (CH c') ps s x) (fun s=>(Aq ps s).bind fun x=>some (.inl x)) (fun i s=>if i==id then(Aq ps s).bind fun x=>some (.inr (g x))else none) kr') x0=some q):
  (Code.loop c').wp P Q a W.w:=by
 refine wp_loop_ghost (fun k a w=>∃(W:Wd) (s1:St) (x:(DF ps).D),W.w=w∧a.defers=a0.defers∧AW E s1 a.tmps W∧Bh s1∧Ar (cx.in (CH c') ps) s s1∧Aq ps s1=some x∧
  iter (α:=(DF ps).D) (γ:=γ) k (fun x=>ev an n rp c' (cx.in (CH c') ps) (B5 (CH c') ps s x) (fun s=>(Aq ps s).bind fun x=>some (.inl x)) (fun i s=>if i==id then(Aq ps s).bind fun x=>some (.inr (g x))else none) kr') x=some q) m
  ⟨W,s1,x0,rfl,hd,tT,tS,hk,hx,xw⟩ ?_
 rintro k a w ⟨W,s1,x,rfl,hd,tT,tS,hk,hx,xw⟩
 cases k with
 |zero=>cases xw
 |succ k=>
  simp only[iter]at xw;obtain⟨W2,w2,r2,i2,k2,k3⟩:=Dt (N:=N) tT tS hinv hk vA hp hx;cases hq:ev an n rp c' (R:=(DF ps).D⊕γ) (cx.in (CH c') ps) (B5 (CH c') ps s x) (fun s=>(Aq ps s).bind fun x=>some (.inl x)) (fun i s=>if i==id then(Aq ps s).bind fun x=>some (.inr (g x))else none) kr' with
  |none=>rw[hq]at xw;cases xw
  |some y=>
   rw[hq]at xw;rw[←w2];have yC:Dr P (cx.in (CH c') ps):=hc;refine ihb yC uF uB (GF vA) r2 i2 hq (fun s3 a3 W3 q1 q2 q3 q4 q5=>?_) (fun i s3 a3 W3 q1 q2 q3 q4 q5=>?_) (fun z s3 a3 W3 q1 q2 q3 q4 q5=>?_)
   ·cases wL:Aq ps s3 with
    |none=>rw[wL]at q5;cases q5
    |some z=>
     rw[wL]at q5;injection q5 with q5
     subst q5;exact⟨k,Nat.lt_succ_self k,W3,s3,z,rfl,q1.trans hd,q2,q3.Ld,k3.trans q4,wL,xw⟩
   ·split at q5
    ·rename_i hi;have hi:i=id:=by simpa using hi
     subst hi;cases wL:Aq ps s3 with
     |none=>rw[wL]at q5;cases q5
     |some z=>
      rw[wL]at q5;injection q5 with q5
      subst q5;injection xw with xw
      exact hdone z s3 a3 W3 (q1.trans hd) q2 q3 (k3.trans q4) wL xw
    ·cases q5
   ·cases y with
    |inl y=>exact(hkr _ _ q5).elim
    |inr y=>
     injection xw with xw
     subst xw;exact hret z s3 a3 W3 (q1.trans hd) q2 q3 q4 q5
theorem M6{an:An}{n:Nat}{RD:Type}{rp:St→Option RD}(hm:P.follows .mixedOrders=true):∀(c:Code),Claim P E N an n rp c∧∀c',c=.loop c'→Claim P E N an n rp c':=by
 intro c
 induction c with
 |skip=>
  refine⟨?_,fun c' e=>by cases e⟩;intro R cx s kn kx kr x a W Q hc uF uB vA tT hinv he hn hx hr;exact wp_skip (hn s a W rfl tT hinv (Ar.refl _ _) he)
 |region id ops draw=>
  refine⟨?_,fun c' e=>by cases e⟩;intro R cx s kn kx kr x a W Q hc uF uB vA tT hinv he hn hx hr;exact Lc hc uF hm uB vA tT hinv he hn
 |seq b c ihb ihc=>
  refine⟨?_,fun c' e=>by cases e⟩;intro R cx s kn kx kr x a W Q hc uF uB vA tT hinv he hn hx hr;simp only[codeOk,AAG]at uB;have yG:∀t∈CH b,cx.lock t=false∧cx.FD t=false:=fun t ht=>vA t (AAQ _ ht);have hlb:∀t∈CH c,cx.lock t=false∧cx.FD t=false:=fun t ht=>vA t (AAO _ ht);refine wp_seq ?_
  have next:∀ {s1:St} {a1:Act} {W1:Wd},a1.defers=a.defers→AW E s1 a1.tmps W1→Inv N s1→Ar cx s s1→ev an n rp c cx s1 kn kx kr=some x→c.wp P Q a1 W1.w:=fun hd1 xz hi1 y7 he1=>
   ihc.1 hc uF uB.2 hlb xz hi1 he1 (fun s2 a2 W2 q1 q2 q3 q4 q5=>hn s2 a2 W2 (q1.trans hd1) q2 q3 (y7.trans q4) q5) (fun i s2 a2 W2 q1 q2 q3 q4 q5=>hx i s2 a2 W2 (q1.trans hd1) q2 q3 (y7.trans q4) q5)
    (fun y s2 a2 W2 q1 q2 q3 q4 q5=>hr y s2 a2 W2 (q1.trans hd1) q2 q3 q4 q5)
  simp only[ev]at he;split at he
  ·exact ihb.1 hc uF uB.1 yG tT hinv he (fun s1 a1 W1 q1 q2 q3 q4 q5=>next q1 q2 q3 q4 q5) hx hr
  ·rename_i ps rets hj;split at he
   ·rename_i hp;have yC:Dr P (cx.in (CH b) ps):=hc;cases rets with
    |false=>
     dsimp only at he;cases hq:ev an n rp b (R:=(DF ps).D) (cx.in (CH b) ps) s (Aq ps) (fun _ _=>none) (fun _=>none)with
     |none=>rw[hq]at he;cases he
     |some y=>
      rw[hq]at he;refine ihb.1 yC uF uB.1 (GF yG) tT hinv hq (fun s1 a1 W1 q1 q2 q3 q4 q5=>?_) (fun _ _ _ _ _ _ _ _ q=>by cases q) (fun _ _ _ _ _ _ _ _ q=>by cases q);obtain⟨W2,w2,r2,i2,k2,_⟩:=Dt (N:=N) q2 q3.Ld hinv q4 yG hp q5;show c.wp P Q a1 W1.w;rw[←w2];exact next q1 r2 i2 k2 he
    |true=>
     dsimp only at he;cases hq:ev an n rp b (R:=(DF ps).D⊕RD) (cx.in (CH b) ps) s (fun s=>(Aq ps s).bind fun x=>some (.inl x)) (fun _ _=>none) (fun r=>some (.inr r))with
     |none=>rw[hq]at he;cases he
     |some y=>
      rw[hq]at he;refine ihb.1 yC uF uB.1 (GF yG) tT hinv hq (fun s1 a1 W1 q1 q2 q3 q4 q5=>?_) (fun _ _ _ _ _ _ _ _ q=>by cases q) (fun y' s1 a1 W1 q1 q2 q3 q4 q5=>?_)
      ·cases wL:Aq ps s1 with
       |none=>rw[wL]at q5;cases q5
       |some z=>
        rw[wL]at q5;injection q5 with q5
        subst q5;obtain⟨W2,w2,r2,i2,k2,_⟩:=Dt (N:=N) q2 q3.Ld hinv q4 yG hp wL;show c.wp P Q a1 W1.w;rw[←w2];exact next q1 r2 i2 k2 he
      ·injection q5 with q5
       subst q5;exact hr y' s1 a1 W1 q1 q2 q3 q4 he
   ·cases he
 |cond o b c ihb ihc=>
  refine⟨?_,fun c' e=>by cases e⟩;intro R cx s kn kx kr x a W Q hc uF uB vA tT hinv he hn hx hr;simp only[codeOk,AAG]at uB;have yG:∀t∈CH b,cx.lock t=false∧cx.FD t=false:=fun t ht=>vA t (AAQ _ ht);have hlb:∀t∈CH c,cx.lock t=false∧cx.FD t=false:=fun t ht=>vA t (AAO _ ht);have h1:=Ac tT o;simp only[ev]at he;split at he
  ·rename_i t hq;rw[hq]at h1;have h1:a.eval o=.bool t:=h1.1;refine wp_cond h1 ?_;cases t with
   |true=>exact ihb.1 hc uF uB.1 yG tT hinv he hn hx hr
   |false=>exact ihc.1 hc uF uB.2 hlb tT hinv he hn hx hr
  ·cases he
 |block id c ih=>
  refine⟨?_,fun c' e=>by cases e⟩;intro R cx s kn kx kr x a W Q hc uF uB vA tT hinv he hn hx hr;simp only[ev]at he;cases hb:an.AX id with
  |none=>
   rw[hb]at he;refine wp_block (ih.1 hc uF uB vA tT hinv he hn (fun i s' a' W' q1 q2 q3 q4 q5=>?_) hr);show(if i=id then Q .normal a' W'.w else Q (.exit i) a' W'.w);by_cases hi:i=id
   ·rw[AAK hi];rw[show(i==id)=true by simpa using hi]at q5;exact hn s' a' W' q1 q2 q3 q4 q5
   ·rw[AAM hi];rw[show(i==id)=false by simpa using hi]at q5;exact hx i s' a' W' q1 q2 q3 q4 q5
  |some p=>
   obtain⟨ps,rets⟩:=p;rw[hb]at he;dsimp only at he;split at he
   ·rename_i c';have ihb:Claim P E N an n rp c':=ih.2 c' rfl;have uB:codeOk N c'=true:=uB;have vA:∀t∈CH c',cx.lock t=false∧cx.FD t=false:=vA;split at he
    ·rename_i hp;refine wp_block ?_;cases rets with
     |false=>
      dsimp only at he;cases wL:Aq ps s with
      |none=>rw[wL]at he;cases he
      |some x0=>
       rw[wL]at he;simp only[Option.bind_some]at he;obtain⟨q,hq,he⟩:=ABS.1 he;refine Kt (g:=fun x=>x) ihb hc uF uB vA hinv hp (fun _ _ q=>by cases q) (fun x' s' a' W' q1 q2 q3 q4 q5 q6=>?_) (fun _ _ _ _ _ _ _ _ q=>by cases q) rfl tT hinv.Ld (Ar.refl _ _) wL hq;subst q6;obtain⟨W2,w2,r2,i2,k2,_⟩:=Dt (N:=N) q2 q3.Ld hinv q4 vA hp q5;show(if id=id then Q .normal a' W'.w else Q (.exit id) a' W'.w);rw[AAK rfl,←w2];exact hn _ a' W2 q1 r2 i2 k2 he
     |true=>
      dsimp only at he;cases wL:Aq ps s with
      |none=>rw[wL]at he;cases he
      |some x0=>
       rw[wL]at he;simp only[Option.bind_some]at he;obtain⟨q,hq,he⟩:=ABS.1 he;refine Kt (g:=fun x=>(.inl x:(DF ps).D⊕RD)) ihb hc uF uB vA hinv hp (fun _ _ q=>by cases q) (fun x' s' a' W' q1 q2 q3 q4 q5 q6=>?_) (fun y s' a' W' q1 q2 q3 q4 q5=>?_) rfl tT hinv.Ld (Ar.refl _ _) wL hq
       ·subst q6;obtain⟨W2,w2,r2,i2,k2,_⟩:=Dt (N:=N) q2 q3.Ld hinv q4 vA hp q5;show(if id=id then Q .normal a' W'.w else Q (.exit id) a' W'.w);rw[AAK rfl,←w2];exact hn _ a' W2 q1 r2 i2 k2 he
       ·injection q5 with q5
        injection q5 with q5
        subst q5;exact hr y s' a' W' q1 q2 q3 q4 he
    ·cases he
   ·cases he
 |exit id=>
  refine⟨?_,fun c' e=>by cases e⟩;intro R cx s kn kx kr x a W Q hc uF uB vA tT hinv he hn hx hr;exact wp_exit (hx id s a W rfl tT hinv (Ar.refl _ _) he)
 |ret=>
  refine⟨?_,fun c' e=>by cases e⟩;intro R cx s kn kx kr x a W Q hc uF uB vA tT hinv he hn hx hr;simp only[ev]at he;cases hq:rp s with
  |none=>rw[hq]at he;cases he
  |some y=>rw[hq]at he;exact wp_ret (hr y s a W rfl tT hinv hq he)
 |loop c ih=>
  refine⟨?_,fun c' e=>by cases e;exact ih.1⟩;intro R cx s kn kx kr x a W Q hc uF uB vA tT hinv he hn hx hr;simp only[ev]at he;cases he
 |_=>
  refine⟨?_,fun c' e=>by cases e⟩;intro R cx s kn kx kr x a W Q hc uF uB vA tT hinv he hn hx hr;simp only[ev]at he;cases he
end
end Go.Ev
namespace Go.Ev
inductive BL(W:Wd):List (Nat×Nat)→List (Nat×Nat)→List (List Nat)→Prop
 |nil (us):BL W us us []
 |skip {us vG os} (h:BL W us vG os):BL W us vG ([]::os)
 |take {us vG os u o} (hu:u∉us) (hs:∀b∈o,b∈W.om (.lf u.1 u.2)) (hn:o.Nodup) (h:BL W (u::us) vG os):BL W us vG (o::os)
section
variable {P:Program}{E:Cw}{s:St}{W:Wd}{tm:Array Value}{β:Type}{t:β}
theorem BL.append{us us1 us2:List (Nat×Nat)}{xs ys:List (List Nat)}(h1:BL W us us1 xs)(h2:BL W us1 us2 ys):BL W us us2 (xs++ys):=by
 induction h1 with
 |nil=>exact h2
 |skip h ih=>exact .skip (ih h2)
 |take hu hs hn h ih=>exact .take hu hs hn (ih h2)
theorem BL.sub{us vG:List (Nat×Nat)}{os:List (List Nat)}(h:BL W us vG os):∀u∈us,u∈vG:=by
 induction h with
 |nil=>grind
 |skip h ih=>exact ih
 |take hu hs hn h ih=>grind
theorem BL.mem{us vG:List (Nat×Nat)}{os:List (List Nat)}(h:BL W us vG os):∀o∈os,∀b∈o,∃u,u∉us∧b∈W.om (.lf u.1 u.2):=by
 induction h with
 |nil=>grind
 |skip h ih=>
  grind
 |take hu hs hn h ih=>
  grind
theorem BL.nodup{us vG:List (Nat×Nat)}{os:List (List Nat)}(h:BL W us vG os):∀o∈os,o.Nodup:=by
 induction h with
 |nil=>grind
 |skip h ih=>
  grind
 |take hu hs hn h ih=>
  grind
def FF(a b:List Nat):Prop:=∀x∈a,x∉b
theorem FF.symm{a b:List Nat}(h:FF a b):FF b a:=fun x hx hy=>h x hy hx
theorem BL.pair(hd:∀k k',k≠k'→∀b∈W.om k,b∉W.om k'){us vG:List (Nat×Nat)}{os:List (List Nat)}(h:BL W us vG os):os.Pairwise FF:=by
 induction h with
 |nil=>exact .nil
 |skip h ih=>exact .cons (fun a _ x hx=>by cases hx) ih
 | @take us vG os u o hu hs hn h ih=>
  refine .cons (fun a ha x hx hxa=>?_) ih;obtain⟨u',h1,h2⟩:=h.mem a ha x hxa;grind
theorem JP{α:Type}{R:α→α→Prop}(hs:∀a b,R a b→R b a){l:List α}(h:l.Pairwise R){i j:Nat}{a b:α}(xM:i≠j)(hi:l[i]?=some a)(hj:l[j]?=some b):R a b:=by
 obtain⟨h1,rfl⟩:=AAH.1 hi;obtain⟨h2,rfl⟩:=AAH.1 hj;rcases ABM xM with tX|tX
 ·exact ABQ.1 h i j h1 h2 tX
 ·exact hs _ _ (ABQ.1 h j i h2 h1 tX)
theorem ET(h:AW E s tm W){us:List (Nat×Nat)}{l:L}{m:Nat}{a:LA}{v:Value}{k:Lv→List (Nat×Nat)→Step β}(hv:AR s W a v)(hl:(Fg s us l m a k).leads t):
  ∃(x:l.D) (vG:List (Nat×Nat)) (o:List Nat),(k ⟨l,x⟩ vG).leads t∧l.rd m W.w W.fz v x o∧BL W us vG [o]:=by
 cases l with
 |int kk=>obtain⟨x,hl,hr⟩:=Bm h hv hl;exact⟨x,us,[],hl,(L.AZ _ rfl hr).1,.skip (.nil _)⟩
 |bool=>obtain⟨x,hl,hr⟩:=Bm h hv hl;exact⟨x,us,[],hl,(L.AZ _ rfl hr).1,.skip (.nil _)⟩
 |str=>obtain⟨x,hl,hr⟩:=Bm h hv hl;exact⟨x,us,[],hl,(L.AZ _ rfl hr).1,.skip (.nil _)⟩
 |sl t0 e=>
  unfold Fg at hl;cases m with
  |zero=>
   simp only at hl;split at hl
   ·rename_i hs;obtain⟨x,hl,hr⟩:=KH h hv hs hl;exact⟨x,us,[],hl,hr,.skip (.nil _)⟩
   ·exact hl.elim
  |succ m=>
   cases a with
   |DJ=>exact⟨_,us,[],hl,by rw[show v=.slice none 0 0 from hv];exact B1,.skip (.nil _)⟩
   |ref c=>
    simp only at hl;split at hl
    ·rename_i AA gen t' e' xs d tR;split at hl
     ·rename_i hc;simp only[AAG,AAS,AAT]at hc;obtain⟨⟨⟨tc,hp⟩,hd⟩,zX⟩:=hc;subst tc;subst hd;have hp:c.p=[]:=by cases hq:c.p<;>simp_all[isNil]
      split at hl
      ·rename_i y hy;obtain⟨q1,q2⟩:=L.AH hy;cases q1;have q2:xs=y:=q2;subst q2;obtain⟨h',e2,uJ,hn⟩:=hv gen _ _ _ _ tR (.inl hp);rw[hp]at hn;obtain⟨rfl,rfl⟩:=hn;obtain⟨u',tu,te⟩:=(h.roots c.r).row tR;rw[uJ]at tu;injection tu with tu;subst tu
       refine⟨xs,_,W.om (.lf c.r c.j),hl,te,.take (u:=(c.r,c.j)) (fun hh=>?_) (fun b hb=>hb) (h.sep.nodup _) (.nil _)⟩;grind
      ·exact hl.elim
     ·exact hl.elim
    ·exact hl.elim
   |EF c lo hi=>
    simp only at hl;split at hl
    ·rename_i AA gen t' e' xs d tR;split at hl
     ·rename_i hc;simp only[AAG,AAS,AAT]at hc;obtain⟨⟨⟨tc,hp⟩,hd⟩,zX⟩:=hc;subst tc;subst hd;have hp:c.p=[]:=by cases hq:c.p<;>simp_all[isNil]
      split at hl
      ·rename_i y hy;obtain⟨q1,q2⟩:=L.AH hy;cases q1;have q2:sub xs lo hi=y:=q2;subst q2;obtain⟨h',e2,A,n,k0,uJ,hn,h1,h2,xO⟩:=hv gen _ _ _ _ tR (.inl hp);rw[hp]at hn;obtain⟨rfl,rfl⟩:=hn;obtain⟨u',tu,te⟩:=(h.roots c.r).row tR;rw[uJ]at tu;injection tu with tu;subst tu
       obtain⟨o',q1,q2,q3⟩:=CR.sub te h1 h2;refine⟨sub xs lo hi,_,o',hl,?_,.take (u:=(c.r,c.j)) (fun hh=>?_) (fun b hb=>q2 b hb) (q3 (h.sep.nodup _)) (.nil _)⟩
       ·rw[xO];exact q1
       grind
      ·exact hl.elim
     ·exact hl.elim
    ·exact hl.elim
   |_=>exact hl.elim
theorem Df(h:AW E s tm W):∀(ls:List (L×Nat)) (as:List LA) (g:Nat→Option Value) {us:List (Nat×Nat)} {k:List Lv→List (Nat×Nat)→Step β},(∀(j:Nat)(a:LA),as[j]?=some a→∃u,g j=some u∧AR s W a u)→(Cd s ls as us k).leads t→
  ∃(vs:List Lv) (vG:List (Nat×Nat)) (os:List (List Nat)),(k vs vG).leads t∧vs.map (·.l)=ls.map (·.1)∧os.length=ls.length∧as.length=ls.length∧BL W us vG os∧
   ∀(j:Nat)(p:L×Nat)(lv:Lv),ls[j]?=some p→vs[j]?=some lv→∃y,g j=some y∧lv.l.rd p.2 W.w W.fz y lv.x ((os[j]?).getD [])
 | [],[],g,us,k,hg,hl=>⟨[],us,[],hl,rfl,rfl,rfl,.nil _,fun j p lv hj=>by simp at hj⟩
 | [],_::_,g,us,k,hg,hl=>hl.elim
 |_::_,[],g,us,k,hg,hl=>hl.elim
 |(l,m)::ls,a::as,g,us,k,hg,hl=>by obtain⟨u,hu,uU⟩:=hg 0 a rfl;obtain⟨x,us1,o,hl,hr,hb⟩:=ET h uU hl;obtain⟨vs,us2,os,hl,h1,h2,h3,h4,h5⟩:=Df h ls as (fun j=>g (j+1)) (fun j a hj=>hg (j+1) a (by simpa using hj)) hl;refine⟨⟨l,x⟩::vs,us2,o::os,hl,by simp[h1],by simp[h2],by simp[h3],hb.append h4,fun j p lv hj hv=>?_⟩;grind
def Jb(P:Program)(w:World)(tm:Array Value):List ResultVar→List Value→Prop
 | [],[]=>True
 | .tmp t::rv,u::us=>u=tm.getD t Go.undef∧Jb P w tm rv us
 | .cell t T::rv,u::us=>(do loadVar T (←asAddr (tm.getD t Go.undef)):Sem Value).run P w=.ok u w∧Jb P w tm rv us
 |_,_=>False
theorem KW{T:TypeId}{y:Ty}(v9:NY P T y){as:List LA}{b:Nat}(hlen:as.length=y.ls.n)(tv:∀(j:Nat)(x:LA),as[j]?=some x→∃u,W.w.cell? ⟨b,0+j,none⟩=some u∧AR s W x u):
  ∃u,(loadVar T ⟨b,0,none⟩).run P W.w=.ok u W.w∧E4 s W y.agg as u:=by
 cases vd:y.agg with
 |false=>
  obtain⟨l,vf,vS⟩:=v9.lone vd;rw[vf]at hlen
  obtain⟨a,rfl⟩:∃a,as=[a]:=by
   match as,hlen with
   | [a],_=>grind
  obtain⟨u,hu,hy⟩:=tv 0 a rfl;obtain⟨d,hd,ur⟩:=vS.JJ
  have we:(isAgg T).run P W.w=.ok false W.w:=by
   unfold isAgg;rw[Sem.run_bind,run_underlying hd];cases d<;>simp_all
  simp only[AAr]at hu;exact⟨u,by simp[loadVar,we,load,Sem.run,hu],hy⟩
 |true=>
  obtain⟨fs,ve,_⟩:=v9.agg vd;obtain⟨i,hi,uC,_⟩:=v9.info
  let f:Nat→Value:=fun j=>(W.w.cell? ⟨b,0+j,none⟩).getD Go.undef
  let cs:List Value:=(List.range as.length).map f
  have wF:∀j u,cs[j]?=some u→W.w.cell? ⟨b,0+j,none⟩=some u:=by
   intro j u hj;simp only[cs,AAX]at hj;by_cases tX:j<as.length
   ·rw[List.getElem?_range tX]at hj;simp at hj;obtain⟨u',tu,_⟩:=tv j as[j] (AAF tX);simp only[AAW]at tu;rw[←hj];simp[f,tu]
   ·rw[AAv (by simp;omega)]at hj;cases hj
  have tn:=run_loadVar_mid (P:=P) W.w b 0 T cs (.struct fs) (fun j u hj=>wF j u hj) ve rfl (by simp[hi,uC,cs,hlen]);refine⟨.agg cs.toArray,tn,cs.toArray,rfl,by simp[cs],fun j y hy=>?_⟩;grind
theorem HU{ty:TypeId→Option Ty}(v9:∀t x,ty t=some x→NY P t x)(h:AW E s tm W):∀(rs:List (Bool×List (L×Nat))) (rv:List ResultVar) {us:List (Nat×Nat)} {k:List Lv→List (Nat×Nat)→Step β},(D5 ty s rs rv us k).leads t→
  ∃(vals:List Value) (tV:List (List Lv)) (vG:List (Nat×Nat)) (os:List (List Nat)),(k tV.flatten vG).leads t∧BL W us vG os∧Jb P W.w tm rv vals∧
   ∀(off:Nat)(om:Nat→List Nat),(∀j,j<os.length→om (off+j)=(os[j]?).getD [])→EL W.w W.fz om rs vals tV off
 | [],[],us,k,hl=>⟨[],[],us,[],hl,.nil _,trivial,fun off om wa=>trivial⟩
 | [],_::_,us,k,hl=>hl.elim
 |_::_,[],us,k,hl=>hl.elim
 |(g,ls)::rs,r::rv,us,k,hl=>by
  have main:∀ {u:Value} {as:List LA},E4 s W g as u→(∀us,Jb P W.w tm rv us→Jb P W.w tm (r::rv) (u::us))→(Cd s ls as us fun xs us=>D5 ty s rs rv us fun ys us=>k (xs++ys) us).leads t→
    ∃(vals:List Value) (tV:List (List Lv)) (vG:List (Nat×Nat)) (os:List (List Nat)),(k tV.flatten vG).leads t∧BL W us vG os∧Jb P W.w tm (r::rv) vals∧
     ∀(off:Nat)(om:Nat→List Nat),(∀j,j<os.length→om (off+j)=(os[j]?).getD [])→EL W.w W.fz om ((g,ls)::rs) vals tV off:=by
   intro u as uU y9 hl;obtain⟨vs,us1,os1,hl,h1,h2,h3,h4,h5⟩:=Df h ls as (A5 g u) (fun j a hj=>CC uU j a hj) hl;obtain⟨vals,tV,us2,os2,hl,h6,h7,h8⟩:=HU v9 h rs rv hl;refine⟨u::vals,vs::tV,us2,os1++os2,by grind,h4.append h6,y9 _ h7,fun off om wa=>⟨⟨h1,?_,fun j p lv hj hv=>?_⟩,?_⟩⟩
   ·cases g with
    |true=>obtain⟨cs,wF,uC,_⟩:=uU;grind
    |false=>
     cases as with
     |nil=>exact uU.elim
     |cons b bs=>cases bs with
      |nil=>exact h3.symm
      |cons=>exact uU.elim
   ·grind
   ·refine h8 (off+ls.length) om fun j hj=>?_;rw[show off+ls.length+j=off+(ls.length+j) by omega,wa (ls.length+j) (by simp;omega),AA3 (by omega)];grind
  cases r with
  |tmp u=>
   simp only[D5]at hl;split at hl
   ·rename_i g' as vr;split at hl
    ·rename_i yO;have yO:g=g':=by simpa using yO
     subst yO;have uU:E4 s W g as (tm.getD u Go.undef):=by have:=h.AP u;rw[vr]at this;exact this
     exact main uU (fun us hu=>⟨rfl,hu⟩) hl
    ·exact hl.elim
   ·exact hl.elim
  |cell u T=>
   simp only[D5]at hl;split at hl
   ·rename_i y r0 AA hyT vr;split at hl
    ·rename_i yO;simp only[AAG,AAS]at yO;obtain⟨yO,hyn⟩:=yO;subst yO;have hv:AR s W (.ptr r0 0 AA) (tm.getD u Go.undef):=by have:=h.AP u;rw[vr]at this;exact this
     have wP:(s.root r0).box=true∧(s.root r0).AA=AA:=by
      have yg:=hl;simp only[St.DE]at yg;split at yg
      ·grind
      ·exact yg.elim
     obtain⟨as,hl,_,b,off,hp,tv⟩:=Ft h hv hl;split at hl
     ·rename_i hlen;have hlen:as.length=ls.length:=by simpa using hlen
      have wq:off=0:=by
       rw[hv wP.1 wP.2]at hp;injection hp with hp;injection hp with hp;injection hp with _ h2
       exact h2.symm
      subst wq;obtain⟨v,hv1,hv2⟩:=KW (v9 T y hyT) (by omega) tv;exact main hv2 (fun us hu=>⟨by simp[hp,asAddr,hv1],hu⟩) hl
     ·exact hl.elim
    ·exact hl.elim
   ·exact hl.elim
def Lw(E:Cw)(s:St)(W:Wd)(i:Nat)(pm:PM)(vs0 vs:List Lv)(os:List (List Nat)):Prop:=match pm with
 | .box ls=>(s.root i).box=true∧(s.root i).AA=1∧(s.root i).ls.length=ls.length∧vs.map (·.l)=ls.map (·.1)∧os.length=ls.length∧
   ∀(j:Nat)(p:L×Nat)(lv:Lv),ls[j]?=some p→vs[j]?=some lv→∃y,W.w.cell? ⟨W.bk i,j,none⟩=some y∧lv.l.rd p.2 W.w W.fz y lv.x ((os[j]?).getD [])
 | .row g ls=>vs.length=ls.length∧os.length=ls.length∧∀(j:Nat)(p:L×Nat)(lv:Lv),ls[j]?=some p→vs[j]?=some lv→
   (Bz p.1=true∧lv.l=p.1∧∃u,E.OL i j=some u∧lv.l.rd p.2 W.w W.fz u lv.x ((os[j]?).getD []))∨(Bz p.1=false∧vs0[j]?=some lv∧os[j]?=some [])
 |_=>vs=[]∧os=[]
theorem FH(h:AW E s tm W)(i:Nat):∀(j:Nat) (ls:List (L×Nat)) (vs0 rest:List Lv) {us:List (Nat×Nat)} {k:List Lv→List (Nat×Nat)→Step β},vs0.length=ls.length→(Ep s i j ls (vs0++rest) us k).leads t→
  ∃(vs:List Lv) (vG:List (Nat×Nat)) (os:List (List Nat)),(k vs vG).leads t∧vs.length=ls.length∧os.length=ls.length∧BL W us vG os∧∀(m:Nat)(p:L×Nat)(lv:Lv),ls[m]?=some p→vs[m]?=some lv→
   (Bz p.1=true∧lv.l=p.1∧∃u,E.OL i (j+m)=some u∧lv.l.rd p.2 W.w W.fz u lv.x ((os[m]?).getD []))∨(Bz p.1=false∧vs0[m]?=some lv∧os[m]?=some [])
 |j,[],vs0,rest,us,k,hlen,hl=>⟨[],us,[],hl,rfl,rfl,.nil _,fun m p lv hp=>by simp at hp⟩
 |j,_::_,[],rest,us,k,hlen,hl=>by simp at hlen
 |j,(l,d)::ls,x::vs0,rest,us,k,hlen,hl=>by
  have uT:vs0.length=ls.length:=by simpa using hlen
  have plain:Bz l=false→(Ep s i (j+1) ls (vs0++rest) us fun ys us=>k (x::ys) us).leads t→∃(vs:List Lv) (vG:List (Nat×Nat)) (os:List (List Nat)),(k vs vG).leads t∧vs.length=((l,d)::ls).length∧os.length=((l,d)::ls).length∧BL W us vG os∧∀(m:Nat)(p:L×Nat)(lv:Lv),((l,d)::ls)[m]?=some p→vs[m]?=some lv→
    (Bz p.1=true∧lv.l=p.1∧∃u,E.OL i (j+m)=some u∧lv.l.rd p.2 W.w W.fz u lv.x ((os[m]?).getD []))∨(Bz p.1=false∧(x::vs0)[m]?=some lv∧os[m]?=some []):=by
   intro hs hl;obtain⟨vs,us1,os,hl,h1,h2,h3,h4⟩:=FH h i (j+1) ls vs0 rest uT hl;refine⟨x::vs,us1,[]::os,hl,by simp[h1],by simp[h2],.skip h3,fun m p lv hp hv=>?_⟩;cases m with
   |zero=>grind
   |succ m=>
    grind
  cases l with
  |int i=>exact plain rfl hl
  |bool=>exact plain rfl hl
  |str=>exact plain rfl hl
  |sl t0 e=>
   simp only[ABH,Ep]at hl;split at hl
   ·rename_i gen t' e' u6 d' tR;obtain⟨u,hu,te⟩:=(h.roots i).row tR;have hini:=h.init.1 _ _ _ _ _ _ _ tR
    have hv:AR s W (.ref ⟨i,j,1,gen,[]⟩) u:=by intro gen2 t2 e2 xs2 d2 yg _;have yg:s.leaf i j=_:=yg;exact⟨u,e2,hu,rfl,rfl⟩
    obtain⟨y,us1,o,hl,hr,hb⟩:=ET h hv hl;obtain⟨vs,us2,os,hl,h1,h2,h3,h4⟩:=FH h i (j+1) ls vs0 rest uT hl;refine⟨⟨.sl t0 e,y⟩::vs,us2,o::os,hl,by simp[h1],by simp[h2],hb.append h3,fun m p lv hp hv=>?_⟩;cases m with
    |zero=>simp at hp hv;subst hp;subst hv;exact .inl ⟨rfl,rfl,u,by grind,by grind⟩
    |succ m=>
     grind
   ·obtain⟨x,us1,o,hl,hr,hb⟩:=ET h (v:=Go.undef) (show AR s W .bad Go.undef from trivial) hl;cases d with
    |zero=>
     exfalso;exact absurd hl id
    |succ d=>exact absurd hl id
theorem IY(h:AW E s tm W):∀(i:Nat)(ps:List PM) (vss0:List (List Lv)) {us:List (Nat×Nat)} {k:List Lv→Step β},vss0.length=ps.length→(∀(j:Nat)(pm:PM)(vs:List Lv),ps[j]?=some pm→vss0[j]?=some vs→vs.length=pm.ins.length)→(C8 s i ps vss0.flatten us k).leads t→
  ∃(tV:List (List Lv)) (vG:List (Nat×Nat)) (oss:List (List (List Nat))),(k tV.flatten).leads t∧tV.length=ps.length∧oss.length=ps.length∧BL W us vG oss.flatten∧
   ∀(j:Nat)(pm:PM)(vs0 vs:List Lv) (os:List (List Nat)),ps[j]?=some pm→vss0[j]?=some vs0→tV[j]?=some vs→oss[j]?=some os→Lw E s W (i+j) pm vs0 vs os
 |i,[],vss0,us,k,hlen,ug,hl=>⟨[],us,[],hl,rfl,rfl,.nil _,fun j pm vs0 vs os hj=>by simp at hj⟩
 |i,_::_,[],us,k,hlen,ug,hl=>by simp at hlen
 |i,pm::ps,vs0::vss0,us,k,hlen,ug,hl=>by
  have uT:vss0.length=ps.length:=by simpa using hlen
  have hvl':∀(j:Nat)(pm:PM)(vs:List Lv),ps[j]?=some pm→vss0[j]?=some vs→vs.length=pm.ins.length:=fun j xo vs h1 h2=>ug (j+1) xo vs (by grind) (by grind);have yP:=ug 0 pm vs0 rfl rfl
  have fin:∀ {us1:List (Nat×Nat)} (vs:List Lv) (os:List (List Nat)),BL W us us1 os→Lw E s W i pm vs0 vs os→(C8 s (i+1) ps vss0.flatten us1 fun ys=>k (vs++ys)).leads t→
    ∃(tV:List (List Lv)) (vG:List (Nat×Nat)) (oss:List (List (List Nat))),(k tV.flatten).leads t∧tV.length=(pm::ps).length∧oss.length=(pm::ps).length∧BL W us vG oss.flatten∧
     ∀(j:Nat)(xo:PM)(vs1 vs:List Lv) (os:List (List Nat)),(pm::ps)[j]?=some xo→(vs0::vss0)[j]?=some vs1→tV[j]?=some vs→oss[j]?=some os→Lw E s W (i+j) xo vs1 vs os:=by
   intro us1 vs os hb hp hl;obtain⟨tV,us2,oss,hl,h1,h2,h3,h4⟩:=IY h (i+1) ps vss0 uT hvl' hl;refine⟨vs::tV,us2,os::oss,by grind,by simp[h1],by simp[h2],by simpa using hb.append h3,fun j xo vs1 wb ui hj hv1 hv ho=>?_⟩;cases j with
   |zero=>grind
   |succ j=>
    grind
  cases pm with
  |val g ls=>
   have e:vs0.length=ls.length:=yP;simp only[AAi,C8]at hl;rw[←e,AA5]at hl;exact fin [] [] (.nil _) ⟨rfl,rfl⟩ (by simpa using hl)
  |fn f=>
   have e:vs0=[]:=AAP yP;subst e;simp only[AAi,AA4,C8]at hl;exact fin [] [] (.nil _) ⟨rfl,rfl⟩ (by simpa using hl)
  |box ls=>
   have e:vs0.length=ls.length:=by simpa[PM.ins]using yP
   simp only[AAi,C8]at hl;rw[show(vs0++vss0.flatten).drop ls.length=vss0.flatten by rw[←e,AA5]]at hl;split at hl
   ·rename_i hc;simp only[AAG,AAS]at hc;obtain⟨⟨hb,tc⟩,hlen⟩:=hc;have hv:AR s W (.ptr i 0 1) (.pointer (some ⟨W.bk i,0,none⟩)):=fun _ _=>rfl;obtain⟨as,hl,_,b,off,hp,tv⟩:=Ft h hv hl;injection hp with hp;injection hp with hp;injection hp with hp1 xg
    subst hp1;subst xg;obtain⟨vs,us1,os,hl,h1,h2,h3,h4,h5⟩:=Df h ls as (fun j=>W.w.cell? ⟨W.bk i,0+j,none⟩) tv hl;refine fin vs os h4 ⟨hb,tc,hlen,h1,h2,fun j p lv hj hv=>?_⟩ hl;grind
   ·exact hl.elim
  |row g ls=>
   have e:vs0.length=ls.length:=by simpa[PM.ins]using yP
   simp only[AAi,C8]at hl;rw[show(vs0++vss0.flatten).drop ls.length=vss0.flatten by rw[←e,AA5]]at hl;obtain⟨vs,us1,os,hl,h1,h2,h3,h4⟩:=FH h i 0 ls vs0 _ e hl;exact fin vs os h3 ⟨h1,h2,fun j p lv hp hv=>by grind⟩ hl
end
end Go.Ev
namespace Go.Ev
def Dm(i:Nat)(pm:PM)(vs:List Lv):AV:=match pm with
 | .val g _=>.v g (vs.map fun x=>.sc x.l x.x)
 | .box _=>one (.ptr i 0 1)
 | .row g ls=>.v g (BB i 0 ls vs)
 | .fn f=>one (.fn f)
def CI(pm:PM)(vs:List Lv)(r:Bp):Bp:=match pm with
 | .box ls=>⟨true,1,AM 1 ls vs⟩
 | .row _ ls=>⟨false,1,AM 1 ls vs⟩
 |_=>r
theorem DX(i:Nat):∀(j:Nat) (ls:List (L×Nat)) (vs:List Lv),vs.length=ls.length→(BB i j ls vs).length=ls.length
 |_,[],[],_=>rfl
 |_,[],_::_,h=>by simp at h
 |_,_::_,[],h=>by simp at h
 |j,(l,d)::ls,x::vs,h=>by simp[BB,DX i (j+1) ls vs (by simpa using h)]
theorem Fy(i:Nat):∀(j:Nat) (ls:List (L×Nat)) (vs rest:List Lv),vs.length=ls.length→BB i j ls (vs++rest)=BB i j ls vs
 |_,[],[],rest,_=>by cases rest<;>simp[BB]
 |_,[],_::_,_,h=>by simp at h
 |_,_::_,[],_,h=>by simp at h
 |j,(l,d)::ls,x::vs,rest,h=>by simp[BB,Fy i (j+1) ls vs rest (by simpa using h)]
theorem Gq(i:Nat):∀(j:Nat) (ls:List (L×Nat)) (vs:List Lv) (m:Nat) (p:L×Nat) (lv:Lv),ls[m]?=some p→vs[m]?=some lv→(BB i j ls vs)[m]?=some (if Bz p.1 then .ref ⟨i,j+m,1,1,[]⟩else .sc lv.l lv.x)
 |_,[],_,m,p,lv,h,_=>by simp at h
 |_,_::_,[],m,p,lv,_,h=>by simp at h
 |j,(l,d)::ls,x::vs,0,p,lv,h1,h2=>by
  simp at h1 h2;subst h1;subst h2;cases l<;>rfl
 |j,(l,d)::ls,x::vs,m+1,p,lv,h1,h2=>by have:=Gq i (j+1) ls vs m p lv (by grind) (by grind);rw[show j+1+m=j+(m+1) by omega]at this;simpa[BB]using this
theorem Fz(i:Nat):∀(j:Nat) (ls:List (L×Nat)) (vs:List Lv) (a:LA),a∈BB i j ls vs→∀n∈a.AG,n=1
 |_,[],_,a,h=>by simp[BB]at h
 |_,_::_,[],a,h=>by simp[BB]at h
 |j,(l,d)::ls,x::vs,a,h=>by
  rcases AAZ.1 (show a∈_::BB i (j+1) ls vs from h)with rfl|h
  ·intro n hn;cases l<;>simp[LA.AG]at hn;exact hn
  ·exact Fz i (j+1) ls vs a h
theorem Cz(s:St)(w:Wr):(s.AF w).sl.length=s.sl.length∧(s.AF w).ro.length=s.ro.length:=by
 cases w<;>simp[St.AF,Ca]
def Ge(i:Nat)(pm:PM)(vs:List Lv):List Wr:=match pm with
 | .val _ _=>[.slot i (Dm i pm vs)]
 | .fn _=>[.slot i (Dm i pm vs)]
 |_=>[.root i (CI pm vs dead),.slot i (Dm i pm vs)]
theorem L8(i:Nat)(pm:PM)(vs:List Lv)(s:St)(h1:i<s.sl.length)(h2:i<s.ro.length):
  (s.app (Ge i pm vs)).sl.length=s.sl.length∧(s.app (Ge i pm vs)).ro.length=s.ro.length∧(∀t,t≠i→(s.app (Ge i pm vs)).slot t=s.slot t∧(s.app (Ge i pm vs)).root t=s.root t)∧
   (s.app (Ge i pm vs)).slot i=Dm i pm vs∧(s.app (Ge i pm vs)).root i=CI pm vs (s.root i):=by
 have one:∀x,(s.app [.slot i x]).sl.length=s.sl.length∧(s.app [.slot i x]).ro.length=s.ro.length∧(∀t,t≠i→(s.app [.slot i x]).slot t=s.slot t∧(s.app [.slot i x]).root t=s.root t)∧
   (s.app [.slot i x]).slot i=x∧(s.app [.slot i x]).root i=s.root i:=by
  intro x;refine⟨(Cz s _).1,(Cz s _).2,fun t ht=>⟨?_,rfl⟩,?_,rfl⟩
  ·show(s.AF (.slot i x)).slot t=_;rw[BS,AAM (fun hh=>ht hh.1.symm)]
  ·show(s.AF (.slot i x)).slot i=_;rw[BS,AAK ⟨rfl,h1⟩]
 have two:∀y x,(s.app [.root i y,.slot i x]).sl.length=s.sl.length∧(s.app [.root i y,.slot i x]).ro.length=s.ro.length∧(∀t,t≠i→(s.app [.root i y,.slot i x]).slot t=s.slot t∧(s.app [.root i y,.slot i x]).root t=s.root t)∧
   (s.app [.root i y,.slot i x]).slot i=x∧(s.app [.root i y,.slot i x]).root i=y:=by
  intro y x;have vr:(s.AF (.root i y)).sl=s.sl:=rfl;refine⟨(Cz (s.AF (.root i y)) (.slot i x)).1.trans (Cz s _).1,(Cz (s.AF (.root i y)) (.slot i x)).2.trans (Cz s _).2,fun t ht=>⟨?_,?_⟩,?_,?_⟩
  ·show((s.AF (.root i y)).AF (.slot i x)).slot t=_;rw[BS,AAM (fun hh=>ht hh.1.symm)];rfl
  ·show(s.AF (.root i y)).root t=_;rw[Au,AAM (fun hh=>ht hh.1.symm)]
  ·show((s.AF (.root i y)).AF (.slot i x)).slot i=_;rw[BS,AAK ⟨rfl,h1⟩]
  ·show(s.AF (.root i y)).root i=_;rw[Au,AAK ⟨rfl,h2⟩]
 cases pm with
 |val g ls=>exact one _
 |fn f=>exact one _
 |box ls=>exact two _ _
 |row g ls=>exact two _ _
theorem Hq:∀(ps:List PM) (tV:List (List Lv)) (i:Nat) {ws:List Wr} (s:St),tV.length=ps.length→(∀(j:Nat)(pm:PM)(vs:List Lv),ps[j]?=some pm→tV[j]?=some vs→vs.length=pm.ins.length)→
  DD i ps tV.flatten=some ws→i+ps.length≤s.sl.length→i+ps.length≤s.ro.length→
  (s.app ws).sl.length=s.sl.length∧(s.app ws).ro.length=s.ro.length∧(∀t,(t<i∨i+ps.length≤t)→(s.app ws).slot t=s.slot t∧(s.app ws).root t=s.root t)∧
   ∀(j:Nat)(pm:PM)(vs:List Lv),ps[j]?=some pm→tV[j]?=some vs→(s.app ws).slot (i+j)=Dm (i+j) pm vs∧(s.app ws).root (i+j)=CI pm vs (s.root (i+j))
 | [],[],i,ws,s,hlen,hv,h,h1,h2=>by
  have:ws=[]:=by simpa[DD]using h.symm
  subst this;exact⟨rfl,rfl,fun t ht=>⟨rfl,rfl⟩,fun j pm vs hj=>by simp at hj⟩
 | [],_::_,i,ws,s,hlen,hv,h,h1,h2=>by simp at hlen
 |_::_,[],i,ws,s,hlen,hv,h,h1,h2=>by simp at hlen
 |pm::ps,vs::tV,i,ws,s,hlen,hv,h,h1,h2=>by
  have vP:vs.length=pm.ins.length:=hv 0 pm vs rfl rfl
  have hex:∃vk,DD (i+1) ps tV.flatten=some vk∧ws=Ge i pm vs++vk:=by
   cases pm with
   |val g ls=>
    simp only[AAi,DD]at h;have wB:vs.length=ls.length:=vP;rw[←wB,AA5,List.take_left]at h;split at h
    ·rename_i vk hq;injection h with h
     exact⟨vk,hq,h.symm⟩
    ·cases h
   |fn f=>
    have wB:vs=[]:=AAP vP;subst wB;simp only[AAi,DD,AA4]at h;split at h
    ·rename_i vk hq;injection h with h
     exact⟨vk,hq,h.symm⟩
    ·cases h
   |box ls=>
    simp only[AAi,DD]at h;have wB:vs.length=ls.length:=by simpa[PM.ins]using vP
    have hd:(vs++tV.flatten).drop ls.length=tV.flatten:=by rw[←wB,AA5]
    rw[hd,CU 1 ls vs _ wB]at h;split at h
    ·rename_i vk hq;injection h with h
     exact⟨vk,hq,h.symm⟩
    ·cases h
   |row g ls=>
    simp only[AAi,DD]at h;have wB:vs.length=ls.length:=by simpa[PM.ins]using vP
    have hd:(vs++tV.flatten).drop ls.length=tV.flatten:=by rw[←wB,AA5]
    rw[hd,CU 1 ls vs _ wB,Fy i 0 ls vs _ wB]at h;split at h
    ·rename_i vk hq;injection h with h
     exact⟨vk,hq,h.symm⟩
    ·cases h
  obtain⟨vk,hq,rfl⟩:=hex;simp only[ABG]at h1 h2;obtain⟨a1,a2,a3,a4,a5⟩:=L8 i pm vs s (by omega) (by omega);obtain⟨b1,b2,b3,b4⟩:=Hq ps tV (i+1) (s.app (Ge i pm vs)) (by simpa using hlen) (fun j xo wb hj vE=>hv (j+1) xo wb (by simpa using hj) (by simpa using vE)) hq (by rw[a1];omega) (by rw[a2];omega);rw[BC];grind
section
variable {P:Program}{w:World}{fz:Nat→Prop}{ps:List PM}{args:List Value}{tV:List (List Lv)}{bk:Nat→Nat}{om:Key→List Nat}{N:Nat}{ws:List Wr}
open Classical in
noncomputable def Gt (ps:List PM) (w:World) (args:List Value) (bk:Nat→Nat) (r j:Nat):Option Value:=match ps[r]? with
 |some (.box _)=>w.cell? ⟨bk r,j,none⟩
 |some (.row g _)=>(args[r]?).bind fun u=>A5 g u j
 |_=>none
noncomputable def Hg (T:List (String×Array Value)) (ps:List PM) (w:World) (fz:Nat→Prop) (args:List Value) (bk:Nat→Nat) (om:Key→List Nat):Cw:=
 {base:=w.heap.size,io:=fun b=>∃k,b∈om k,fa:=fz,w0:=w,OL:=Gt ps w args bk,Ow:=bk,NU:=T }
noncomputable def Lo (ps:List PM) (w:World) (fz:Nat→Prop) (args:List Value) (bk:Nat→Nat) (om:Key→List Nat):Wd:=
 {w:=w,fz:=fz,cv:=Gt ps w args bk,bk:=bk,om:=om }
theorem Mt.kinds{pm:PM}{u:Value}{vs:List Lv}{b:Nat}{own:Nat→List Nat}(h:Mt w fz pm u vs b own):vs.length=pm.ins.length:=by
 cases pm with
 |val g ls=>have:=congrArg List.length h.1;simpa[PM.ins]using this
 |box ls=>have:=congrArg List.length h.2.1;simpa[PM.ins]using this
 |row g ls=>have:=congrArg List.length h.1;simpa[PM.ins]using this
 |fn f=>rw[h.2];rfl
theorem HX(n t:Nat):(blank n).slot t=one .bad:=by
 show nth _ (List.replicate n (one .bad)) t=_;rw[Ae,List.getElem?_replicate];split<;>rfl
theorem D6(n t:Nat):(blank n).root t=dead:=by
 show nth _ (List.replicate n dead) t=_;rw[Ae,List.getElem?_replicate];split<;>rfl
theorem L9(tS:EJ ps w fz args tV bk om)(hp:DD 0 ps tV.flatten=some ws)(hN:ps.length≤N):Inv N ((blank N).app ws):=by
 obtain⟨b1,b2,b3,b4⟩:=Hq ps tV 0 (blank N) tS.B0 (fun j pm vs hj hv=>by
  obtain⟨u,hu⟩:∃u,args[j]?=some u:=⟨_,AAF (by rw[tS.len];grind)⟩;exact(tS.each j pm u vs hj hu hv).kinds) hp (by simp[blank];exact hN) (by simp[blank];exact hN)
 simp only[AAW]at b3 b4;have w7:((blank N).app ws).Bq=2:=I5 ws _
 have get:∀t,(∃pm vs,ps[t]?=some pm∧tV[t]?=some vs∧((blank N).app ws).slot t=Dm t pm vs∧((blank N).app ws).root t=CI pm vs dead)∨(((blank N).app ws).slot t=one .bad∧((blank N).app ws).root t=dead):=by
  intro t;rcases AAo t ps.length with tX|uh
  ·left;have h1:=AAF tX;have h2:=AAF (show t<tV.length by rw[tS.B0];exact tX);obtain⟨c1,c2⟩:=b4 t _ _ h1 h2;rw[D6]at c2;grind
  ·right;obtain⟨c1,c2⟩:=b3 t (.inr uh);rw[HX]at c1;rw[D6]at c2;grind
 have nl:∀(ls:List (L×Nat)) (vs:List Lv),∀a∈AM 1 ls vs,(∀n∈a.AG,n=1)∧a.Cf=true:=by
  intro ls
  induction ls with
  |nil=>intro vs a ha;simp[AM]at ha
  |cons p ls ih=>
   intro vs a ha;cases vs with
   |nil=>simp[AM]at ha
   |cons x vs=>
    rcases AAZ.1 (show a∈BU 1 p.2 x::AM 1 ls vs from ha)with rfl|ha
    ·exact Gj 1 _ _
    grind
 have rt:∀(pm:PM)(vs:List Lv),((CI pm vs dead).AA<2)∧∀a∈(CI pm vs dead).ls,(∀n∈a.AG,n=1)∧a.Cf=true:=by
  intro pm vs;cases pm with
  |val g ls=>exact⟨by simp[CI,dead],fun a ha=>by simp[CI,dead]at ha⟩
  |fn f=>exact⟨by simp[CI,dead],fun a ha=>by simp[CI,dead]at ha⟩
  |box ls=>exact⟨by simp[CI],fun a ha=>nl ls vs a ha⟩
  |row g ls=>exact⟨by simp[CI],fun a ha=>nl ls vs a ha⟩
 refine⟨⟨fun t n hn=>?_,fun r n hn=>?_⟩,by omega,by rw[b1];simp[blank],by rw[b2];simp[blank],fun r a ha=>?_⟩
 ·rw[w7];rcases get t with⟨pm,vs,_,_,h1,_⟩|⟨h1,_⟩
  ·rw[h1]at hn;cases pm with
   |val g ls=>
    exfalso;simp only[Dm,AV.AG,AAI,AAs]at hn;obtain⟨a,⟨x,_,rfl⟩,hn⟩:=hn;cases hn
   |fn f=>simp[Dm,one,AV.AG,LA.AG]at hn
   |box ls=>simp[Dm,one,AV.AG,LA.AG]at hn;omega
   |row g ls=>
    obtain⟨a,ha,hn⟩:=AAI.1 (show n∈(BB t 0 ls vs).flatMap LA.AG from hn);have:=Fz t 0 ls vs a ha n hn;omega
  ·rw[h1]at hn;simp[one,AV.AG,LA.AG]at hn
 ·rw[w7];rcases get r with⟨pm,vs,_,_,_,h1⟩|⟨_,h1⟩
  ·rw[h1]at hn;rcases AAZ.1 (show n∈(CI pm vs dead).AA::(CI pm vs dead).ls.flatMap LA.AG from hn)with rfl|hn
   all_goals grind
  ·rw[h1]at hn;simp[dead,Bp.AG]at hn;omega
 ·rcases get r with⟨pm,vs,_,_,_,h1⟩|⟨_,h1⟩
  ·grind
  ·rw[h1]at ha;simp[dead]at ha
theorem MA{T:List (String×Array Value)}(tS:EJ ps w fz args tV bk om)(hp:DD 0 ps tV.flatten=some ws)(hN:ps.length≤N):
  AW (Hg T ps w fz args bk om) ((blank N).app ws) (args.toArray++Array.replicate (N-args.toArray.size) undef) (Lo ps w fz args bk om):=by
 obtain⟨b1,b2,b3,b4⟩:=Hq ps tV 0 (blank N) tS.B0 (fun j pm vs hj hv=>by
  obtain⟨u,hu⟩:∃u,args[j]?=some u:=⟨_,AAF (by rw[tS.len];grind)⟩;exact(tS.each j pm u vs hj hu hv).kinds) hp (by simp[blank];exact hN) (by simp[blank];exact hN)
 simp only[AAW]at b3 b4
 have uC:(args.toArray++Array.replicate (N-args.toArray.size) undef).size=N:=by have:=tS.len;simp;omega
 have get:∀t,(∃pm u vs,ps[t]?=some pm∧args[t]?=some u∧tV[t]?=some vs∧((blank N).app ws).slot t=Dm t pm vs∧((blank N).app ws).root t=CI pm vs dead∧(args.toArray++Array.replicate (N-args.toArray.size) undef).getD t Go.undef=u) ∨
   (ps[t]?=none∧((blank N).app ws).slot t=one .bad∧((blank N).app ws).root t=dead):=by
  intro t;rcases AAo t ps.length with tX|uh
  ·left;have h1:=AAF tX;have hlt2:t<args.length:=by rw[tS.len];exact tX
   have h0:=AAF hlt2;have h2:=AAF (show t<tV.length by rw[tS.B0];exact tX);obtain⟨c1,c2⟩:=b4 t _ _ h1 h2;rw[D6]at c2;refine⟨_,_,_,h1,h0,h2,c1,c2,?_⟩;rw[AAg,AAl (by omega)];simp[hlt2]
  ·right;obtain⟨c1,c2⟩:=b3 t (.inr uh);rw[HX]at c1;rw[D6]at c2;grind
 refine⟨by rw[b1,uC];simp[blank],by rw[b2,uC];simp[blank],fun t=>?_,fun r=>?_,?_,⟨fun _ _ _ _ _ _ _ _=>rfl,fun _ _ _=>rfl⟩⟩
 ·rcases get t with⟨pm,u,vs,h1,h2,h3,h4,h5,h6⟩|⟨_,h4,_⟩
  ·rw[h4,h6];have ha:=tS.each t pm u vs h1 h2 h3;cases pm with
   |val g ls=>
    obtain⟨a1,a2,a3⟩:=ha;have hlen:vs.length=ls.length:=by have:=congrArg List.length a1;simpa using this
    have te:∀(j:Nat)(lv:Lv),vs[j]?=some lv→∃y,A5 g u j=some y∧lv.l.rd 0 w fz y lv.x []:=by
     intro j lv hj;have tX:j<ls.length:=by rw[←hlen];exact(AAH.1 hj).1
     exact a3 j (ls[j],0) lv (by simp[tX]) hj
    cases g with
    |false=>
     have wB:vs.length=1:=by rw[hlen];simpa using a2
     obtain⟨lv,rfl⟩:∃lv,vs=[lv]:=by
      match vs,wB with
      | [x],_=>grind
     obtain⟨y,hy,hr⟩:=te 0 lv rfl;simp[A5]at hy;subst hy;exact hr
    |true=>
     obtain⟨cs,rfl,wF⟩:=a2;refine⟨cs,rfl,by grind,fun j a hj=>?_⟩;simp only[AAX]at hj;cases hq:vs[j]? with
     |none=>grind
     |some lv=>
      rw[hq]at hj;injection hj with hj;subst hj
      obtain⟨y,hy,hr⟩:=te j lv hq;exact⟨y,hy,hr⟩
   |box ls=>exact fun _ _=>ha.1
   |row g ls=>
    obtain⟨a1,a2,a3⟩:=ha;have hlen:vs.length=ls.length:=by have:=congrArg List.length a1;simpa using this
    have tR:∀(j:Nat)(p:L×Nat)(lv:Lv),ls[j]?=some p→vs[j]?=some lv→((blank N).app ws).leaf t j=BU 1 p.2 lv:=by intro j p lv p1 p2;show nth LA.bad (((blank N).app ws).root t).ls j=_;rw[h5];show nth LA.bad (AM 1 ls vs) j=_;rw[Ae,BJ 1 ls vs j _ _ p1 p2];rfl
    have uU:∀(j:Nat)(a:LA),(BB t 0 ls vs)[j]?=some a→∃y,A5 g u j=some y∧AR ((blank N).app ws) (Lo ps w fz args bk om) a y:=by
     intro j a hj;have tX:j<ls.length:=by rw[←DX t 0 ls vs hlen];exact(AAH.1 hj).1
     have p1:=AAF tX;have p2:=AAF (show j<vs.length by omega);obtain⟨y,hy,hr⟩:=a3 j _ _ p1 p2;refine⟨y,hy,?_⟩;rw[Gq t 0 ls vs j _ _ p1 p2]at hj;injection hj with hj
     subst hj
     have wB:vs[j].l=ls[j].1:=by have:=congrArg (fun x=>x[j]?) a1;simpa[p1,p2]using this
     split
     ·intro gen t2 e2 xs2 d2 hl _;have hl:((blank N).app ws).leaf t (0+j)=_:=hl;rw[AAW,tR j _ _ p1 p2]at hl;refine⟨y,e2,?_,rfl,rfl⟩;show Gt ps w args bk t (0+j)=some y;simp[Gt,h1,h2,hy]
     ·rename_i hs;have:=(L.AZ (d':=0) (w':=w) (tW:=fz) vs[j].l (by grind) hr);have h7:=this.1;rw[show(fun j=>om (Key.lf t j)) j=[]from this.2]at h7;exact h7
    cases g with
    |false=>
     obtain⟨a,ha2⟩:∃a,BB t 0 ls vs=[a]:=by
      have:=(DX t 0 ls vs hlen).trans a2
      match h:BB t 0 ls vs,this with
      | [x],_=>grind
     show E4 _ _ false (BB t 0 ls vs) u;obtain⟨y,hy,hr⟩:=uU 0 a (by rw[ha2];rfl);simp[A5]at hy;subst hy;rw[ha2];exact hr
    |true=>
     obtain⟨cs,rfl,wF⟩:=a2;exact⟨cs,rfl,by rw[wF,DX t 0 ls vs hlen],fun j a hj=>uU j a hj⟩
   |fn f=>exact ha.1
  ·rw[h4];trivial
 ·have vU:(∀ls,ps[r]?≠some (.box ls))→(∀g ls,ps[r]?≠some (.row g ls))→EM ((blank N).app ws) (Lo ps w fz args bk om) r dead:=by
   intro q1 q2;refine⟨fun j=>?_,?_⟩
   ·have:nth LA.bad dead.ls j=.bad:=by simp[dead,nth]
    rw[this];exact⟨tS.none r q1 q2 j,fun _ _=>trivial⟩
   ·show om (.AX r)=[];rw[tS.AX];split
    ·rename_i ls hq;exact absurd hq (q1 ls)
    ·rfl
  rcases get r with⟨pm,u,vs,h1,h2,h3,h4,h5,h6⟩|⟨h1,_,h5⟩
  ·rw[h5];have ha:=tS.each r pm u vs h1 h2 h3;cases pm with
   |val g ls=>exact vU (fun yN hq=>by rw[h1]at hq;cases hq) (fun g ls hq=>by rw[h1]at hq;cases hq)
   |fn f=>exact vU (fun yN hq=>by rw[h1]at hq;cases hq) (fun g ls hq=>by rw[h1]at hq;cases hq)
   |box ls=>
    obtain⟨a1,a2,arr,T,fr,a3,a4,a5,a6⟩:=ha;have hlen:vs.length=ls.length:=by have:=congrArg List.length a2;simpa using this
    have uJ:∀j,Gt ps w args bk r j=arr[j]?:=by intro j;simp[Gt,h1,World.cell?,a3]
    refine⟨fun j=>?_,?_⟩
    ·show Aa _ _ (nth .bad (AM 1 ls vs) j) (Gt ps w args bk r j) (om (.lf r j));rcases AAo j ls.length with tX|uh
     ·have p1:=AAF tX;have p2:=AAF (show j<vs.length by omega);obtain⟨y,hy,hr⟩:=a6 j _ _ p1 p2;rw[Ae,BJ 1 ls vs j _ _ p1 p2,uJ,hy];exact FW (W':=Lo ps w fz args bk om) hr
     ·rw[Az _ (by rw[BK 1 ls vs hlen];exact uh)];exact⟨tS.box r ls h1 j uh,fun _ _=>trivial⟩
    ·show(if true=true then _ else _);rw[AAK rfl];refine⟨?_,arr,T,fr,a3,a4,?_,fun j=>uJ j⟩
     ·show om (.AX r)=[bk r];rw[tS.AX,h1]
     ·show arr.size=(AM 1 ls vs).length;rw[BK 1 ls vs hlen,a5]
   |row g ls=>
    obtain⟨a1,a2,a3⟩:=ha;have hlen:vs.length=ls.length:=by have:=congrArg List.length a1;simpa using this
    refine⟨fun j=>?_,?_⟩
    ·show Aa _ _ (nth .bad (AM 1 ls vs) j) (Gt ps w args bk r j) (om (.lf r j));rcases AAo j ls.length with tX|uh
     ·have p1:=AAF tX;have p2:=AAF (show j<vs.length by omega);obtain⟨y,hy,hr⟩:=a3 j _ _ p1 p2;rw[Ae,BJ 1 ls vs j _ _ p1 p2,show Gt ps w args bk r j=some y by simp[Gt,h1,h2,hy]];exact FW (W':=Lo ps w fz args bk om) hr
     ·rw[Az _ (by rw[BK 1 ls vs hlen];exact uh)];exact⟨tS.row r g ls h1 j uh,fun _ _=>trivial⟩
    ·show om (.AX r)=[];rw[tS.AX,h1]
  grind
 ·exact {
   nodup:=tS.nodup
   A4:=tS.A4
   own:=fun k b hb=>⟨(tS.own k b hb).1,(tS.own k b hb).2,.inr ⟨k,hb⟩⟩
   fz:=fun b hb=>⟨tS.fz b hb,.inl hb⟩
   frame:=fun _ _ _=>rfl
   size:=AAd _
   rest:=⟨rfl,rfl,rfl⟩ }
end
end Go.Ev
namespace Go.Ev
theorem Gp{P:Program}{fn:Func}{tm:Array Value}{w:World}{vals:List Value}(h:Jb P w tm fn.results.toList vals):(results fn tm).run P w=.ok (Kh vals) w:=by
 have key:∀(g:ResultVar→Sem Value),(∀t,g (.tmp t)=pure (tm.getD t undef))→(∀t T,g (.cell t T)=(do loadVar T (←asAddr (tm.getD t undef))))→∀(l:List ResultVar)(vals:List Value),Jb P w tm l vals→(l.mapM g).run P w=.ok vals w:=by
  intro g hg hg2 l
  induction l with
  |nil=>
   intro vals hl;cases vals with
   |nil=>rfl
   |cons v vs=>exact hl.elim
  |cons v l ih=>
   intro vals hl;cases vals with
   |nil=>cases v<;>exact hl.elim
   |cons u us=>
    rw[List.mapM_cons,Sem.run_bind];cases v with
    |tmp t=>
     obtain⟨rfl,hl⟩:=hl;rw[hg];simp[Sem.run_bind,ih us hl]
    |cell a t=>
     obtain⟨h1,hl⟩:=hl;rw[hg2,h1];simp[Sem.run_bind,ih us hl]
 unfold results;rw[Array.mapM_eq_mapM_toList];simp only[map_eq_pure_bind,bind_assoc,pure_bind];rw[Sem.run_bind,key _ ?h1 ?h2 _ vals h]
 case h1=>intro t;rfl
 case h2=>intro t T;rfl
 show Result.ok _ w=_;congr 1
 match vals with
 | []=>rfl
 | [u]=>rfl
 |u::v::l=>simp[Kh]
section
variable {P:Program}{ty:TypeId→Option Ty}{env:Env}{an:An}{n:Nat}{sm:Sm}{fn:Func}{f:FuncId}{c:Code}
theorem NO{T:List (String×Array Value)}{w:World}{fz:Nat→Prop}{args:List Value}{tV:List (List Lv)}{bk:Nat→Nat}{om:Key→List Nat}{s:St}{W:Wd}{tm:Array Value}{z:sm.outs.D}
  (tS:EJ sm.ps w fz args tV bk om) (h:AW (Hg T sm.ps w fz args bk om) s tm W) (v9:∀t x,ty t=some x→NY P t x) (hz:IC ty sm fn.results.toList tV.flatten s=some z):
  ∃r uY rv vsR vsP,(results fn tm).run P W.w=.ok r W.w∧Fa sm w fz args bk om z r W.w W.fz uY rv vsR vsP:=by
 unfold IC at hz;obtain⟨tt,hl,wL⟩:=Step.C3 _ hz;obtain⟨vals,vsR,us1,osR,hl,vC,y9,vQ⟩:=HU v9 h sm.rs fn.results.toList hl
 obtain⟨vsP,us2,osP,hl,hlp,vS,wA,wR⟩:=IY h 0 sm.ps tV tS.B0 (fun j pm vs hj hv=>by
  obtain⟨u,hu⟩:∃u,args[j]?=some u:=⟨_,AAF (by rw[tS.len];exact(AAH.1 hj).1)⟩;exact(tS.each j pm u vs hj hu hv).kinds) hl
 have hl:vsR.flatten++vsP.flatten=tt:=hl;subst hl;have y6:=vC.append wA;have zk:=y6.pair h.sep.A4;have ur:=y6.nodup;have wJ:=y6.mem;rw[List.pairwise_append]at zk;obtain⟨hp1,xg,hp12⟩:=zk;rw[List.pairwise_flatten]at xg;obtain⟨xg,hp3⟩:=xg
 let uY:Key→List Nat
  | .fl k=>(osR[k]?).getD []
  | .lf i j=>(((osP[i]?).getD [])[j]?).getD []
  | .AX i=>om (.AX i)
 have inR:∀k,∀b∈uY (.fl k),∃o,osR[k]?=some o∧b∈o:=by
  intro k b hb;have hb:b∈(osR[k]?).getD []:=hb;cases hq:osR[k]? with
  |none=>rw[hq]at hb;cases hb
  |some o=>rw[hq]at hb;exact⟨o,rfl,hb⟩
 have inP:∀i j,∀b∈uY (.lf i j),∃os o,osP[i]?=some os∧os[j]?=some o∧b∈o:=by
  intro i j b hb;have hb:b∈(((osP[i]?).getD [])[j]?).getD []:=hb;cases hq:osP[i]? with
  |none=>rw[hq]at hb;cases hb
  |some os=>
   rw[hq]at hb;simp only[AA0]at hb;cases xk:os[j]? with
   |none=>rw[xk]at hb;cases hb
   |some o=>rw[xk]at hb;exact⟨os,o,rfl,xk,hb⟩
 have memP:∀ {i j:Nat} {os:List (List Nat)} {o:List Nat},osP[i]?=some os→os[j]?=some o→o∈osP.flatten:=fun h1 h2=>List.mem_flatten.2 ⟨_,AAN h1,AAN h2⟩
 have blkW:∀i,∀b∈om (.AX i),W.om (.AX i)=om (.AX i):=by
  intro i b hb;have hk:=tS.AX i;cases hq:sm.ps[i]? with
  |none=>rw[hq]at hk;rw[hk]at hb;cases hb
  |some pm=>
   rw[hq]at hk;cases pm with
   |box ls=>
    have tX:i<sm.ps.length:=(AAH.1 hq).1;have zl:=wR i (.box ls) _ _ _ hq (AAF (by rw[tS.B0];exact tX)) (AAF (by omega)) (AAF (by omega));rw[AAW]at zl;obtain⟨b1,b2,_⟩:=zl;have h2:=(h.roots i).2;rw[AAK b1]at h2;rw[h2.1,h.init.2 i b1 b2,hk];rfl
   |val g ls=>have hk:om (.AX i)=[]:=hk;rw[hk]at hb;cases hb
   |row g ls=>have hk:om (.AX i)=[]:=hk;rw[hk]at hb;cases hb
   |fn f=>have hk:om (.AX i)=[]:=hk;rw[hk]at hb;cases hb
 have zZ:∀k,∀b∈uY k,∃k0,b∈W.om k0∧((∃i,k0=.AX i∧k=.AX i)∨∃r j,k0=.lf r j):=by
  intro k b hb;cases k with
  |fl k=>
   obtain⟨o,ho,hb⟩:=inR k b hb;obtain⟨u,_,hu⟩:=wJ o (AAQ _ (AAN ho)) b hb;exact⟨_,hu,.inr ⟨_,_,rfl⟩⟩
  |lf i j=>
   obtain⟨os,o,h1,h2,hb⟩:=inP i j b hb;obtain⟨u,_,hu⟩:=wJ o (AAO _ (memP h1 h2)) b hb;exact⟨_,hu,.inr ⟨_,_,rfl⟩⟩
  |AX i=>
   have hb:b∈om (.AX i):=hb;exact⟨.AX i,by rw[blkW i b hb];exact hb,.inl ⟨i,rfl,rfl⟩⟩
 have hrx:=Gp y9;refine⟨_,uY,vals,vsR,vsP,hrx,?_⟩
 refine {
  outs:=Aw _ _ _ wL
  res:=rfl
  Mb:=vQ 0 _ fun j hj=>by rw[AAW]
  len:=hlp
  each:=?_
  AX:=fun _=>rfl
  nodup:=?_
  A4:=?_
  own:=?_
  fz:=fun b hb=>h.sep.fz b hb |>.imp id fun hh=>hh.imp id id
  frame:=fun b hb hk=>h.sep.frame b hb fun⟨k,hh⟩=>hk k hh
  size:=h.sep.size
  rest:=h.sep.rest }
 ·intro i pm u vs h1 h2 h3;have tX:i<osP.length:=by rw[vS];exact(AAH.1 h1).1
  have hos:=AAF tX;obtain⟨vs0,yP⟩:∃vs0,tV[i]?=some vs0:=⟨_,AAF (by rw[tS.B0];exact(AAH.1 h1).1)⟩;have zl:=wR i pm vs0 vs _ h1 yP h3 hos;rw[AAW]at zl;have ha:=tS.each i pm u vs0 h1 h2 yP
  have wa:∀j,uY (.lf i j)=(osP[i][j]?).getD []:=by intro j;show(((osP[i]?).getD [])[j]?).getD []=_;rw[hos];rfl
  cases pm with
  |val g ls=>exact zl.1
  |fn f=>exact zl.1
  |box ls=>
   obtain⟨b1,b2,b3,b4,b5,b6⟩:=zl;have wO:=(h.roots i).2;rw[AAK b1]at wO;obtain⟨q1,arr,T,fr,q2,q3,q4,q5⟩:=wO;have yV:W.bk i=bk i:=h.init.2 i b1 b2;rw[yV]at q2;refine⟨ha.1,b4,arr,T,fr,q2,q3,by rw[q4,b3],fun j p lv hj hv=>?_⟩;obtain⟨y,hy,hr⟩:=b6 j p lv hj hv;refine⟨y,?_,?_⟩
   ·rw[yV]at hy;simpa[World.cell?,q2]using hy
   ·show lv.l.rd p.2 W.w W.fz y lv.x (uY (.lf i j));rw[wa];exact hr
  |row g ls=>
   obtain⟨a1,a2,a3⟩:=ha;obtain⟨b1,b2,b3⟩:=zl;have hlen0:vs0.length=ls.length:=by have:=congrArg List.length a1;simpa using this
   have hkey:∀(j:Nat)(p:L×Nat)(lv:Lv),ls[j]?=some p→vs[j]?=some lv→lv.l=p.1∧∃y,A5 g u j=some y∧lv.l.rd p.2 W.w W.fz y lv.x (uY (.lf i j)):=by
    intro j p lv hj hv;rw[wa];rcases b3 j p lv hj hv with⟨_,c2,y,hy,hr⟩|⟨c1,c2,c3⟩
    ·refine⟨c2,y,?_,hr⟩;have hy:Gt sm.ps w args bk i j=some y:=hy;simpa[Gt,h1,h2]using hy
    ·obtain⟨y,hy,hr⟩:=a3 j p lv hj c2
     have hl:lv.l=p.1:=by have:=congrArg (fun x=>x[j]?) a1;simpa[hj,c2]using this
     have zK:=L.AZ (d':=p.2) (w':=W.w) (tW:=W.fz) lv.l (by rw[hl];exact c1) hr;have h7:=zK.1;rw[show(fun j=>om (Key.lf i j)) j=[]from zK.2]at h7;refine⟨hl,y,hy,?_⟩;rw[c3];exact h7
   refine⟨?_,a2,fun j p lv hj hv=>(hkey j p lv hj hv).2⟩;apply List.ext_getElem?;intro j;rcases AAo j ls.length with tX|uh
   ·have p1:=AAF tX;have p2:=AAF (show j<vs.length by omega);rw[AAX,AAX,p1,p2];exact congrArg some (hkey j _ _ p1 p2).1
   ·rw[AAv (by simp;omega),AAv (by simp;omega)]
 ·intro k;cases k with
  |fl k=>
   show((osR[k]?).getD []).Nodup;cases hq:osR[k]? with
   |none=>exact AAL
   |some o=>exact ur o (AAQ _ (AAN hq))
  |lf i j=>
   show((((osP[i]?).getD [])[j]?).getD []).Nodup;cases hq:osP[i]? with
   |none=>exact AAL
   |some os=>
    simp only[AA0];cases xk:os[j]? with
    |none=>exact AAL
    |some o=>exact ur o (AAO _ (memP hq xk))
  |AX i=>exact tS.nodup _
 ·intro k k' tj b hb th
  have cross:∀i (k0:Key),(∀i,k0≠.AX i)→b∈uY (.AX i)→b∈uY k0→False:=by
   intro i k0 hk h1 h2;have h1:b∈om (.AX i):=h1;have h3:b∈W.om (.AX i):=by rw[blkW i b h1];exact h1
   obtain⟨k1,h4,h5⟩:=zZ k0 b h2;rcases h5 with⟨i',_,h5⟩|⟨r,j,rfl⟩
   ·exact hk i' h5
   ·exact h.sep.A4 _ _ (by simp) b h3 h4
  cases k with
  |AX i=>cases k' with
   |AX i'=>exact tS.A4 _ _ tj b hb th
   |lf i' j'=>exact cross i (.lf i' j') (by simp) hb th
   |fl k'=>exact cross i (.fl k') (by simp) hb th
  |lf i j=>cases k' with
   |AX i'=>exact cross i' (.lf i j) (by simp) th hb
   |lf i' j'=>
    obtain⟨os,o,h1,h2,hb⟩:=inP i j b hb;obtain⟨ui,o',vc,wO,hc⟩:=inP i' j' b th;by_cases hi:i=i'
    ·subst hi;rw[h1]at vc;injection vc with vc;subst vc
     have hj:j≠j':=fun e=>tj (by rw[e]);exact JP (fun _ _=>FF.symm) (xg os (AAN h1)) hj h2 wO b hb hc
    ·have:=JP (R:=fun l₁ l₂=>∀x,x∈l₁→∀y,y∈l₂→FF x y) (fun a c hh x hx y hy=>(hh y hy x hx).symm) hp3 hi h1 vc;exact this o (AAN h2) o' (AAN wO) b hb hc
   |fl k'=>
    obtain⟨os,o,h1,h2,hb⟩:=inP i j b hb;obtain⟨o',vc,th⟩:=inR k' b th;exact hp12 o' (AAN vc) o (memP h1 h2) b th hb
  |fl k=>cases k' with
   |AX i'=>exact cross i' (.fl k) (by simp) th hb
   |lf i' j'=>
    obtain⟨os,o,h1,h2,th⟩:=inP i' j' b th;obtain⟨o',vc,hb⟩:=inR k b hb;exact hp12 o' (AAN vc) o (memP h1 h2) b hb th
   |fl k'=>
    obtain⟨o,h1,hb⟩:=inR k b hb;obtain⟨o',vc,th⟩:=inR k' b th;exact JP (fun _ _=>FF.symm) hp1 (fun e=>tj (by rw[e])) h1 vc b hb th
 ·intro k b hb;obtain⟨k0,h1,_⟩:=zZ k b hb;exact h.sep.own k0 b h1
theorem N3{T:List (String×Array Value)}{w:World}{fz:Nat→Prop}{args:List Value}{tV:List (List Lv)}{bk:Nat→Nat}{om:Key→List Nat}{s:St}{W:Wd}{tm:Array Value}{z:sm.outs.D}{v:Nat}
  (tS:EJ sm.ps w fz args tV bk om) (h:AW (Hg T sm.ps w fz args bk om) s tm W) (hv:Ad s v) (v9:∀t x,ty t=some x→NY P t x) (xX:sm.mk?=false) (hz:DW ty sm fn.results.toList tV.flatten s=some z):
  ∃r tW uY rv vsR vsP,(results fn tm).run P W.w=.ok r W.w∧Fa sm w fz args bk om z r W.w tW uY rv vsR vsP:=by
 unfold DW at hz;rw[xX]at hz;simp only[ABC,if_false]at hz;split at hz
 ·rename_i fs ve;obtain⟨W1,h1,fr,_⟩:=Eu h hv ve;obtain⟨r,uY,rv,vsR,vsP,q1,q2⟩:=NO (P:=P) (fn:=fn) tS h1 v9 hz;rw[fr.w]at q1 q2;exact⟨r,W1.fz,uY,rv,vsR,vsP,q1,q2⟩
 ·cases hz
theorem H8:∀(ls:List L)(as:List LA) {vs:List Lv},DV ls as=some vs→vs.map (·.l)=ls∧as.length=ls.length∧∀(j:Nat)(lv:Lv),vs[j]?=some lv→as[j]?=some (.sc lv.l lv.x)
 | [],[],vs,h=>by simp only[DV,Option.some.injEq]at h;subst h;exact⟨rfl,rfl,fun j lv hj=>by simp at hj⟩
 |l::ls,a::as,vs,h=>by
  cases a with
  |sc m x=>
   simp only[DV]at h;split at h
   ·rename_i y ys hc hr;injection h with h
    subst h;obtain⟨h1,h2,h3⟩:=H8 ls as hr;obtain⟨rfl,hxy⟩:=L.AH hc;cases hxy;refine⟨by simp[h1],by simp[h2],fun j lv hj=>?_⟩;cases j with
    |zero=>simp at hj;subst hj;rfl
    |succ j=>simpa using h3 j lv (by simpa using hj)
   ·cases h
  |_=>simp[DV]at h
 | [],_::_,vs,h=>by simp[DV]at h
 |_::_,[],vs,h=>by simp[DV]at h
theorem N2{T:List (String×Array Value)}{w:World}{fz:Nat→Prop}{args:List Value}{tV:List (List Lv)}{bk:Nat→Nat}{om:Key→List Nat}{s:St}{W:Wd}{tm:Array Value}{z:sm.outs.D}
  (tS:EJ sm.ps w fz args tV bk om) (h:AW (Hg T sm.ps w fz args bk om) s tm W) (xX:sm.mk?=true) (hz:DW ty sm fn.results.toList tV.flatten s=some z):
  ∃r b,(results fn tm).run P W.w=.ok r W.w∧Lu sm w fz z r W.w W.fz b:=by
 unfold DW at hz;rw[xX,AAK rfl]at hz;unfold Na at hz;split at hz
 ·rename_i t y9;split at hz
  ·rename_i r AA xI;split at hz
   ·rename_i hc;simp only[AAG,AAS]at hc;obtain⟨⟨wC,uR⟩,tc⟩:=hc;split at hz
    ·rename_i vs vb;have hu:=h.AP t;rw[xI]at hu;have hu:tm.getD t Go.undef=.pointer (some ⟨W.bk r,0,none⟩):=hu uR tc;obtain⟨p1,p2,p3⟩:=H8 _ _ vb;have uK:=h.roots r;obtain⟨hl,hb⟩:=uK;rw[AAK uR]at hb;obtain⟨u4,arr,T0,fr,uE,um,uC,uJ⟩:=hb;unfold Sm.plain at wC;simp only[AAG]at wC
     have wM:∀pm∈sm.ps,∃g ls,pm=.val g ls:=fun pm hpm=>by
      have:=AAU.1 wC.1 pm hpm;cases pm with
      |val g ls=>exact⟨g,ls,rfl⟩
      |_=>cases this
     have vU:∀k,om k=[]:=by
      intro k;cases k with
      |fl n=>exact tS.fl n
      |AX i=>
       rw[tS.AX i];cases hq:sm.ps[i]? with
       |none=>rfl
       |some pm=>obtain⟨g,ls,rfl⟩:=wM pm (AAN hq);rfl
      |lf i j=>
       refine tS.none i (fun ls hq=>?_) (fun g ls hq=>?_) j
       ·obtain⟨g,ls,hh⟩:=wM _ (AAN hq);cases hh
       ·obtain⟨g,ls,hh⟩:=wM _ (AAN hq);cases hh
     have w8:∀b,¬(∃k,b∈om k):=fun b ⟨k,hb⟩=>by rw[vU k]at hb;cases hb
     have wu:=h.sep.own (.AX r) (W.bk r) (by rw[u4];simp);have tn:=Gp (fn:=fn) (P:=P) (w:=W.w) (tm:=tm) (vals:=[tm.getD t Go.undef]) (by rw[y9];exact⟨rfl,trivial⟩);refine⟨_,W.bk r,tn,?_⟩;have xf:unpack sm.outs z=vs:=Aw _ _ _ hz
     exact {
      box:=by
       rw[xf];refine⟨hu,p1,arr,T0,fr,uE,um,by rw[uC,p2];simp,fun j p lv hj vg=>?_⟩;have yH:=p3 j lv vg;have y8:=hl j;rw[Ae,yH]at y8;have hjl:j<arr.size:=by rw[uC];exact(AAH.1 yH).1
       have yS:arr[j]?=some arr[j]:=AAc hjl;refine⟨arr[j],yS,?_⟩;have hp:p.2=0:=by simpa using AAU.1 wC.2 p (AAN hj)
       rw[hp];exact y8.2 _ (by rw[uJ j,yS])
      new:=⟨wu.2.2.elim id fun h=>(w8 _ h).elim,wu.2.1,wu.1⟩
      fz:=fun x hx=>by
       obtain⟨a1,a2⟩:=h.sep.fz x hx;refine⟨a1,?_⟩;rcases a2 with a2|a2|a2
       ·exact .inl a2
       ·exact .inr a2
       ·exact(w8 _ a2).elim
      frame:=fun x hx=>h.sep.frame x hx (w8 x)
      size:=h.sep.size
      rest:=h.sep.rest }
    ·cases hz
   ·cases hz
  ·cases hz
 ·cases hz
theorem OO{T:List (String×Array Value)}(hf:P.funcs[f]?=some fn)(hb:fn.body=some c)(hlen:sm.ps.length≤fn.ntmps)(v9:∀t x,ty t=some x→NY P t x)(uF:Ko P T env)(hm:P.follows .mixedOrders=true):
  K8 P T f ⟨sm,L5 ty env an n fn sm⟩:=by
 intro args w fz tV bk om x z hgnd tS hx hz;have hz:L5 ty env an n fn sm x=some z:=hz;have hu:unpack sm.ins x=tV.flatten:=Aw _ _ _ hx;simp only[L5,hb,hu]at hz;cases hp:DD 0 sm.ps tV.flatten with
 |none=>rw[hp]at hz;cases hz
 |some ws=>
  rw[hp]at hz;dsimp only at hz;split at hz
  ·cases hz
  ·rename_i uB;have uB:codeOk fn.ntmps c=true:=by simpa using uB
   refine calls_of_wp hf hb ?_;have tT:=MA (T:=T) tS hp hlen;have hinv:=L9 (N:=fn.ntmps) tS hp hlen;have zG:Claim P (Hg T sm.ps w fz args bk om) fn.ntmps an n (DW ty sm fn.results.toList tV.flatten) c:=(M6 hm c).1
   have fin:∀ {s':St} {a':Act} {W':Wd} {z':sm.outs.D},a'.defers=[]→AW (Hg T sm.ps w fz args bk om) s' a'.tmps W'→Inv fn.ntmps s'→DW ty sm fn.results.toList tV.flatten s'=some z'→bodyPost P fn (fun en w'=>match sm.mk? with
     |false=>∃r tW uY rv vsR vsP,en=.returned r∧Fa sm w fz args bk om z' r w' tW uY rv vsR vsP
     |true=>∃r tW b,en=.returned r∧Lu sm w fz z' r w' tW b) .ret a' W'.w:=by
    intro s' a' W' z' hd hr hi hq;cases xX:sm.mk? with
    |false=>
     obtain⟨r,tW,uY,rv,vsR,vsP,h1,h2⟩:=N3 (P:=P) (fn:=fn) tS hr (hi.AG.Hz (v:=s'.Bq) (Nat.lt_irrefl _) (by have:=hi.two;omega)) v9 xX hq;exact⟨hd,r,h1,r,tW,uY,rv,vsR,vsP,rfl,h2⟩
    |true=>
     obtain⟨r,b,h1,h2⟩:=N2 (P:=P) (fn:=fn) tS hr xX hq;exact⟨hd,r,h1,r,W'.fz,b,rfl,h2⟩
   refine zG (W:=Lo sm.ps w fz args bk om) (a:=⟨_,[]⟩) (Q:=bodyPost P fn _) ?_ (show DL P (Hg T sm.ps w fz args bk om) env from⟨uF,hgnd⟩) uB (fun _ _=>⟨rfl,rfl⟩) tT hinv hz ?_ ?_ ?_
   ·exact v9
   ·intro s' a' W' hd hr hi hk hq;exact fin hd hr hi hq
   ·intro id s' a' W' hd hr hi hk hq;cases hq
   ·intro y s' a' W' hd hr hi hq xk;injection xk with xk
    subst xk;exact fin hd hr hi hq
end
end Go.Ev
namespace Go.Ev
mutual
def L.fit:(l:L)→l.D→Prop
 | .int k,x=>k.min≤(show Int from x)∧(show Int from x)≤k.max
 | .bool,_=>True
 | .str,x=>List.length (α:=UInt8) x≤maxLen
 | .sl _ e,x=>List.length (α:=e.D) x≤maxLen∧∀y,List.Mem (α:=e.D) y x→e.fit y
def Ls.fit:(ls:Ls)→ls.D→Prop
 | .nil,_=>True
 | .one l,x=>l.fit x
 | .cons l ls,x=>l.fit x.1∧ls.fit x.2
end
theorem MH:∀ls:List L,(E2 ls).n=ls.length
 | []=>rfl
 | [_]=>rfl
 |_::m::r=>by simp only[E2,Ls.n,MH (m::r),ABG]
theorem FT:∀ls:List L,(E2 ls).kinds=ls
 | []=>rfl
 | [_]=>rfl
 |_::m::r=>by simp only[E2,Ls.kinds,FT (m::r)]
mutual
theorem L.DA:∀l:L,L.eq? l l=true
 | .int _=>by simp[L.eq?]
 | .bool=>rfl
 | .str=>rfl
 | .sl t e=>by simp[L.eq?,Ls.DA e]
theorem Ls.DA:∀e:Ls,Ls.eq? e e=true
 | .nil=>rfl
 | .one l=>by simp[Ls.eq?,L.DA l]
 | .cons l ls=>by simp[Ls.eq?,L.DA l,Ls.DA ls]
end
theorem JO:∀(e:Ls)(vs:List Lv),vs.map (·.l)=e.kinds→∃x:e.D,pack e vs=some x∧((∀(j:Nat)(lv:Lv),vs[j]?=some lv→lv.l.fit lv.x)→e.fit x)
 | .nil,[],_=>⟨(),rfl,fun _=>trivial⟩
 | .nil,_::_,h=>by simp[Ls.kinds]at h
 | .one l,[],h=>by simp[Ls.kinds]at h
 | .one l,[v],h=>by simp[Ls.kinds]at h;subst h;refine⟨v.x,?_,fun hf=>hf 0 v rfl⟩;have he:L.eq? v.l v.l=true:=L.DA v.l;simp only[pack,L.cast,he,dif_pos];rfl
 | .one l,_::_::_,h=>by simp[Ls.kinds]at h
 | .cons l ls,[],h=>by simp[Ls.kinds]at h
 | .cons l ls,v::vs,h=>by simp only[Ls.kinds,ABK,List.cons.injEq]at h;obtain⟨h1,h2⟩:=h;subst h1;obtain⟨xs,hx,hf⟩:=JO ls vs h2;have he:L.eq? v.l v.l=true:=L.DA v.l;refine⟨(v.x,xs),?_,fun hh=>⟨hh 0 v rfl,hf fun j lv hj=>hh (j+1) lv (by simpa using hj)⟩⟩;simp only[pack,L.cast,he,dif_pos,hx]
def Jy(P:Program)(r:TypeId→Option (List L)):Nat→List Field→Option (List L)
 |_,[]=>some []
 |off,f::fs=>match f.offset==off,r f.type with
  |true,some ls=>match P.cellsOf f.type==ls.length,Jy P r (off+ls.length) fs with
   |true,some ms=>some (ls++ms)
   |_,_=>none
  |_,_=>none
def lay(P:Program):Nat→TypeId→Option (List L)
 |0,_=>none
 |k+1,t=>match P.underlying t with
  |some .bool=>some [.bool]
  |some (.int k)=>some [.int k]
  |some .string=>some [.str]
  |some (.slice e)=>match lay P k e with
   |some ls=>match P.cellsOf e==ls.length,ls with
    |true,l::ls=>some [.sl e (E2 (l::ls))]
    |_,_=>none
   |none=>none
  |some (.struct fs)=>match Jy P (lay P k) 0 fs.toList with
   |some ls=>match P.cellsOf t==ls.length with
    |true=>some ls
    |false=>none
   |none=>none
  |_=>none
def Old(w:World)(b:Nat):Prop:=b<w.heap.size
section
variable {H:Type}{enc:TypeId×Value→H}{P:Program}{w:World}{base:Nat}{held:Bool}
def Holds(w:World)(ls:List L)(cs:List Value):Prop:=cs.length=ls.length∧∃vs:List Lv,vs.map (·.l)=ls∧∀(j:Nat)(lv:Lv),vs[j]?=some lv→∃v,cs[j]?=some v∧lv.l.rd 0 w (Old w) v lv.x []∧lv.l.fit lv.x
theorem Holds.append{ls ms:List L}{cs ds:List Value}(h1:Holds w ls cs)(h2:Holds w ms ds):Holds w (ls++ms) (cs++ds):=by
 obtain⟨a1,vs,a2,a3⟩:=h1;obtain⟨b1,us,b2,b3⟩:=h2;have hl:vs.length=cs.length:=by have:=congrArg List.length a2;simp at this;omega
 refine⟨by simp[a1,b1],vs++us,by simp[a2,b2],fun j lv hj=>?_⟩;rcases AAo j vs.length with tX|uh
 ·rw[AAu tX]at hj;obtain⟨v,hv,hr⟩:=a3 j lv hj;exact⟨v,by rw[AAu (by omega)];exact hv,hr⟩
 ·rw[AA3 uh]at hj;obtain⟨v,hv,hr⟩:=b3 _ lv hj;exact⟨v,by rw[AA3 (by omega),←hl];exact hv,hr⟩
theorem Holds.elem{e:Ls}{cs:List Value}(h:Holds w e.kinds cs):∃x:e.D,e.rd 0 w (Old w) (fun j=>cs[j]?) x []∧e.fit x:=by
 obtain⟨_,vs,h1,h2⟩:=h;obtain⟨x,hx,hf⟩:=JO e vs h1;refine⟨x,Bj e fun j lv hj=>?_,hf fun j lv hj=>?_⟩
 ·rw[Aw e vs x hx]at hj;obtain⟨v,hv,hr,_⟩:=h2 j lv hj;exact⟨v,hv,hr⟩
 ·obtain⟨v,_,_,hf⟩:=h2 j lv hj;exact hf
theorem Jz{r:TypeId→Option (List L)}{cs:List Value}:∀(fs:List Field)(off:Nat) {ls:List L},Jy P r off fs=some ls→off+ls.length=cs.length→
  (∀(i:Nat)(f:Field)(ms:List L),fs[i]?=some f→r f.type=some ms→Holds w ms ((cs.drop f.offset).take (P.cellsOf f.type)))→Holds w ls (cs.drop off)
 | [],off,ls,h,hl,hf=>by
  simp only[Jy,Option.some.injEq]at h;subst h;have:cs.drop off=[]:=by simp at hl;simp;omega
  rw[this];exact⟨rfl,[],rfl,fun j lv hj=>by simp at hj⟩
 |f::fs,off,ls,h,hl,hf=>by
  simp only[Jy]at h;split at h
  ·rename_i ls1 wq hr;have wq:f.offset=off:=by simpa using wq
   split at h
   ·rename_i ms hc uA;injection h with h
    subst h;have hc:P.cellsOf f.type=ls1.length:=by simpa using hc
    have h1:=hf 0 f ls1 rfl hr;rw[wq,hc]at h1;have h2:=Jz fs (off+ls1.length) uA (by simp at hl ⊢;omega) fun i f' ms' hi uS=>hf (i+1) f' ms' (by simpa using hi) uS;have:=h1.append h2;rw[←List.drop_drop,List.take_append_drop]at this;exact this
   ·cases h
  ·cases h
theorem Jk{a:Addr}{n i:Nat}{cs:List Value}(hn:0<n)(hs:a.spot=none)(h:w.cells? base (a.add (i*n)) n=some cs):cs.length=n∧∀j,j<n→w.cell? ⟨a.block,a.off+(i*n+j),none⟩=cs[j]?:=by obtain⟨_,h1,h2⟩:=World.cells?_some h;refine⟨h1,fun j hj=>?_⟩;rw[←h2 j hj,EO hs];have:(at_ a (i*n)).spot=none:=rfl;rw[EO this];simp[at_,Nat.add_assoc]
theorem Lj{a:Addr}{n:Nat}{cs:List Value}(hn:0<n)(h:w.cells? base (a.add (0*n)) n=some cs):a.spot=none:=by
 obtain⟨_,h1,h2⟩:=World.cells?_some h;have:=h2 0 hn;rw[show cs[0]?=some (cs[0]'(by omega))from AAF _]at this;simp only[Nat.zero_mul,Addr.add,AAK]at this;unfold World.cell? at this;split at this
 ·cases hq:a.spot with
  |none=>rfl
  |some s=>simp[hq]at this
 ·cases this
theorem IK:∀(k:Nat) {t:TypeId} {ls:List L} {fuel:Nat} {cs:List Value} {x:DataW H×List MemPlace},lay P k t=some ls→DataW.trod enc P w base (fun _=>true) held fuel t cs=some x→Holds w ls cs
 |0,t,ls,fuel,cs,x,h,hx=>by simp[lay]at h
 |k+1,t,ls,fuel,cs,x,h,hx=>by
  simp only[lay]at h;split at h
  ·rename_i hu;injection h with h;subst h
   obtain⟨b,rfl,_⟩:=DataW.trod_bool hu hx;refine⟨rfl,[⟨.bool,show Bool from b⟩],rfl,fun j lv hj=>?_⟩;cases j with
   |zero=>simp at hj;subst hj;exact⟨_,rfl,⟨rfl,rfl⟩,trivial⟩
   |succ j=>simp at hj
  ·rename_i kk hu;injection h with h;subst h
   obtain⟨n,rfl,_,hw⟩:=DataW.trod_int hu hx;refine⟨rfl,[⟨.int kk,show Int from n⟩],rfl,fun j lv hj=>?_⟩;cases j with
   |zero=>simp at hj;subst hj;exact⟨_,rfl,⟨rfl,rfl⟩,by simpa[Lit.wf,L.fit]using hw⟩
   |succ j=>simp at hj
  ·rename_i hu;injection h with h;subst h
   obtain⟨s,rfl,_,hs⟩:=DataW.trod_string hu hx;refine⟨rfl,[⟨.str,show List UInt8 from s.data.toList⟩],rfl,fun j lv hj=>?_⟩;cases j with
   |zero=>simp at hj;subst hj;exact⟨_,rfl,⟨by simp,rfl⟩,by simpa[L.fit]using hs⟩
   |succ j=>simp at hj
  ·rename_i e hu;split at h
   ·rename_i ls1 wB;split at h
    ·rename_i l ls2 hc;injection h with h;subst h
     have hc:P.cellsOf e=(l::ls2).length:=by simpa using hc
     let E:Ls:=E2 (l::ls2)
     have hEn:E.n=P.cellsOf e:=by rw[hc];exact MH _
     have hEk:E.kinds=l::ls2:=FT _;have wV:0<P.cellsOf e:=by rw[hc];simp
     rcases DataW.trod_slice hu hx with⟨rfl,_⟩|⟨a,len,cap,elems,rest,n,rfl,rfl,_,hb,hle,ub,uD,h1,h2,_⟩
     ·refine⟨rfl,[⟨.sl e E,([]:List E.D)⟩],rfl,fun j lv hj=>?_⟩;cases j with
      |zero=>simp at hj;subst hj;exact⟨_,rfl,B1,by simp[L.fit],fun y hy=>by cases hy⟩
      |succ j=>simp at hj
     ·have all:∀i,i<cap→∃zy y,w.cells? base (a.add (i*P.cellsOf e)) (P.cellsOf e)=some zy∧DataW.trod enc P w base (fun _=>true) held n e zy=some y:=by
       intro i hi;obtain⟨h3,h4⟩:=h2 rfl;rcases AAo i len with tX|uh
       ·have:=h1 i tX;rw[AAF (show i<elems.length by omega)]at this;obtain⟨zy,q1,q2⟩:=ABS.1 this;exact⟨zy,_,q1,q2⟩
       ·have:=h4 (i-len) (by omega);rw[AAF (show i-len<rest.length by omega),show len+(i-len)=i by omega]at this;obtain⟨zy,q1,q2⟩:=ABS.1 this;exact⟨zy,_,q1,q2⟩
      have elem:a.spot=none→∀i,i<cap→∃y:E.D,E.rd 0 w (Old w) (fun j=>w.cell? ⟨a.block,a.off+(i*E.n+j),none⟩) y []∧E.fit y:=by
       intro hs i hi;obtain⟨zy,y,q1,q2⟩:=all i hi;have hh:=IK k wB q2;rw[←hEk]at hh;obtain⟨z,hz,hf⟩:=hh.elem;obtain⟨c1,c2⟩:=Jk wV hs q1;exact⟨z,Ls.BD E hz fun j hj=>by rw[hEn];exact c2 j (by omega),hf⟩
      refine⟨rfl,?_⟩;by_cases hc0:cap=0
      ·have vP:len=0:=by omega
       subst vP;subst hc0;refine⟨[⟨.sl e E,([]:List E.D)⟩],rfl,fun j lv hj=>?_⟩;cases j with
       |zero=>simp at hj;subst hj;exact⟨_,rfl,⟨some a,0,rfl,AAd _,.inl ⟨rfl,rfl,rfl⟩⟩,by simp[L.fit],fun y hy=>by cases hy⟩
       |succ j=>simp at hj
      ·obtain⟨cs0,y0,q0,_⟩:=all 0 (by omega);have hs:=Lj wV q0;have hy:=elem hs
       let F:Nat→E.D:=fun i=>if hi:i<cap then(hy i hi).choose else FZ E
       have hF:∀i,i<cap→E.rd 0 w (Old w) (fun j=>w.cell? ⟨a.block,a.off+(i*E.n+j),none⟩) (F i) []∧E.fit (F i):=by intro i hi;simp only[F,dif_pos hi];exact(hy i hi).choose_spec
       obtain⟨csl,yl,ql,_⟩:=all (cap-1) (by omega);obtain⟨l1,l2⟩:=Jk wV hs ql;have wH:=l2 (P.cellsOf e-1) (by omega);rw[AAF (show P.cellsOf e-1<csl.length by omega)]at wH
       have wq:a.off+((cap-1)*P.cellsOf e+(P.cellsOf e-1))=a.off+cap*P.cellsOf e-1:=by
        have:cap*P.cellsOf e=(cap-1)*P.cellsOf e+P.cellsOf e:=by rw[←Nat.succ_mul];congr 1;omega
        omega
       rw[wq]at wH
       have u4:∃arr T fr,w.heap[a.block]?=some (.cells arr T fr)∧a.off+cap*P.cellsOf e≤arr.size:=by
        unfold World.cell? at wH;split at wH
        ·rename_i arr T fr hh;refine⟨arr,T,fr,hh,?_⟩;simp only[Option.isSome_none,ABC,if_false]at wH;have tX:=(AAt.1 wH).1;have:0<cap*P.cellsOf e:=Nat.mul_pos (by omega) wV;omega
        ·cases wH
       obtain⟨arr,T,fr,hh,uC⟩:=u4
       let xs:List E.D:=(List.range len).map F
       have hxl:xs.length=len:=by simp[xs]
       have hxg:∀i (hi:i<xs.length),xs[i]=F i:=fun i hi=>by simp[xs]
       refine⟨[⟨.sl e E,xs⟩],rfl,fun j lv hj=>?_⟩;cases j with
       |succ j=>simp at hj
       |zero=>
        simp at hj;subst hj;refine⟨_,rfl,⟨some a,cap,by rw[hxl],by show xs.length≤cap;omega,.inr ⟨fun j=>arr[a.off+j]?,fun _=>[],⟨hs,arr,T,fr,hh,by rw[hEn];exact uC,fun h=>by simp at h,fun j=>rfl⟩,fun i hi=>?_,?_⟩⟩,?_,fun y hy=>?_⟩
        ·have hi:i<xs.length:=hi;show E.rd 0 w (Old w) _ xs[i] [];rw[hxg i hi];have:=(hF i (by omega)).1;refine Ls.BD E this fun j hj=>?_;simp[World.cell?,hh]
        ·exact⟨(AAt.1 hh).1,rfl,fun _ _=>rfl⟩
        ·show xs.length≤maxLen;omega
        ·have hy:y∈xs:=hy;obtain⟨i,hi,rfl⟩:=AAs.1 hy;exact(hF i (by have:=AAR.1 hi;omega)).2
    ·cases h
   ·cases h
  ·rename_i fs hu;split at h
   ·rename_i ls1 wB;split at h
    ·rename_i hc;injection h with h;subst h
     have hc:P.cellsOf t=ls1.length:=by simpa using hc
     obtain⟨xs,n,rfl,_,hlen,hxl,tv⟩:=DataW.trod_struct hu hx
     have:=Jz (w:=w) (cs:=cs) fs.toList 0 wB (by omega) fun i f ms hi hr=>by
      have vF:fs[i]?=some f:=by simpa using hi
      have tX:i<xs.length:=by rw[hxl];exact(AAt.1 vF).1
      have hg:=tv i f vF;rw[AAF tX]at hg;exact IK k hr hg
     simpa using this
    ·cases h
   ·cases h
  ·cases h
end
end Go.Ev
namespace Go.Ev
open Go.ChangeShapes Go.RowKit
def HH(P:Program)(t:TypeId):Bool:=match P.underlying t with
 |some (.struct _)=>true
 |_=>false
def IP(P:Program):List TypeId→Option (List PM)
 | []=>some []
 |t::ts=>match lay P 12 t,IP P ts with
  |some ls,some ps=>some (.val (HH P t) ls::ps)
  |_,_=>none
def JR(P:Program)(ts:List TypeId):Bool:=ts.all fun t=>P.readableRec t&&decide (t<P.types.size)
section
variable {H:Type}{enc:TypeId×Value→H}{P:Program}{w:World}{base base':Nat}{held:Bool}
theorem J8{t:TypeId}{v:Value}{ls:List L}{r:Reach}(h:Value.okWide P w r base t v)(hl:lay P 12 t=some ls)(ha:HH P t=false):v.cells = #[v]∧ls.length=1:=by
 unfold lay at hl;unfold HH at ha;unfold Value.okWide Cell.okWide Cell.ok at h;split at hl
 ·rename_i hu;rw[hu]at h;injection hl with hl;subst hl
  cases v<;>first|exact⟨rfl,rfl⟩|exact h.elim
 ·rename_i hu;rw[hu]at h;injection hl with hl;subst hl
  cases v<;>first|exact⟨rfl,rfl⟩|exact h.elim
 ·rename_i hu;rw[hu]at h;injection hl with hl;subst hl
  cases v<;>first|exact⟨rfl,rfl⟩|exact h.elim
 ·rename_i hu;rw[hu]at h;split at hl
  ·split at hl
   ·injection hl with hl;subst hl
    cases v<;>first|exact⟨rfl,rfl⟩|exact h.elim
   ·cases hl
  ·cases hl
 ·rename_i hu;rw[hu]at ha;cases ha
 ·cases hl
theorem K9{t:TypeId}{v:Value}{r:Reach}(h:Value.okWide P w r base t v)(ha:HH P t=true):∃cs,v=.agg cs:=by
 unfold HH at ha;unfold Value.okWide at h;split at ha
 ·rename_i hu;rw[hu]at h;obtain⟨cs,h,_⟩:=h;exact⟨cs,h⟩
 ·cases ha
theorem Kp:∀ {ts:List TypeId} {vs:List Value} {ds:List (DataW H)} {p:List MemPlace} {pms:List PM},DataW.TrodAll enc P w base (fun _=>true) held ts vs ds p→
  (∀(j:Nat) t v,ts[j]?=some t→vs[j]?=some v→Value.okWide P w .any base' t v)→IP P ts=some pms→
  vs.length=pms.length∧ds.length=ts.length∧∃tV:List (List Lv),tV.length=pms.length∧tV.flatten.map (·.l)=pms.flatMap PM.ins∧(∀(j:Nat)(lv:Lv),tV.flatten[j]?=some lv→lv.l.fit lv.x)∧
   ∀(i:Nat)(pm:PM)(u:Value)(xs:List Lv),pms[i]?=some pm→vs[i]?=some u→tV[i]?=some xs→Mt w (Old w) pm u xs 0 (fun _=>[])∧∃g ls,pm=.val g ls
 | [],[],[],p,pms,h,hv,hp=>by simp only[IP,Option.some.injEq]at hp;subst hp;exact⟨rfl,rfl,[],rfl,rfl,(fun j lv hj=>by simp at hj),fun i pm u xs hi=>by simp at hi⟩
 |t::ts,v::vs,d::ds,p,pms,h,hv,hp=>by
  obtain⟨p1,p2,⟨fuel,h1⟩,h2,_⟩:=h;simp only[IP]at hp;split at hp
  ·rename_i ls ps hl wR;injection hp with hp;subst hp
   obtain⟨a1,a2,tV,a3,a4,a5,a6⟩:=Kp h2 (fun j t v ht vE=>hv (j+1) t v (by simpa using ht) (by simpa using vE)) wR;have uU:=hv 0 t v rfl rfl;obtain⟨hlen,us,b1,b2⟩:=IK 12 hl h1;have hul:us.length=ls.length:=by have:=congrArg List.length b1;simpa using this
   refine⟨by simp[a1],by simp[a2],us::tV,by simp[a3],by simp[a4,b1,PM.ins],fun j lv hj=>?_,fun i pm u xs hi hu hx=>?_⟩
   ·rw[AAi]at hj;rcases AAo j us.length with tX|uh
    ·rw[AAu tX]at hj;obtain⟨_,_,_,hf⟩:=b2 j lv hj;exact hf
    ·rw[AA3 uh]at hj;exact a5 _ lv hj
   ·cases i with
    |succ i=>exact a6 i pm u xs (by simpa using hi) (by simpa using hu) (by simpa using hx)
    |zero=>
     simp at hi hu hx;subst hi;subst hu;subst hx;refine⟨⟨by simp[b1,Function.comp_def],?_,fun j p lv hj vg=>?_⟩,_,_,rfl⟩
     ·cases vd:HH P t with
      |true=>
       obtain⟨cs,rfl⟩:=K9 uU vd;exact⟨cs,rfl,by simpa[Value.cells]using hlen⟩
      |false=>
       have:=(J8 uU hl vd).2;simpa using this
     ·obtain⟨y,hy,hr,_⟩:=b2 j lv vg
      have xg:p.2=0:=by
       simp only[AAX]at hj;cases hq:ls[j]? with
       |none=>rw[hq]at hj;cases hj
       |some l=>rw[hq]at hj;injection hj with hj;rw[←hj]
      rw[xg];refine⟨y,?_,hr⟩;cases vd:HH P t with
      |true=>
       show v.cells[j]?=some y;rw[←hy];simp
      |false=>
       obtain⟨q1,q2⟩:=J8 uU hl vd;rw[q1]at hy;cases j with
       |zero=>simp at hy;subst hy;rfl
       |succ j=>simp at hy
  ·cases hp
 | [],_::_,_,_,_,h,_,_=>by cases h
 | [],[],_::_,_,_,h,_,_=>by cases h
 |_::_,[],_,_,_,h,_,_=>by cases h
 |_::_,_::_,[],_,_,h,_,_=>by cases h
theorem FE(hl:laidOutB P=true){W W':World}(hb:Below W.heap.size W W'):∀ {ts:List TypeId} {vs:List Value} {ds:List (DataW H)} {p:List MemPlace},JR P ts=true→
  DataW.TrodAll enc P W 0 (fun _=>true) true ts vs ds p→(∀x∈p,x.block<W.heap.size)→DataW.TrodAll enc P W' 0 (fun b=>decide (b<W.heap.size)) true ts vs ds p
 | [],[],[],p,hr,h,tX=>h
 |t::ts,v::vs,d::ds,p,hr,h,tX=>by obtain⟨p1,p2,h1,h2,rfl⟩:=h;simp only[JR,List.all_cons,AAG,AAb]at hr;exact⟨p1,p2,Below.trod hl hr.1.1 hr.1.2 h1 hb (fun x hx=>tX x (AAQ _ hx)),FE hl hb (by simpa[JR]using hr.2) h2 (fun x hx=>tX x (AAO _ hx)),rfl⟩
 | [],_::_,_,_,_,h,_=>by cases h
 | [],[],_::_,_,_,h,_=>by cases h
 |_::_,[],_,_,_,h,_=>by cases h
 |_::_,_::_,[],_,_,h,_=>by cases h
end
theorem Md{w:World}{fz:Nat→Prop}{om:Nat→List Nat}{g:Bool}{ls:List (L×Nat)}:∀ {rv:List Value} {vsR:List (List Lv)} {off:Nat},EL w fz om [(g,ls)] rv vsR off→∃u vs,rv=[u]∧vsR=[vs]∧Gs w fz g ls u vs (fun j=>om (off+j))
 | [u],[vs],_,h=>⟨u,vs,rfl,rfl,h.1⟩
 | [],_,_,h=>h.elim
 |_::_,[],_,h=>h.elim
 | [_],_::_::_,_,h=>h.2.elim
 |_::_::_,[_],_,h=>h.2.elim
 |_::_::_,_::_::_,_,h=>h.2.elim
theorem Oo{H:Type}{enc:TypeId×Value→H}{C:Checked}{os:Os}{f:FuncId}{fn:Func}{s:ChangeSpec}{conds:List PathCond}
  (own:ownKnob C.prog.godebug=none) (started:os.Started) (noInit:C.prog.inits.idxOf? f=none) (yF:C.prog.funcs[f]?=some fn)
  (witness:∃(w:World) (tape:Tape) (i:Input),w.os=os∧(w.forCall tape i).Shaped C.prog∧i.vars=[]∧Input.okWide C.prog (w.forCall tape i) .any w.heap.size f i∧
   s.pre6 enc C.prog fn conds false (w.forCall tape i).memory i.args∧({}:Assume).holds C.prog (lone (Frame.enter C.prog f i.args .normal) [] (w.forCall tape i)))
  {sm:Sm} {F:Nat→sm.ins.D→Option sm.outs.D} (uU:∀n,K8 C.prog [] f ⟨sm,F n⟩) (wR:IP C.prog fn.params.toList=some sm.ps) (hrs:sm.rs=[(false,[(.bool,0)])])
  {tb:TypeId} (hres:fn.resultTypes = #[tb]) (htb:C.prog.underlying tb=some .bool) (zr:s.vars=[]) (hreads:JR C.prog fn.params.toList=true) (hlaid:laidOutB C.prog=true)
  (yw:∀(ds:List (DataW H)),ds.length=fn.params.toList.length→s.fn H ds={results:=[.lit (.bool true)],args:=ds })
  (pure:∀x:sm.ins.D,sm.ins.fit x→∃n z,F n x=some z∧unpack sm.outs z=[⟨.bool,(show Bool from true)⟩]):
  ReturnsInHanded {} C os f .any (s.pre6 enc C.prog fn conds false) (s.post enc C.prog fn false true false false):=by
 refine returnsInHanded_of_change_sized own started noInit yF witness ?_;intro W base args ds gs before wM hW _ _ _;have vL:=hW;obtain⟨p,q,hA,hV,rfl,vO,ur⟩:=hW;rw[zr]at hV;obtain⟨rfl,rfl⟩:=trodVars_none hV;obtain⟨a1,a2,tV,a3,a4,a5,a6⟩:=Kp hA (fun j t v ht hv=>wM j t v (by simpa using ht) (by simpa using hv)) wR;have hkin:tV.flatten.map (·.l)=sm.ins.kinds:=by rw[a4];exact(FT _).symm
 obtain⟨x,hx,uP⟩:=JO sm.ins tV.flatten hkin;obtain⟨n,z,hz,hzu⟩:=pure x (uP a5)
 have tS:EJ sm.ps W (Old W) args.toList tV (fun _=>0) (fun _=>[]):={
  len:=a1
  B0:=a3
  each:=fun i pm u xs h1 h2 h3=>(a6 i pm u xs h1 h2 h3).1
  AX:=fun i=>by
   cases hq:sm.ps[i]? with
   |none=>rfl
   |some pm=>
    have tX:=(AAH.1 hq).1;obtain⟨_,g,ls,rfl⟩:=a6 i pm _ _ hq (AAF (by omega)) (AAF (by omega));rfl
  none:=fun i _ _ j=>rfl
  box:=fun i ls _ j _=>rfl
  row:=fun i g ls _ j _=>rfl
  fl:=fun k=>rfl
  nodup:=fun k=>AAL
  A4:=fun k k' _ b hb=>by cases hb
  own:=fun k b hb=>by cases hb
  fz:=fun b hb=>hb }
 have uq:=uU n args.toList W (Old W) tV _ _ x z (fun _ h=>by cases h) tS hx hz;have xX:sm.mk?=false:=by unfold Sm.mk?;rw[hrs]
 have xX:(Mv.mk sm (F n)).s.mk?=false:=xX;rw[xX]at uq;rw[Array.toArray_toList]at uq;refine uq.mono ?_
 rintro en W' ⟨r,tW,uY,rv,vsR,vsP,rfl,co⟩
 have xf:=co.outs;have zo:=co.Mb;rw[hrs]at zo;obtain⟨u,vs,rfl,rfl,b1,_,b2⟩:=Md zo;have ug:vs.length=1:=by have:=congrArg List.length b1;simpa using this
 obtain⟨lv,rfl⟩:∃lv,vs=[lv]:=by
  match vs,ug with
  | [x],_=>exact⟨x,rfl⟩
 obtain⟨l0,x0⟩:=lv;have vP:l0=.bool:=by simpa using b1
 subst vP;obtain⟨y,hy,hr⟩:=b2 0 (.bool,0) ⟨.bool,x0⟩ rfl rfl;have hyu:u=y:=by simpa[A5]using hy
 subst hyu;have hzu:unpack sm.outs z=[⟨.bool,(show Bool from true)⟩]:=hzu;have xf:unpack sm.outs z=_:=xf;rw[hzu]at xf;simp only[AAi,List.flatten_nil,List.append_nil,ABH,AA4,List.cons.injEq]at xf
 have xm:x0=(show Bool from true):=by
  have:=xf.1;injection this with _ h2
  exact h2.symm
 subst xm;have hu:u=.bool true:=hr.1;subst hu;have xH:r=.bool true:=co.res;subst xH;have yU:Below W.heap.size W W':=⟨co.rest.1,co.rest.2.1,co.rest.2.2,co.size,fun k hk=>co.frame k hk fun _ hb=>by cases hb⟩;have tX:∀y∈p,y.block<W.heap.size:=fun y hy=>vL.lt y (by simpa using hy);refine⟨_,rfl,ds,[],_,[],p,[],vL,?_,?_,?_,yU.frame _,fun h=>by cases h⟩
 ·rw[List.append_nil,yw ds a2,hres];exact trodAll_mk1 (shut_bool htb _)
 ·rw[List.append_nil,yw ds a2];exact FE hlaid yU hreads hA tX
 ·rw[List.append_nil,yw ds a2,zr];rfl
end Go.Ev
namespace Go.Ev
def find{α:Type}:List (Nat×α)→Nat→Option α
 | [],_=>none
 |(k,x)::r,t=>match Nat.beq k t with
  |true=>some x
  |false=>find r t
theorem Jq{α:Type}:∀ {l:List (Nat×α)} {t:Nat} {x:α},find l t=some x→(t,x)∈l
 | [],t,x,h=>by cases h
 |(k,y)::r,t,x,h=>by
  unfold find at h;split at h
  ·rename_i hk;have:k=t:=Nat.eq_of_beq_eq_true hk;injection h with h;subst h;subst this;exact AAe
  ·exact AAJ _ (Jq h)
def Om:L→Value→Bool
 | .int k,.int k' n=>IntKind.code k==IntKind.code k'&&n==0
 | .bool,.bool b => !b
 | .str,.string s=>s.size==0
 | .sl _ _,.slice none l c=>l==0&&c==0
 |_,_=>false
theorem Nr{l:L}{v:Value}(h:Om l v=true):v=CQ l:=by
 unfold Om at h;split at h
 ·simp only[AAG,AAS]at h;obtain⟨h1,rfl⟩:=h;rw[IntKind.EU h1];rfl
 ·simp at h;subst h;rfl
 ·rename_i s;have:s=.empty:=ByteArray.size_eq_zero_iff.1 (by simpa using h);subst this;rfl
 ·simp only[AAG,AAS]at h;obtain⟨rfl,rfl⟩:=h;rfl
 ·cases h
def LB:List L→List Value→Bool
 | [],[]=>true
 |l::ls,v::vs=>Om l v&&LB ls vs
 |_,_=>false
theorem Gz:∀ {ls:List L} {vs:List Value},LB ls vs=true→vs=ls.map CQ
 | [],[],_=>rfl
 |l::ls,v::vs,h=>by simp only[LB,AAG]at h;rw[Nr h.1,Gz h.2];rfl
 | [],_::_,h=>by cases h
 |_::_,[],h=>by cases h
def Oh(P:Program)(t:TypeId)(e:Ls):Bool:=decide (0<e.n)&&match P.info? t with
 |some i=>i.size==e.n&&decide (i.bytes≤1024)&&match i.zero with
  |some z=>LB e.kinds z.cells.toList
  |none=>false
 |none=>false
theorem Nl{P:Program}{t:TypeId}{e:Ls}(h:Oh P t e=true):Lr P t e:=by
 unfold Oh at h;simp only[AAG,AAb]at h;obtain⟨hp,h⟩:=h;split at h
 ·rename_i i hi;simp only[AAG,AAb,AAS]at h;obtain⟨⟨h1,h2⟩,h⟩:=h;split at h
  ·rename_i z hz;exact⟨⟨i,hi,h1,h2,z,hz,by rw[←Gz h]⟩,hp⟩
  ·cases h
 ·cases h
def Ip(P:Program)(t:TypeId):L→Bool
 | .int k=>match P.underlying t with
  |some (.int k')=>IntKind.code k==IntKind.code k'
  |_=>false
 | .bool=>match P.underlying t with
  |some .bool=>true
  |_=>false
 | .str=>match P.underlying t with
  |some .string=>true
  |_=>false
 | .sl t' e=>(match P.underlying t with
  |some (.slice t'')=>t'==t''
  |_=>false)&&Oh P t' e
theorem ME{P:Program}{t:TypeId}{l:L}(h:Ip P t l=true):GQ P t l:=by
 cases l with
 |int k=>
  simp only[Ip]at h;split at h
  ·rename_i k' hk;have:=IntKind.EU (by simpa using h:IntKind.code k=IntKind.code k');subst this;exact hk
  ·cases h
 |bool=>
  simp only[Ip]at h;split at h
  ·assumption
  ·cases h
 |str=>
  simp only[Ip]at h;split at h
  ·assumption
  ·cases h
 |sl t' e=>
  simp only[Ip,AAG]at h;obtain⟨h1,h2⟩:=h;split at h1
  ·rename_i t'' ht;have:t'=t'':=by simpa using h1
   subst this;exact⟨ht,Nl h2⟩
  ·cases h1
def G4:List Field→List (Nat×TypeId)→Bool
 | [],[]=>true
 |f::fs,(o,t)::r=>f.offset==o&&f.type==t&&G4 fs r
 |_,_=>false
theorem Hi:∀ {fs:List Field} {r:List (Nat×TypeId)},G4 fs r=true→fs.map (fun f=>(f.offset,f.type))=r
 | [],[],_=>rfl
 |f::fs,(o,t)::r,h=>by simp only[G4,AAG,AAS]at h;rw[ABK,h.1.1,h.1.2,Hi h.2]
 | [],_::_,h=>by cases h
 |_::_,[],h=>by cases h
def G9(P:Program):List Field→Bool
 | []=>true
 |f::fs=>(P.info? f.type).isSome&&G9 P fs
theorem H6{P:Program}:∀ {fs:List Field},G9 P fs=true→∃pl,fs.mapM (fun f=>(P.info? f.type).map fun i=>(f.offset,i.size))=some pl
 | [],_=>⟨[],rfl⟩
 |f::fs,h=>by simp only[G9,AAG]at h;obtain⟨pl,wC⟩:=H6 h.2;obtain⟨i,hi⟩:=Option.isSome_iff_exists.1 h.1;exact⟨(f.offset,i.size)::pl,by simp[List.mapM_cons,hi,wC]⟩
def H7(P:Program)(t:TypeId):L→Bool
 | .int k=>match P.underlying t with
  |some (.int k')=>IntKind.code k==IntKind.code k'
  |_=>false
 | .bool=>match P.underlying t with
  |some .bool=>true
  |_=>false
 | .str=>match P.underlying t with
  |some .string=>true
  |_=>false
 | .sl _ _=>false
theorem Lb{P:Program}{t:TypeId}{l:L}(h:H7 P t l=true):I4 P t l:=by
 cases l with
 |int k=>
  simp only[H7]at h;split at h
  ·rename_i k' hk;have:=IntKind.EU (by simpa using h:IntKind.code k=IntKind.code k');subst this;exact hk
  ·cases h
 |bool=>
  simp only[H7]at h;split at h
  ·assumption
  ·cases h
 |str=>
  simp only[H7]at h;split at h
  ·assumption
  ·cases h
 |sl t' e=>cases h
def Ie(P:Program):Nat→List Field→List L→Bool
 |_,[],[]=>true
 | n, f :: fs, l :: ls => f.name != "_" && f.offset == n && H7 P f.type l && Ie P (n + 1) fs ls
 |_,_,_=>false
theorem Jm{P:Program}:∀ {n:Nat} {fs:List Field} {ls:List L},Ie P n fs ls=true→Gy P n fs ls
 |_,[],[],_=>trivial
 |n,f::fs,l::ls,h=>by simp only[Ie,AAG,AAS,bne_iff_ne,ne_eq]at h;obtain⟨⟨⟨h1,h2⟩,h3⟩,h4⟩:=h;exact⟨h1,h2,Lb h3,Jm h4⟩
 |_,[],_::_,h=>by simp[Ie]at h
 |_,_::_,[],h=>by simp[Ie]at h
def Oi(P:Program)(t:TypeId)(ls:List L):Bool := !P.stoodInHeld t && !P.eqGuardType P.depth t&&match P.underlying t with
 |some (.struct fs)=>Ie P 0 fs.toList ls
 |_=>false
theorem Nn{P:Program}{t:TypeId}{ls:List L}(h:Oi P t ls=true):Ot P t ls:=by
 unfold Oi at h;simp only[AAG,AAT]at h;obtain⟨⟨h1,h2⟩,h3⟩:=h;split at h3
 ·rename_i fs ve;exact⟨h1,h2,fs,ve,Jm h3⟩
 ·cases h3
def Oe(P:Program)(t:TypeId)(ty:Ty):Bool:=(match ty.eq with
 |true=>Oi P t ty.ls.kinds
 |false=>true)&&((match P.info? t with
  |some i=>i.size==ty.ls.n&&match i.zero with
   |some z=>match ty.agg with
    |true=>match z with
     | .agg cs=>LB ty.ls.kinds cs.toList
     |_=>false
    |false=>LB ty.ls.kinds z.cells.toList
   |none=>false
  |none=>false) &&
 match ty.agg with
 |true=>match P.underlying t with
  |some (.struct fs)=>G4 fs.toList ty.fs&&G9 P fs.toList
  |_=>false
 |false=>match ty.ls with
  | .one l=>Ip P t l
  |_=>false)
theorem OC{P:Program}{t:TypeId}{ty:Ty}(h:Oe P t ty=true):NY P t ty:=by
 unfold Oe at h;rw[AAG]at h;obtain⟨h0,h⟩:=h;simp only[AAG]at h;obtain⟨h1,h2⟩:=h;refine⟨?_,fun ha=>?_,fun ha=>?_,fun he=>by rw[he]at h0;exact Nn h0⟩
 ·split at h1
  ·rename_i i hi;simp only[AAG,AAS]at h1;obtain⟨hs,h1⟩:=h1;split at h1
   ·rename_i z hz;refine⟨i,hi,hs,z,hz,?_⟩;split at h1
    ·rename_i ha;split at h1
     ·rename_i cs;have hc:cs=(ty.ls.kinds.map CQ).toArray:=by rw[←Gz h1]
      exact⟨hc,.inl (by rw[hc])⟩
     ·cases h1
    ·rename_i ha;exact⟨by rw[←Gz h1],.inr ha⟩
   ·cases h1
  ·cases h1
 ·rw[ha]at h2;dsimp only at h2;split at h2
  ·rename_i fs ve;simp only[AAG]at h2;exact⟨fs,ve,Hi h2.1,H6 h2.2⟩
  ·cases h2
 ·rw[ha]at h2;dsimp only at h2;split at h2
  ·rename_i l hl;exact⟨l,hl,ME h2⟩
  ·cases h2
theorem Mm{P:Program}{tbl:List (Nat×Ty)}(h:tbl.all (fun p=>Oe P p.1 p.2)=true):∀t x,find tbl t=some x→NY P t x:=
 fun t x hx=>OC (AAU.1 h _ (Jq hx))
def Ms (P : Program) (f : FuncId) : Prop := ∃ (fn : Func) (c : Code), P.funcs[f]? = some fn ∧ fn.body = some c ∧ (fn.name == "runtime.NumGoroutine") = false
theorem OY{P:Program}{T:List (String×Array Value)}:JY P T (find []):=fun f g h=>by cases h
theorem OM{P:Program}{T:List (String×Array Value)}{f:FuncId}{g:Mv}{l:List (FuncId×Mv)}(h:K8 P T f g)(hb:Ms P f)(hl:JY P T (find l)):JY P T (find ((f,g)::l)):=by
 intro f' g' h';unfold find at h';split at h'
 ·rename_i hk;have:f=f':=Nat.eq_of_beq_eq_true hk;subst this;injection h' with h';subst h'
  exact⟨h,hb⟩
 ·exact hl f' g' h'
def plain(l:List (FuncId×Mv)):Env:=⟨find l,fun _ _=>none,fun _=>false⟩
theorem OD{P:Program}{T:List (String×Array Value)}{l:List (FuncId×Mv)}(h:JY P T (find l)):Ko P T (plain l):=⟨h,(fun _ _ _ h=>by cases h),(fun _ h=>by cases h)⟩
def Od(l:List (FuncId×Mv))(f g:FuncId)(σ:OJ)(ts:List TypeId):Env:=⟨find l,fun f' g'=>if f'==f&&g'==g then some σ else none,fun t=>has ts t⟩
theorem Oa{P:Program}{T:List (String×Array Value)}{f:FuncId}{sm:Sm}:K8 P T f ⟨sm,fun _=>none⟩:=by intro args w fz tV bk om x z hg tS hx hz;cases hz
theorem OE{P:Program}{T:List (String×Array Value)}{tbl:List (Nat×Ty)}{l:Env}{an:An}{n:Nat}{sm:Sm}{fn:Func}{f:FuncId}{c:Code}{F:sm.ins.D→Option sm.outs.D}
  (hf:P.funcs[f]?=some fn) (hb:fn.body=some c) (hlen:decide (sm.ps.length≤fn.ntmps)=true) (ht:tbl.all (fun p=>Oe P p.1 p.2)=true) (hl:Ko P T l) (hm:P.follows .mixedOrders=true)
  (hF:∀x,L5 (find tbl) l an n fn sm x=F x):K8 P T f ⟨sm,F⟩:=by
 have h:=OO (an:=an) (n:=n) (sm:=sm) hf hb (AAq hlen) (Mm ht) hl hm;have:L5 (find tbl) l an n fn sm=F:=funext hF;rw[this]at h;exact h
end Go.Ev
