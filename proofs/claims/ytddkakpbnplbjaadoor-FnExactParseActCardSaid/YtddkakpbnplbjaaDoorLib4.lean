/- A plain evaluator for Go's loaded code,and that it is sound;part 4. Conditions: none. -/
import Derived.Test.YtddkakpbnplbjaaDoorLib3
import Derived.Deep.LoopGhost
import Derived.Tactics
import Derived.SizedLaws
import Derived.Carry
import Derived.ChangeShapes
import Derived.RowKit
set_option linter.all false
namespace Go.Ev
theorem EU{α γ:Type}(f:Nat→α→γ):∀(n:Nat)(xs:List α),(KW f n xs).length=xs.length
 |_,[]=>rfl
 |n,x::xs=>by simp[KW,EU f (n+1) xs]
theorem Hj{α γ:Type}(f:Nat→α→γ)(d:γ)(d0:α):∀(n:Nat)(xs:List α)(i:Nat),i<xs.length→nth d (KW f n xs) i=f (n+i) (nth d0 xs i)
 |n,[],i,h=>by simp at h
 |n,x::xs,0,h=>rfl
 |n,x::xs,i+1,h=>by simp only[KW,nth];rw[Hj f d d0 (n+1) xs i (by simpa using h),show n+1+i=n+(i+1) by omega]
theorem GA(ms:List Nat)(ps:List VP)(s:St)(t:Nat):(base ms ps s).slot t=if has ms t then one .bad else(s.slot t).clean (fun r=>has ms r||has (ps.flatMap VP.AO) r) fun r=>has ms r||has (ps.flatMap VP.roots) r:=by
 unfold St.slot base;by_cases h:t<s.sl.length
 ·dsimp only;rw[Hj _ _ (.v false [.bad]) 0 s.sl t h,gb]
 ·dsimp only;rw[A3 _ (by rw[EU];omega),A3 _ (by omega)];split<;>rfl
theorem CF(ms:List Nat)(ps:List VP)(s:St)(r:Nat):(base ms ps s).root r=if has ms r then dead else s.root r:=by
 unfold St.root base;by_cases h:r<s.ro.length
 ·dsimp only;rw[Hj _ _ dead 0 s.ro r h,gb]
 ·dsimp only;rw[A3 _ (by rw[EU];omega),A3 _ (by omega)];split<;>rfl
theorem Fc(ms:List Nat)(ps:List VP)(s:St):(base ms ps s).sl.length=s.sl.length∧(base ms ps s).ro.length=s.ro.length:=⟨EU _ _ _,EU _ _ _⟩
theorem KR(m1 m2:Nat→Bool)(a:AV):∀n∈(a.clean m1 m2).AG,n∈a.AG:=by
 cases a with
 |Di vs=>intro n hn;simp[AV.clean,one,AV.AG,LA.AG]at hn
 |bx as=>intro n hn;simp[AV.clean,one,AV.AG,LA.AG]at hn
 |v g as=>
  intro n hn;obtain⟨b,hb,hn⟩:=gN.1 (show n∈(as.map (LA.clean m1 m2)).flatMap LA.AG from hn);obtain⟨c,hc,rfl⟩:=hR.1 hb;refine gN.2 ⟨c,hc,?_⟩;cases c with
  |ref c=>simp only[LA.clean]at hn;split at hn;cases hn;exact hn
  |win c lo hi=>simp only[LA.clean]at hn;split at hn;cases hn;exact hn
  |Bi c=>simp only[LA.clean]at hn;split at hn;cases hn;exact hn
  |ptr r j AA=>simp only[LA.clean]at hn;split at hn;cases hn;exact hn
  |I6 t c=>simp only[LA.clean]at hn;split at hn;cases hn;exact hn
  |EB g ps qs=>simp only[LA.clean]at hn;split at hn;cases hn;exact hn
  |_=>exact hn
theorem LN{cx:Cx}{m1 m2:Nat→Bool}(h1:∀r,m1 r=true→cx.E9 r=false)(h2:∀r,m2 r=true→cx.lock r=false)(a:AV):Cz cx a (a.clean m1 m2):=by
 cases a with
 |Di vs=>exact .Di vs
 |bx as=>exact .bx as
 |v g as=>
  refine .v g as _ (by simp) fun j b hj=>⟨LA.clean m1 m2 b,by rw[ga,hj];rfl,?_⟩;cases b with
  |ref c=>simp only[LA.clean];split;exact .inr ⟨rfl,h2 _ (by assumption)⟩;exact .inl rfl
  |win c lo hi=>simp only[LA.clean];split;exact .inr ⟨rfl,h2 _ (by assumption)⟩;exact .inl rfl
  |Bi c=>simp only[LA.clean];split;exact .inr ⟨rfl,h2 _ (by assumption)⟩;exact .inl rfl
  |ptr r j AA=>simp only[LA.clean];split;exact .inr ⟨rfl,h1 _ (by assumption)⟩;exact .inl rfl
  |I6 t c=>simp only[LA.clean];split;exact .inr ⟨rfl,h2 _ (by assumption)⟩;exact .inl rfl
  |EB g ps qs=>
   simp only[LA.clean];split
   ·rename_i h;obtain⟨p,hp,hm⟩:=iL.1 h;exact .inr ⟨rfl,p,hp,h1 _ hm⟩
   ·exact .inl rfl
  |_=>exact .inl rfl
end Go.Ev
namespace Go.Ev
theorem Cg(v:Nat):∀(ls:List (Option (L×Nat))) (vs:List Lv) (j:Nat) (l:L),ls[j]?=some (some (l,0))→(nth .bad (AQ v ls vs) j).CH=false
 | [],vs,j,l,h=>by simp at h
 |none::ls,vs,0,l,h=>by simp at h
 |none::ls,vs,j+1,l,h=>Cg v ls vs j l (by simpa using h)
 |some (l',d)::ls,[],0,l,h=>rfl
 |some (l',d)::ls,[],j+1,l,h=>Cg v ls [] j l (by simpa using h)
 |some (l',d)::ls,⟨l0,x⟩::vs,0,l,h=>by
  simp at h;obtain⟨_,rfl⟩:=h;cases l0<;>rfl
 |some (l',d)::ls,x::vs,j+1,l,h=>Cg v ls vs j l (by simpa using h)
theorem I7{cx:Cx}{ms:List Nat}{ps:List VP}{r:Nat}(h1:r∉ms)(h2:r∉ps.flatMap VP.roots):(cx.in ms ps).lock r=true:=by
 have a:has ms r=false:=by cases h:has ms r;rfl;exact absurd ((A8 _ _).1 h) h1
 have b:has (ps.flatMap VP.roots) r=false:=by cases h:has (ps.flatMap VP.roots) r;rfl;exact absurd ((A8 _ _).1 h) h2
 simp[Cx.in,a,b]
theorem Hf{cx:Cx}{ms:List Nat}{ps:List VP}{r:Nat}(h1:r∉ms)(h2:r∉ps.flatMap VP.AO):(cx.in ms ps).E9 r=true:=by
 have a:has ms r=false:=by cases h:has ms r;rfl;exact absurd ((A8 _ _).1 h) h1
 have b:has (ps.flatMap VP.AO) r=false:=by cases h:has (ps.flatMap VP.AO) r;rfl;exact absurd ((A8 _ _).1 h) h2
 simp[Cx.in,a,b]
structure F6(ms:List Nat)(ps:List VP)(s0 s1 σ:St)(W:Wd)(tm:Array Value)(fz:Nat→Prop)(TX:List (List Lv)):Prop where
 len:TX.length=ps.length
 told:∀(i:Nat)(p:VP)(vs:List Lv),ps[i]?=some p→TX[i]?=some vs→Told s1 W tm fz p vs
 at_:∀(i:Nat)(p:VP)(vs:List Lv),ps[i]?=some p→TX[i]?=some vs→At s0.Bm s0 σ p vs
 slot:∀t,t∉ps.flatMap VP.AO→σ.slot t=(base ms ps s0).slot t
 root:∀r,r∉ps.flatMap VP.roots→σ.root r=(base ms ps s0).root r
 l1:σ.sl.length=s0.sl.length
 l2:σ.ro.length=s0.ro.length
theorem F6.get{ms:List Nat}{ps:List VP}{s0 s1 σ:St}{W:Wd}{tm:Array Value}{fz:Nat→Prop}{TX:List (List Lv)}(h:F6 ms ps s0 s1 σ W tm fz TX){p:VP}(hp:p∈ps):∃vs,Told s1 W tm fz p vs∧At s0.Bm s0 σ p vs:=by obtain⟨i,hi⟩:=hM hp;obtain⟨vs,hv⟩:=A7 h.len (gM.1 hi).1;exact⟨vs,h.told i p vs hi hv,h.at_ i p vs hi hv⟩
def Eu(W:Wd)(ps:List VP)(b:Nat):Prop:=W.fz b∨∃r j,Ou ps r j∧b∈W.om (.lf r j)
theorem M6{E:Cr}{cx:Cx}{N:Nat}{ms:List Nat}{ps:List VP}{s0 s1:St}{tm:Array Value}{W:Wd}{x:(DD ps).D}(h1:AU E s1 tm W)(r1:Bb s1)(hk:Au (cx.in ms ps) s0 s1)(hp:Cm cx ms ps=true)(hx:As ps s1=some x):
  ∃TX,F6 ms ps s0 s1 (Bv ms ps s0 x) W tm (Eu W ps) TX:=by
 unfold As at hx;obtain⟨lvs,hl,WK⟩:=Step.Cw _ hx;obtain⟨TX,hl,hlen,Xy⟩:=J9 h1 r1 (fz:=Eu W ps) (fun b hb=>.inl hb) (fun r j hf b hb=>.inr ⟨r,j,hf,hb⟩) hl;have hl:TX.flatten=lvs:=hl;subst hl;have Vg:=Ag _ _ _ WK;simp only[Cm,gL]at hp;obtain⟨⟨d1,d2⟩,_⟩:=hp;have Uy:s1.ro.length=s1.sl.length:=by rw[h1.DG,h1.BW]
 have Tp:∀p∈ps,∃vs,Told s1 W tm (Eu W ps) p vs:=fun p hp=>by obtain⟨i,hi⟩:=hM hp;obtain⟨vs,hv⟩:=A7 hlen (gM.1 hi).1;exact⟨vs,Xy i p vs hi hv⟩
 have aC:=Ga s0.Bm s0 ps TX (base ms ps s0) hlen (fun i p vs hi hv=>by
   have:=Xy i p vs hi hv;cases p with
   |slot t l=>obtain⟨_,x,rfl,_⟩:=this;rfl
   |own t ty e d k=>obtain⟨_,x,rfl,_⟩:=this;rfl
   |box r ls=>exact this.2.2.1) d2 d1
  (fun t ht=>by
   rw[(Fc ms ps s0).1,←hk.l1];obtain⟨p,hp,ht⟩:=gN.1 ht;obtain⟨vs,hv⟩:=Tp p hp;cases p with
   |slot u l=>simp[VP.AO]at ht;subst ht;exact hv.1
   |own u ty e d k=>simp[VP.AO]at ht;subst ht;exact hv.1
   |box r ls=>simp[VP.AO]at ht)
  (fun t ht=>by
   rw[(Fc ms ps s0).2,←hk.l2];obtain⟨p,hp,ht⟩:=gN.1 ht;obtain⟨vs,hv⟩:=Tp p hp;cases p with
   |slot u l=>simp[VP.roots]at ht
   |own u ty e d k=>simp[VP.roots]at ht;subst ht;rw[Uy];exact hv.1
   |box r ls=>simp[VP.roots]at ht;subst ht;exact JN hv.1)
 have he:Bv ms ps s0 x=(base ms ps s0).app (Bw s0.Bm s0 ps TX.flatten):=by unfold Bv;rw[Vg]
 rw[he];obtain⟨a,b,c⟩:=aC;exact⟨TX,hlen,Xy,c,a,b,(B8 _ _).1.trans (Fc ms ps s0).1,(B8 _ _).2.trans (Fc ms ps s0).2⟩
end Go.Ev
namespace Go.Ev
section
variable {E:Cr}{cx:Cx}{N:Nat}{ms:List Nat}{ps:List VP}{s0 s1 σ:St}{tm:Array Value}{W:Wd}{TX:List (List Lv)}
noncomputable def C0 (σ:St) (W:Wd) (ps:List VP):Wd where
 w:=W.w
 fz:=Eu W ps
 cv:=W.cv
 bk:=W.bk
 om k:=match k with
  | .lf r j=>bif(σ.leaf r j).CH then W.om (.lf r j)else []
  | .AS r=>bif(σ.root r).box then W.om (.AS r)else []
  | .fl _=>[]
theorem Ef(k:Key):∀b∈(C0 σ W ps).om k,b∈W.om k:=by
 intro b hb;cases k with
 |lf r j=>
  have hb:b∈(bif(σ.leaf r j).CH then W.om (.lf r j)else []):=hb;cases h:(σ.leaf r j).CH<;>rw[h]at hb
  ·cases hb
  ·exact hb
 |AS r=>
  have hb:b∈(bif(σ.root r).box then W.om (.AS r)else []):=hb;cases h:(σ.root r).box<;>rw[h]at hb
  ·cases hb
  ·exact hb
 |fl k=>cases hb
theorem Oa{p:VP}(hp:p∈ps){r:Nat}(hr:r∈p.roots):r∈ps.flatMap VP.roots:=gN.2 ⟨p,hp,hr⟩
theorem L5(ha:F6 ms ps s0 s1 σ W tm (Eu W ps) TX){r j:Nat}(hf:Ou ps r j):(σ.leaf r j).CH=false:=by obtain⟨ls,l,hm,hj⟩:=hf;obtain⟨vs,_,UZ⟩:=ha.get hm;have UZ:σ.root r=_:=UZ;unfold St.leaf;rw[UZ];exact Cg _ ls vs j l hj
theorem L8(h:AU E s1 tm W)(ha:F6 ms ps s0 s1 σ W tm (Eu W ps) TX):Sep E (C0 σ W ps) where
 nodup k:=by
  cases k with
  |lf r j=>
   show(bif(σ.leaf r j).CH then W.om (.lf r j)else []).Nodup;cases(σ.leaf r j).CH
   ·exact gR
   ·exact h.sep.nodup _
  |AS r=>
   show(bif(σ.root r).box then W.om (.AS r)else []).Nodup;cases(σ.root r).box
   ·exact gR
   ·exact h.sep.nodup _
  |fl k=>exact gR
 Ar k k' Tf b hb Tk:=h.sep.Ar k k' Tf b (Ef k b hb) (Ef k' b Tk)
 own k b hb:=by
  obtain⟨q1,q2,q3⟩:=h.sep.own k b (Ef k b hb);refine⟨?_,q2,q3⟩
  rintro (hz|⟨r,j,hf,hz⟩)
  ·exact q1 hz
  ·have hk:k=.lf r j:=gz fun Tf=>h.sep.Ar k _ Tf b (Ef k b hb) hz;subst hk;have hb:b∈(bif(σ.leaf r j).CH then W.om (.lf r j)else []):=hb;rw[L5 ha hf]at hb;cases hb
 fz b hb:=by
  rcases hb with hz|⟨r,j,_,hz⟩
  ·exact h.sep.fz b hz
  ·obtain⟨_,q2,q3⟩:=h.sep.own _ b hz;exact⟨q2,.inr q3⟩
 frame:=h.sep.frame
 size:=h.sep.size
 rest:=h.sep.rest
theorem HC(hk:Au (cx.in ms ps) s0 s1)(hp:Cm cx ms ps=true)(ha:F6 ms ps s0 s1 σ W tm (Eu W ps) TX){r:Nat}(hb:(σ.root r).box=true):(s1.root r).box=true∧(s1.root r).AA=(σ.root r).AA∧(s1.root r).ls.length=(σ.root r).ls.length:=by
 simp only[Cm,gL]at hp;obtain⟨_,UN⟩:=hp;by_cases hr:r∈ps.flatMap VP.roots
 ·obtain⟨p,hm,hr⟩:=gN.1 hr;obtain⟨vs,ht,UZ⟩:=ha.get hm;cases p with
  |slot t l=>simp[VP.roots]at hr
  |own t ty e d k=>
   simp[VP.roots]at hr;subst hr;obtain⟨_,xs,rfl,_⟩:=ht;have:=(UZ _ rfl).2;rw[this]at hb;cases hb
  |box q ls=>
   simp[VP.roots]at hr;subst hr;have UZ:σ.root r=_:=UZ;have h2:=gY.1 UN _ hm;simp only[gL,gW]at h2;have n1:r∉ms:=fun hh=>by rw[(A8 _ _).2 hh]at h2;exact absurd h2.1.1 (by simp)
   have n2:r∉ps.flatMap VP.AO:=fun hh=>by rw[(A8 _ _).2 hh]at h2;exact absurd h2.2 (by simp)
   obtain⟨b1,b2,b3⟩:=hk.box r (Hf n1 n2);refine⟨ht.1,?_,?_⟩
   ·rw[UZ,b2]
   ·rw[UZ];exact ht.2.1.symm.trans (BG _ _ _).symm
 ·have Uy:=ha.root r hr;rw[CF]at Uy;split at Uy
  ·rw[Uy]at hb;cases hb
  ·rename_i YO;have n1:r∉ms:=fun hh=>YO ((A8 _ _).2 hh);have:=hk.roots r (I7 n1 hr);have e:s1.root r=σ.root r:=this.trans Uy.symm;rw[e];exact⟨hb,rfl,rfl⟩
theorem DI(hk:Au (cx.in ms ps) s0 s1)(hp:Cm cx ms ps=true)(ha:F6 ms ps s0 s1 σ W tm (Eu W ps) TX){a:LA}{v:Value}(hr:∀c,(a=.ref c∨(∃lo hi,a=.win c lo hi)∨a=.Bi c∨∃t,a=.I6 t c)→σ.root c.r=s1.root c.r)(hv:AP s1 W a v):AP σ (C0 σ W ps) a v:=by
 cases a with
 |bad=>trivial
 |undef=>exact hv
 |CL=>exact hv
 |JD=>exact hv
 |sc l x=>exact L.AI l hv (fun _ _=>rfl) fun b hb=>.inl hb
 |ref c=>
  intro gen t e xs d hl hg;rw[Ai (hr c (.inl rfl))]at hl;exact hv gen t e xs d hl hg
 |win c lo hi=>
  intro gen t e xs d hl hg;rw[Ai (hr c (.inr (.inl ⟨lo,hi,rfl⟩)))]at hl;exact hv gen t e xs d hl hg
 |Bi c=>
  intro gen t e xs d hl hg;rw[Ai (hr c (.inr (.inr (.inl rfl))))]at hl;exact hv gen t e xs d hl hg
 |ptr r j AA=>
  intro hb Te;obtain⟨b1,b2,_⟩:=HC hk hp ha hb;exact hv b1 (b2.trans Te)
 |D0 e x off=>
  obtain⟨ad,g,arr,T,fr,Um,hz,hh,hg,Th⟩:=hv;exact⟨ad,g,arr,T,fr,Um,.inl hz,hh,hg,Ls.AI e Th (fun _ _=>rfl) fun b hb=>.inl hb⟩
 |fn f=>exact hv
 |I6 tt c=>
  obtain⟨u,hu,hv⟩:=hv;refine⟨u,hu,fun gen t e xs d hl hg=>?_⟩;rw[Ai (hr c (.inr (.inr (.inr ⟨tt,rfl⟩))))]at hl;exact hv gen t e xs d hl hg
 |EB g qs _=>
  obtain⟨bs,hu,hlen,hv⟩:=hv;refine⟨bs,hu,hlen,fun k p b Xq hb hx Te=>?_⟩;obtain⟨b1,b2,_⟩:=HC hk hp ha hx;exact hv k p b Xq hb b1 (b2.trans Te)
 |arr=>exact hv
end
end Go.Ev
namespace Go.Ev
section
variable {E:Cr}{cx:Cx}{N:Nat}{ms:List Nat}{ps:List VP}{s0 s1 σ:St}{tm:Array Value}{W:Wd}{TX:List (List Lv)}
theorem CO{ms:List Nat}{r:Nat}(h:has ms r=false):r∉ms:=fun hh=>by rw[(A8 _ _).2 hh]at h;cases h
theorem G0{ms:List Nat}{r:Nat}(h:r∉ms):has ms r=false:=by
 cases hh:has ms r with
 |false=>rfl
 |true=>exact absurd ((A8 _ _).1 hh) h
theorem F7(hk:Au (cx.in ms ps) s0 s1)(ha:F6 ms ps s0 s1 σ W tm (Eu W ps) TX){r:Nat}(h1:r∉ms)(h2:r∉ps.flatMap VP.roots):σ.root r=s1.root r:=by rw[ha.root r h2,CF,G0 h1,hk.roots r (I7 h1 h2)];rfl
theorem HD(hk:Au (cx.in ms ps) s0 s1)(hp:Cm cx ms ps=true)(ha:F6 ms ps s0 s1 σ W tm (Eu W ps) TX){a a':LA}{v:Value}(hc:FB (cx.in ms ps) a a')(hv:AP s1 W a' v):
  AP σ (C0 σ W ps) (a.clean (fun r=>has ms r||has (ps.flatMap VP.AO) r) fun r=>has ms r||has (ps.flatMap VP.roots) r) v:=by
 have au:∀r,¬(has ms r||has (ps.flatMap VP.roots) r)=true→(cx.in ms ps).lock r=true∧σ.root r=s1.root r:=by intro r hr;simp only[gl,not_or,Bool.not_eq_true]at hr;exact⟨I7 (CO hr.1) (CO hr.2),F7 hk ha (CO hr.1) (CO hr.2)⟩
 have same:∀ {b:LA},a=b→¬HS (cx.in ms ps) b→AP s1 W b v:=by
  intro b e hd;subst e;rcases hc with rfl|⟨_,hh⟩
  ·exact hv
  ·exact absurd hh hd
 cases a with
 |ref c=>
  simp only[LA.clean];split
  ·trivial
  ·rename_i hr;obtain⟨q1,q2⟩:=au c.r hr;refine DI hk hp ha (fun c' UF=>?_) (same rfl (by simp[HS,q1]));rcases UF with e|⟨_,_,e⟩|e|⟨_,e⟩<;>cases e;exact q2
 |win c lo hi=>
  simp only[LA.clean];split
  ·trivial
  ·rename_i hr;obtain⟨q1,q2⟩:=au c.r hr;refine DI hk hp ha (fun c' UF=>?_) (same rfl (by simp[HS,q1]));rcases UF with e|⟨_,_,e⟩|e|⟨_,e⟩<;>cases e;exact q2
 |Bi c=>
  simp only[LA.clean];split
  ·trivial
  ·rename_i hr;obtain⟨q1,q2⟩:=au c.r hr;refine DI hk hp ha (fun c' UF=>?_) (same rfl (by simp[HS,q1]));rcases UF with e|⟨_,_,e⟩|e|⟨_,e⟩<;>cases e;exact q2
 |ptr r j AA=>
  simp only[LA.clean];split
  ·trivial
  ·rename_i hr;simp only[gl,not_or,Bool.not_eq_true]at hr;have q1:=Hf (cx:=cx) (CO hr.1) (CO hr.2);refine DI hk hp ha (fun c' UF=>?_) (same rfl (by simp[HS,q1]));rcases UF with e|⟨_,_,e⟩|e|⟨_,e⟩<;>cases e
 |I6 t c=>
  simp only[LA.clean];split
  ·trivial
  ·rename_i hr;obtain⟨q1,q2⟩:=au c.r hr;refine DI hk hp ha (fun c' UF=>?_) (same rfl (by simp[HS,q1]));rcases UF with e|⟨_,_,e⟩|e|⟨_,e⟩<;>cases e;exact q2
 |EB g qs q2=>
  simp only[LA.clean];split
  ·trivial
  ·rename_i hr;refine DI hk hp ha (fun c' UF=>?_) (same rfl ?_)
   ·rcases UF with e|⟨_,_,e⟩|e|⟨_,e⟩<;>cases e
   ·rintro ⟨p,Xq,hd⟩
    refine hr (iL.2 ⟨p,Xq,?_⟩);refine gz fun hn=>?_;simp only[gl,not_or,Bool.not_eq_true]at hn;rw[Hf (cx:=cx) (CO hn.1) (CO hn.2)]at hd;cases hd
 |_=>
  refine DI hk hp ha (fun c' UF=>?_) (same rfl (fun hd=>(hd:False)));rcases UF with e|⟨_,_,e⟩|e|⟨_,e⟩<;>cases e
theorem LF(hk:Au (cx.in ms ps) s0 s1)(hp:Cm cx ms ps=true)(ha:F6 ms ps s0 s1 σ W tm (Eu W ps) TX){a a':AV}{v:Value}(hc:Cz (cx.in ms ps) a a')(hv:BQ s1 W a' v):
  BQ σ (C0 σ W ps) (a.clean (fun r=>has ms r||has (ps.flatMap VP.AO) r) fun r=>has ms r||has (ps.flatMap VP.roots) r) v:=by
 have hV:∀ {g:Bool} {as Wm:List LA},Wm.length=as.length→(∀(j:Nat)(b:LA),as[j]?=some b→∃b',Wm[j]?=some b'∧FB (cx.in ms ps) b b')→Ey s1 W g Wm v→
   Ey σ (C0 σ W ps) g (as.map (LA.clean (fun r=>has ms r||has (ps.flatMap VP.AO) r) fun r=>has ms r||has (ps.flatMap VP.roots) r)) v:=by
  intro g as Wm hlen hl hv;cases g with
  |false=>
   match as,Wm,hlen,hl,hv with
   | [b],[b'],_,hl,hv=>
    obtain⟨b2,h1,h2⟩:=hl 0 b rfl;simp at h1;subst h1;exact HD hk hp ha h2 hv
   | [],[],_,hl,hv=>exact hv.elim
   |_::_::_,_::_::_,_,hl,hv=>exact hv.elim
  |true=>
   obtain⟨cs,Ve,Tt,Tp⟩:=hv;refine⟨cs,Ve,by rw[Tt,hlen];simp,fun j b hj=>?_⟩;rw[ga]at hj;cases hq:as[j]? with
   |none=>rw[hq]at hj;cases hj
   |some c=>
    rw[hq]at hj;injection hj with hj;subst hj
    obtain⟨c',h1,h2⟩:=hl j c hq;obtain⟨u,hu,UD⟩:=Tp j c' h1;exact⟨u,hu,HD hk hp ha h2 UD⟩
 cases hc with
 |same=>
  cases a with
  |Di vs=>trivial
  |bx as=>trivial
  |v g as=>exact hV rfl (fun j b hj=>⟨b,hj,.inl rfl⟩) hv
 |v g as Wm h hl=>exact hV h hl hv
 |Di vs=>trivial
 |bx as=>trivial
end
end Go.Ev
namespace Go.Ev
section
variable {E:Cr}{cx:Cx}{N:Nat}{ms:List Nat}{ps:List VP}{s0 s1 σ:St}{tm:Array Value}{W:Wd}{TX:List (List Lv)}
theorem Lr{a:LA}{v r j:Nat}{fz:Nat→Prop}{y:Value}{o:List Nat}(h:match a with
  | .arr AA gen t e xs d=>(AA=v∨AA=1∧∃Uo t' e' UJ d',s1.leaf r j=.arr 1 Uo t' e' UJ d')∧gen=v∧AD e d W.w W.fz y xs o
  | .sc l x=>l.rd 0 W.w (Eu W ps) y x []
  | .bad=>True
  |_=>False):Aa σ (C0 σ W ps) a (some y) (bif a.CH then o else []):=by
 cases a with
 |arr AA gen t e xs d=>exact⟨y,rfl,h.2.2.frame (fun _ _=>rfl) fun b hb=>.inl hb⟩
 |sc l x=>exact⟨rfl,fun u hu=>by injection hu with hu;subst hu;exact h⟩
 |bad=>exact⟨rfl,fun _ _=>trivial⟩
 |_=>exact h.elim
theorem L7(h:AU E s1 tm W)(r1:Bb s1)(h2:2≤s0.Bm)(hk:Au (cx.in ms ps) s0 s1)(hp:Cm cx ms ps=true)(ha:F6 ms ps s0 s1 σ W tm (Eu W ps) TX):AU E σ tm (C0 σ W ps) where
 DG:=by rw[ha.l1,←hk.l1,h.DG]
 BW:=by rw[ha.l2,←hk.l2,h.BW]
 AO t:=by
  by_cases ht:t∈ps.flatMap VP.AO
  ·obtain⟨p,hm,ht⟩:=gN.1 ht;obtain⟨vs,Vo,UZ⟩:=ha.get hm;cases p with
   |slot u l=>
    simp[VP.AO]at ht;subst ht;obtain⟨_,x,rfl,hr⟩:=Vo;rw[UZ _ rfl];exact L.AI l hr (fun _ _=>rfl) fun b hb=>.inl hb
   |own u ty e d k=>
    simp[VP.AO]at ht;subst ht;obtain⟨_,xs,rfl,_,T3,hr,_⟩:=Vo;rw[(UZ _ rfl).1];intro gen t' e' UJ d' hl hg;exact⟨_,e',T3,rfl,rfl⟩
   |box r ls=>simp[VP.AO]at ht
  ·rw[ha.slot t ht,GA];cases YO:has ms t with
   |true=>exact trivial
   |false=>exact LF hk hp ha (hk.AO t (Hf (CO YO) ht)) (h.AO t)
 roots r:=by
  by_cases hr:r∈ps.flatMap VP.roots
  ·obtain⟨p,hm,hr⟩:=gN.1 hr;obtain⟨vs,Vo,UZ⟩:=ha.get hm;cases p with
   |slot u l=>simp[VP.roots]at hr
   |own u ty e d k=>
    simp[VP.roots]at hr;subst hr;obtain⟨_,xs,rfl,Vt,T3,Th,_⟩:=Vo;have Uy:=(UZ _ rfl).2;refine⟨fun j=>?_,?_⟩
    ·have WA:(C0 σ W ps).om (.lf r j)=bif(nth .bad (σ.root r).ls j).CH then W.om (.lf r j)else []:=rfl;rw[WA,Uy];cases j with
     |zero=>
      show Aa _ _ (CA s0.Bm d k ⟨.sl ty e,xs⟩) (W.cv r 0) (bif(CA s0.Bm d k ⟨.sl ty e,xs⟩).CH then W.om (.lf r 0)else []);rw[T3];cases d with
      |zero=>
       have:=AD.zero Th;rw[this]at Th;exact⟨rfl,fun u hu=>by injection hu with hu;subst hu;exact L.AI (.sl ty e) Th (fun _ _=>rfl) fun b hb=>.inl hb⟩
      |succ d=>exact⟨_,rfl,Th.frame (fun _ _=>rfl) fun b hb=>.inl hb⟩
     |succ j=>exact⟨rfl,fun _ _=>trivial⟩
    ·rw[Uy];show(if false=true then _ else _);rw[gT (by simp)];show(bif(σ.root r).box then W.om (.AS r)else [])=[];rw[Uy];rfl
   |box q ls=>
    simp[VP.roots]at hr;subst hr;have UZ:σ.root r=_:=UZ;obtain⟨Vt,hlen,_,Vo⟩:=Vo;obtain⟨_,Vs⟩:=h.roots r;rw[gS Vt]at Vs;obtain⟨ho,arr,T,fr,hh,a1,a2,a3⟩:=Vs;refine⟨fun j=>?_,?_⟩
    ·have WA:(C0 σ W ps).om (.lf r j)=bif(nth .bad (σ.root r).ls j).CH then W.om (.lf r j)else []:=rfl;rw[WA,UZ];show Aa _ _ (nth .bad (AQ s0.Bm ls vs) j) (W.cv r j) (bif(nth .bad (AQ s0.Bm ls vs) j).CH then W.om (.lf r j)else []);cases T3:W.cv r j with
     |some y=>exact Lr (v:=s0.Bm) (fz:=Eu W ps) (Vo s0.Bm j y T3)
     |none=>
      have hj:ls.length≤j:=by rw[hlen,←a2];rw[a3 j]at T3;exact Array.getElem?_eq_none_iff.1 T3
      rw[A3 _ (by rw[BG];exact hj)];exact⟨rfl,fun _ hu=>by cases hu⟩
    ·rw[UZ];show(if true=true then _ else _);rw[gS rfl];refine⟨?_,arr,T,fr,hh,a1,by rw[BG,hlen];exact a2,a3⟩;show(bif(σ.root r).box then W.om (.AS r)else [])=_;rw[UZ];exact ho
  ·cases YO:has ms r with
   |true=>
    have Uy:σ.root r=dead:=by rw[ha.root r hr,CF,YO];rfl
    rw[Uy];refine⟨fun j=>?_,?_⟩
    ·have WA:(C0 σ W ps).om (.lf r j)=bif(nth .bad (σ.root r).ls j).CH then W.om (.lf r j)else []:=rfl;rw[WA,Uy];exact⟨rfl,fun _ _=>trivial⟩
    ·show(if false=true then _ else _);rw[gT (by simp)];show(bif(σ.root r).box then W.om (.AS r)else [])=[];rw[Uy];rfl
   |false=>
    have Uy:=F7 hk ha (CO YO) hr;rw[Uy];obtain⟨q1,q2⟩:=h.roots r;refine⟨fun j=>?_,?_⟩
    ·have WA:(C0 σ W ps).om (.lf r j)=bif(nth .bad (σ.root r).ls j).CH then W.om (.lf r j)else []:=rfl;rw[WA,Uy];have hq:=q1 j;show Aa _ _ _ (W.cv r j) _
     have bC:∀b,nth LA.bad (s1.root r).ls j=b→b.Ca=true:=by
      intro b hb;by_cases hj:j<(s1.root r).ls.length
      ·rw[←hb];exact r1 r _ (G3 hj)
      ·rw[A3 _ (by omega)]at hb;subst hb;rfl
     generalize nth LA.bad (s1.root r).ls j=b at hq bC;have bC:=bC b rfl
     have XM:∀v,AP s1 W b v→AP σ (C0 σ W ps) b v:=fun v hv=>DI hk hp ha (fun c hc=>by
      rcases hc with e|⟨_,_,e⟩|e|⟨_,e⟩<;>(subst e;cases bC)) hv
     cases b with
     |arr AA gen t e xs d=>
      obtain⟨u,hu,Th⟩:=hq;exact⟨u,hu,Th.frame (fun _ _=>rfl) fun b hb=>.inl hb⟩
     |_=>exact⟨rfl,fun u hu=>XM u (hq.2 u hu)⟩
    ·have WA:(C0 σ W ps).om (.AS r)=bif(σ.root r).box then W.om (.AS r)else []:=rfl;rw[WA,Uy];cases hb:(s1.root r).box with
     |true=>
      rw[hb]at q2;rw[gS rfl]at q2 ⊢;exact q2
     |false=>rw[gT (by simp)];rfl
 sep:=L8 h ha
 init:=by
  refine⟨fun r j gen t e xs d hl=>?_,fun r hb Te=>?_⟩
  ·by_cases hr:r∈ps.flatMap VP.roots
   ·obtain⟨p,hm,hr⟩:=gN.1 hr;obtain⟨vs,Vo,UZ⟩:=ha.get hm;cases p with
    |slot u l=>simp[VP.roots]at hr
    |own u ty e' d' k=>
     simp[VP.roots]at hr;subst hr;obtain⟨_,ys,rfl,_,_,_,Y8⟩:=Vo;have Uy:=(UZ _ rfl).2;unfold St.leaf at hl;rw[Uy]at hl;cases j with
     |zero=>
      have hl:CA s0.Bm d' k ⟨.sl ty e',ys⟩=.arr 1 gen t e xs d:=hl;cases k with
      |true=>
       obtain⟨g1,t1,e1,xs1,d1,VZ⟩:=Y8 rfl;exact h.init.1 r 0 g1 t1 e1 xs1 d1 VZ
      |false=>
       cases d' with
       |zero=>cases hl
       |succ d'=>
        have hl:LA.arr s0.Bm s0.Bm ty e' ys (d'+1)=.arr 1 gen t e xs d:=hl;injection hl with h1;omega
     |succ j=>cases hl
    |box q ls=>
     simp[VP.roots]at hr;subst hr;have UZ:σ.root r=_:=UZ;unfold St.leaf at hl;rw[UZ]at hl;have hl:nth LA.bad (AQ s0.Bm ls vs) j=.arr 1 gen t e xs d:=hl;obtain⟨Vt,hlen,_,Vo⟩:=Vo;obtain⟨_,Vs⟩:=h.roots r;rw[gS Vt]at Vs;obtain⟨_,arr,T,fr,hh,a1,a2,a3⟩:=Vs
     have hj:j<ls.length:=by
      rcases hQ j ls.length with hj|hj
      ·exact hj
      ·rw[A3 _ (by rw[BG];exact hj)]at hl;cases hl
     have T3:W.cv r j=some (arr[j]'(by omega)):=by rw[a3 j];exact gp _
     have:=Vo s0.Bm j _ T3;rw[hl]at this;rcases this.1 with e|⟨_,g1,t1,e1,xs1,d1,VZ⟩
     ·omega
     ·exact h.init.1 r j g1 t1 e1 xs1 d1 VZ
   ·have Uy:=ha.root r hr;cases YO:has ms r with
    |true=>
     rw[CF,YO]at Uy;unfold St.leaf at hl;rw[Uy]at hl;cases j<;>cases hl
    |false=>
     have Uy:=F7 hk ha (CO YO) hr;exact h.init.1 r j gen t e xs d (by rw[←Ai Uy];exact hl)
  ·obtain⟨b1,b2,_⟩:=HC hk hp ha hb;exact h.init.2 r b1 (b2.trans Te)
end
end Go.Ev
namespace Go.Ev
section
variable {E:Cr}{cx:Cx}{N:Nat}{ms:List Nat}{ps:List VP}{s0 s1 σ:St}{tm:Array Value}{W:Wd}{TX:List (List Lv)}
structure Open(c:Cx)(ms:List Nat)(ps:List VP):Prop where
 m1:∀r∈ms,c.lock r=false∧c.E9 r=false
 p1:∀r∈ps.flatMap VP.roots,c.lock r=false
 p2:∀r∈ps.flatMap VP.AO,c.E9 r=false
theorem Mg(Uh:∀t∈ms,cx.lock t=false∧cx.E9 t=false)(hp:Cm cx ms ps=true):Open cx ms ps:=by
 simp only[Cm,gL]at hp;refine⟨Uh,fun r hr=>?_,fun r hr=>?_⟩
 ·obtain⟨p,hm,hr⟩:=gN.1 hr;have:=gY.1 hp.2 p hm;cases p with
  |slot u l=>simp[VP.roots]at hr
  |own u ty e d k=>simp[VP.roots]at hr;subst hr;simp only[gL,gW]at this;exact this.1.1
  |box q ls=>simp[VP.roots]at hr;subst hr;simp only[gL,gW]at this;exact this.1.2
 ·obtain⟨p,hm,hr⟩:=gN.1 hr;have:=gY.1 hp.2 p hm;cases p with
  |slot u l=>simp[VP.AO]at hr;subst hr;simpa using this
  |own u ty e d k=>simp[VP.AO]at hr;subst hr;simp only[gL,gW]at this;exact this.1.2
  |box q ls=>simp[VP.AO]at hr
theorem NY(h:Open cx ms ps):Open (cx.in ms ps) ms ps:=by
 refine⟨fun r hr=>?_,fun r hr=>?_,fun r hr=>?_⟩
 ·have:=h.m1 r hr;simp[Cx.in,this.1,this.2,(A8 ms r).2 hr]
 ·simp[Cx.in,h.p1 r hr,(A8 _ r).2 hr]
 ·simp[Cx.in,h.p2 r hr,(A8 _ r).2 hr]
theorem HE{c:Cx}(ho:Open c ms ps)(hk:Au (cx.in ms ps) s0 s1)(hp:Cm cx ms ps=true)(ha:F6 ms ps s0 s1 σ W tm (Eu W ps) TX)(WN:s0.Bm≤σ.Bm):Au c s0 σ where
 AO t ht:=by
  have n1:t∉ms:=fun hh=>by rw[(ho.m1 t hh).2]at ht;cases ht
  have n2:t∉ps.flatMap VP.AO:=fun hh=>by rw[ho.p2 t hh]at ht;cases ht
  rw[ha.slot t n2,GA,G0 n1];refine LN (fun r hr=>?_) (fun r hr=>?_) _
  ·simp only[gl]at hr;exact hr.elim (fun hr=>(ho.m1 r ((A8 _ _).1 hr)).2) fun hr=>ho.p2 r ((A8 _ _).1 hr)
  ·simp only[gl]at hr;exact hr.elim (fun hr=>(ho.m1 r ((A8 _ _).1 hr)).1) fun hr=>ho.p1 r ((A8 _ _).1 hr)
 roots r hr:=by
  have n1:r∉ms:=fun hh=>by rw[(ho.m1 r hh).1]at hr;cases hr
  have n2:r∉ps.flatMap VP.roots:=fun hh=>by rw[ho.p1 r hh]at hr;cases hr
  rw[ha.root r n2,CF,G0 n1];rfl
 box r hr:=by
  have n1:r∉ms:=fun hh=>by rw[(ho.m1 r hh).2]at hr;cases hr
  have n3:r∉ps.flatMap VP.AO:=fun hh=>by rw[ho.p2 r hh]at hr;cases hr
  by_cases n2:r∈ps.flatMap VP.roots
  ·obtain⟨p,hm,UI⟩:=gN.1 n2;obtain⟨vs,Vo,UZ⟩:=ha.get hm;cases p with
   |slot u l=>simp[VP.roots]at UI
   |own u ty e d k=>simp[VP.roots]at UI;subst UI;exact absurd (gN.2 ⟨_,hm,by simp[VP.AO]⟩) n3
   |box q ls=>
    simp[VP.roots]at UI;subst UI;have UZ:σ.root r=_:=UZ;obtain⟨b1,b2,b3⟩:=hk.box r (Hf n1 n3);rw[UZ];exact⟨Vo.1.symm.trans b1,rfl,(BG _ _ _).trans (Vo.2.1.trans b3)⟩
  ·rw[ha.root r n2,CF,G0 n1];exact⟨rfl,rfl,rfl⟩
 l1:=ha.l1
 l2:=ha.l2
 Bm:=WN
end
end Go.Ev
namespace Go.Ev
theorem J3(v m:Nat)(x:Lv):(∀n∈(BP v m x).AG,n=v)∧(BP v m x).Ca=true:=by
 obtain⟨l,x⟩:=x;cases l with
 |sl t e=>cases m with
  |zero=>exact⟨fun n hn=>by simp[BP,LA.AG]at hn,rfl⟩
  |succ m=>exact⟨fun n hn=>by simp[BP,LA.AG]at hn;exact hn,rfl⟩
 |_=>exact⟨fun n hn=>by simp[BP,LA.AG]at hn,rfl⟩
theorem Ik(v:Nat)(k:Bool):FQ v k=v∨FQ v k=1:=by cases k;exact .inl rfl;exact .inr rfl
theorem EW(v m:Nat)(k:Bool)(x:Lv):(∀n∈(CA v m k x).AG,n=v∨n=1)∧(CA v m k x).Ca=true:=by
 obtain⟨l,x⟩:=x;cases l with
 |sl t e=>cases m with
  |zero=>exact⟨(fun n hn=>by have hn:n∈([]:List Nat):=hn;cases hn),rfl⟩
  |succ m=>
   refine⟨fun n hn=>?_,rfl⟩;have hn:n∈[FQ v k,v]:=hn;simp at hn;rcases hn with rfl|rfl
   ·exact Ik _ _
   ·exact .inl rfl
 |_=>exact⟨(fun n hn=>by have hn:n∈([]:List Nat):=hn;cases hn),rfl⟩
theorem B1(v:Nat):∀(ls:List (Option (L×Nat))) (vs:List Lv),∀a∈AQ v ls vs,(∀n∈a.AG,n=v∨n=1)∧a.Ca=true
 | [],vs,a,h=>by cases h
 |none::ls,vs,a,h=>by
  rcases gj.1 (show a∈.bad::AQ v ls vs from h)with rfl|h
  ·exact⟨(fun n hn=>by cases hn),rfl⟩
  ·exact B1 v ls vs a h
 |some (l,d)::ls,[],a,h=>by
  rcases gj.1 (show a∈.bad::AQ v ls []from h)with rfl|h
  ·exact⟨(fun n hn=>by cases hn),rfl⟩
  ·exact B1 v ls [] a h
 |some (l,d)::ls,x::vs,a,h=>by
  rcases gj.1 (show a∈CA v d (d==3) x::AQ v ls vs from h)with rfl|h
  ·exact EW v d _ x
  ·exact B1 v ls vs a h
section
variable {E:Cr}{cx:Cx}{N:Nat}{ms:List Nat}{ps:List VP}{s0 s1 σ:St}{tm:Array Value}{W:Wd}{TX:List (List Lv)}
theorem L6(i0:Inv N s0)(ha:F6 ms ps s0 s1 σ W tm (Eu W ps) TX)(WN:σ.Bm=s0.Bm+1):Inv N σ where
 AG:=by
  rw[WN];refine⟨fun t n hn=>?_,fun r n hn=>?_⟩
  ·by_cases ht:t∈ps.flatMap VP.AO
   ·obtain⟨p,hm,ht⟩:=gN.1 ht;obtain⟨vs,Vo,UZ⟩:=ha.get hm;cases p with
    |slot u l=>
     simp[VP.AO]at ht;subst ht;obtain⟨_,x,rfl,hr⟩:=Vo;rw[UZ _ rfl]at hn;simp[one,AV.AG,LA.AG]at hn
    |own u ty e d k=>
     simp[VP.AO]at ht;subst ht;obtain⟨_,xs,rfl,_⟩:=Vo;rw[(UZ _ rfl).1]at hn;have:=Ik s0.Bm k;have:=i0.two;simp[one,AV.AG,LA.AG]at hn;omega
    |box r ls=>simp[VP.AO]at ht
   ·rw[ha.slot t ht,GA]at hn;split at hn
    ·simp[one,AV.AG,LA.AG]at hn
    ·have:=i0.AG.1 t n (KR _ _ _ n hn);omega
  ·by_cases hr:r∈ps.flatMap VP.roots
   ·obtain⟨p,hm,hr⟩:=gN.1 hr;obtain⟨vs,Vo,UZ⟩:=ha.get hm;cases p with
    |slot u l=>simp[VP.roots]at hr
    |own u ty e d k=>
     simp[VP.roots]at hr;subst hr;obtain⟨_,xs,rfl,_⟩:=Vo;rw[(UZ _ rfl).2]at hn;rcases gj.1 hn with hn|hn
     ·have hn:n=s0.Bm:=hn;omega
     ·obtain⟨a,YY,hn⟩:=gN.1 hn;simp at YY;subst YY;have:=(EW _ _ _ _).1 n hn;have:=i0.two;omega
    |box q ls=>
     simp[VP.roots]at hr;subst hr;have UZ:σ.root r=_:=UZ;rw[UZ]at hn;rcases gj.1 hn with hn|hn
     ·have hn:n=(s0.root r).AA:=hn;have:=i0.AG.2 r n (by rw[hn];exact gi);omega
     ·obtain⟨a,YY,hn⟩:=gN.1 hn;have:=(B1 _ _ _ a YY).1 n hn;have:=i0.two;omega
   ·rw[ha.root r hr,CF]at hn;split at hn
    ·simp[dead,Bl.AG]at hn;omega
    ·have:=i0.AG.2 r n hn;omega
 two:=by have:=i0.two;omega
 len:=ha.l1.trans i0.len
 BW:=ha.l2.trans i0.BW
 Li:=by
  intro r a U5;by_cases hr:r∈ps.flatMap VP.roots
  ·obtain⟨p,hm,hr⟩:=gN.1 hr;obtain⟨vs,Vo,UZ⟩:=ha.get hm;cases p with
   |slot u l=>simp[VP.roots]at hr
   |own u ty e d k=>
    simp[VP.roots]at hr;subst hr;obtain⟨_,xs,rfl,_⟩:=Vo;rw[(UZ _ rfl).2]at U5;simp at U5;subst U5;exact(EW _ _ _ _).2
   |box q ls=>
    simp[VP.roots]at hr;subst hr;have UZ:σ.root r=_:=UZ;rw[UZ]at U5;exact(B1 _ _ _ a U5).2
  ·rw[ha.root r hr,CF]at U5;split at U5
   ·cases U5
   ·exact i0.Li r a U5
theorem LO(x:(DD ps).D):(Bv ms ps s0 x).Bm=s0.Bm+1:=by unfold Bv;rw[Iz];rfl
theorem Dk{x:(DD ps).D}(h1:AU E s1 tm W)(i1:Bb s1)(i0:Inv N s0)(hk:Au (cx.in ms ps) s0 s1)(Uh:∀t∈ms,cx.lock t=false∧cx.E9 t=false)(hp:Cm cx ms ps=true)(hx:As ps s1=some x):
  ∃W',W'.w=W.w∧AU E (Bv ms ps s0 x) tm W'∧Inv N (Bv ms ps s0 x)∧Au cx s0 (Bv ms ps s0 x)∧Au (cx.in ms ps) s0 (Bv ms ps s0 x):=by
 obtain⟨TX,ha⟩:=M6 (N:=N) h1 i1 hk hp hx;have hc:=LO (ms:=ms) (s0:=s0) x;have ho:=Mg Uh hp;exact⟨C0 (Bv ms ps s0 x) W ps,rfl,L7 h1 i1 i0.two hk hp ha,L6 i0 ha hc,HE ho hk hp ha (by omega),HE (NY ho) hk hp ha (by omega)⟩
end
end Go.Ev
namespace Go.Ev
section
variable {P:Program}{E:Cr}{cx:Cx}{N:Nat}{s:St}{W:Wd}{a:Act}{Q:Exit→Act→World→Prop}
theorem NC{n:Nat}{tm:Array Value}(h:AU E s tm W):AU E { s with Bm:=n } tm W where
 DG:=h.DG
 BW:=h.BW
 AO t:=BQ.map (fun b hb=>⟨hb,rfl⟩) (fun a v hv=>by cases a<;>exact hv) (h.AO t)
 roots r:=by
  obtain⟨q1,q2⟩:=h.roots r;exact⟨fun j=>(q1 j).map (fun a v hv=>by cases a<;>exact hv) fun _ _ _ _ hr=>hr,q2⟩
 sep:=h.sep
 init:=h.init
theorem Mh(hc:DV P cx)(Tu:DH P E cx.env)(hm:P.follows .mixedOrders=true){id:Nat}{ops:Array Oper}{draw:Bool}{R:Type}{k:St→Option R}{x:R}(To:codeOk N (.region id ops draw)=true)(cR:∀o∈ops.toList,∀d,o.dst=some d→cx.E9 d=false)
  (TY:AU E s a.tmps W) (hinv:Inv N s) (he:EO cx ⟨ops,s.Bm,draw⟩ (number 0 ops.toList) (Et ops.toList []) [] s k=some x)
  (hK:∀s' a' W',a'.defers=a.defers→AU E s' a'.tmps W'→Au cx s s'→Bb s'→BR s' (· < s.Bm+ops.size)→k s'=some x→Q .normal a' W'.w):(Code.region id ops draw).wp P Q a W.w:=by
 obtain⟨tr,ht,hlen,hk⟩:=EP ops.toList 0 [] s he;simp only[codeOk,gL]at To;obtain⟨hE,VW⟩:=To
 have hd:∀o∈ops.toList,∀d,o.dst=some d→d<s.sl.length:=by intro o ho d hd;have:=gY.1 VW o ho;rw[hd]at this;rw[hinv.len];simpa using this
 obtain⟨Z7,cN⟩:=Gg ops.toList 0 [] s tr ht cR hinv.Li
 have Z0:∀a' W',a'.defers=a.defers→AU E (AK (fun _=>true) 0 tr s) a'.tmps W'→BR (AK (fun _=>true) 0 tr s) (pA s.Bm (· < ops.size))→Q .normal a' W'.w:=fun a' W' h1 h2 h3=>
  hK _ a' W' h1 h2 Z7 cN (h3.mono fun n hn=>by
   rcases hn with hn|⟨j,hj,e⟩
   ·omega
   ·have:j<ops.size:=hj;omega) hk
 have h2:=hinv.two;cases draw with
 |false=>
  refine wp_region ?_
  have:=Mn (g:=⟨ops,s.Bm,false⟩) (bs:=Et ops.toList []) (Q:=Q) hc Tu (show 1<s.Bm by omega) (fun i j hi hj=>by
   have hi:i<ops.size:=hi
   exact Iq (ops:=ops) hE (A:=(· < i)) (fun k o hk ho e he hb=>by
     have:=Ck ops.toList 0 hE k o (by simpa using ho) e he hb;have hk:k<i:=hk;show e.on<i;omega) (fun k hk=>Nat.lt_trans hk hi) (i:=i) (o:=ops[i]) (by simp[hi]) (fun e he hb=>by
     have:=Ck ops.toList 0 hE i ops[i] (by simp[hi]) e he hb;show e.on<i;omega) j hj) ops.toList 0 [] s tr a W ht (fun k o hk=>by simpa using hk) TY (hinv.AG.mono fun n hn=>.inl hn) hd (fun a' W' q1 q2 q3=>Z0 a' W' q1 q2 (by simpa using q3))
  have e:List.range ops.size=List.range' 0 ops.toList.length:=by rw[List.range_eq_range'];simp
  rw[e];exact this
 |true=>
  refine wp_region_any hm ?_
  have VM:∀(tr:List (Nat×List Wr)) (i:Nat) (s:St),AK (fun i=>(Array.replicate ops.size false).getD i false) i tr s=s:=by
   intro tr
   induction tr with
   |nil=>intro i s;rfl
   |cons y tr ih=>
    intro i s;simp only[AK]
    have:(Array.replicate ops.size false).getD i false=false:=by
     rw[gq,Array.getElem?_replicate];split<;>rfl
    rw[this];exact ih (i+1) s
  have aR:AU E s a.tmps { W with w:={ W.w with drawn:=W.w.drawn+1 } }:=TY.world (fun _ _=>rfl) (fun _ _ _=>rfl) (gk _) ⟨rfl,rfl,rfl⟩
  exact Nx (g:=⟨ops,s.Bm,true⟩) (Q:=Q) hc Tu (show 1<s.Bm by omega) hE rfl ht (by simpa using hlen) hinv.AG hd Z0 ops.size (Array.replicate ops.size false) a { W with w:={ W.w with drawn:=W.w.drawn+1 } } (by simp) (by simp) rfl
   (by rw[VM];exact aR) (by rw[VM];exact hinv.AG.mono fun n hn=>.inl hn) (fun i o hi=>by
    rw[gq,Array.getElem?_replicate]at hi;split at hi<;>cases hi)
end
end Go.Ev
namespace Go.Ev
section
variable {P:Program}{E:Cr}{cx:Cx}{N:Nat}{s:St}{W:Wd}{a:Act}{Q:Exit→Act→World→Prop}
theorem HT:∀(os:List Oper)(i:Nat)(o:Oper)(d:Nat),o∈os→o.dst=some d→d∈Gp (number i os)
 | [],i,o,d,h,_=>by cases h
 |x::os,i,o,d,h,hd=>by
  simp only[number,Gp];rcases gj.1 h with rfl|h
  ·rw[hd];exact gi
  ·have:=HT os (i+1) o d h hd;cases x.dst with
   |none=>exact this
   |some y=>exact gO _ this
theorem LU{s':St}{n:Nat}(h:Au cx s s')(hn:s.Bm≤n):Au cx s { s' with Bm:=n }:=⟨h.AO,h.roots,h.box,h.l1,h.l2,hn⟩
theorem H2{an:An}(hc:DV P cx)(Tu:DH P E cx.env)(hm:P.follows .mixedOrders=true){id:Nat}{ops:Array Oper}{draw:Bool}{R:Type}{k:St→Option R}{x:R}(To:codeOk N (.region id ops draw)=true)
  (Uh:∀t∈CC (.region id ops draw),cx.lock t=false∧cx.E9 t=false) (TY:AU E s a.tmps W) (hinv:Inv N s) (he:El cx an id ops draw s k=some x)
  (hK:∀s' a' W',a'.defers=a.defers→AU E s' a'.tmps W'→Inv N s'→Au cx s s'→k s'=some x→Q .normal a' W'.w):(Code.region id ops draw).wp P Q a W.w:=by
 unfold El at he;dsimp only at he;split at he
 ·refine Mh hc Tu hm To (fun o ho d hd=>(Uh d (HT _ _ o d ho hd)).2) TY hinv he fun s' a' W' q1 q2 q3 q4 q5 q6=>?_;exact hK { s' with Bm:=s.Bm+ops.size } a' W' q1 (NC q2) ⟨q5,by have:=hinv.two;show 2≤s.Bm+ops.size;omega,q3.l1.trans hinv.len,q3.l2.trans hinv.BW,q4⟩ (LU q3 (by omega)) q6
 ·have he:(fun ps:List VP=>if Cm cx (Gp (number 0 ops.toList)) ps then(EO (cx.in (Gp (number 0 ops.toList)) ps) ⟨ops,s.Bm,draw⟩ (number 0 ops.toList) (Et ops.toList []) [] s (As ps)).bind fun x=>k (Bv (Gp (number 0 ops.toList)) ps s x)else none) (match an.O9 id with
   |some p=>p
   |none=>JA ops.toList)=some x:=he
  generalize (match an.O9 id with
   |some p=>p
   |none=>JA ops.toList)=ps at he
  dsimp only at he;split at he
  ·rename_i cK;cases hq:EO (cx.in (Gp (number 0 ops.toList)) ps) ⟨ops,s.Bm,draw⟩ (number 0 ops.toList) (Et ops.toList []) [] s (As ps)with
   |none=>rw[hq]at he;cases he
   |some y=>
    rw[hq]at he;have he:k (Bv (Gp (number 0 ops.toList)) ps s y)=some x:=he;have XJ:DV P (cx.in (Gp (number 0 ops.toList)) ps):=hc;refine Mh XJ Tu hm To (fun o ho d hd=>?_) TY hinv hq fun s' a' W' q1 q2 q3 q4 q5 q6=>?_
    ·have V7:=HT ops.toList 0 o d ho hd;have h1:cx.E9 d=false:=(Uh d V7).2;simp[Cx.in,h1,(A8 _ d).2 V7]
    ·obtain⟨W2,w2,r2,i2,k2,_⟩:=Dk (N:=N) q2 q4 hinv q3 (fun t ht=>Uh t ht) cK q6;rw[←w2];exact hK _ a' W2 q1 r2 i2 k2 he
  ·cases he
theorem Jp{rs:List Nat}{s':St}{W':Wd}(fr:JV s s' W W' rs)(Uh:∀r∈rs,cx.lock r=false)(T4:∀r,r∉rs→s'.root r=s.root r)(WN:s'.Bm=s.Bm):Au cx s s' where
 AO t _:=by
  have:s'.slot t=s.slot t:=by show nth _ s'.sl t=_;rw[fr.same.sl];rfl
  rw[this];exact .same _
 roots r hr:=T4 r fun hm=>by rw[Uh r hm]at hr;cases hr
 box r _:=fr.same.box r
 l1:=by rw[fr.same.sl]
 l2:=fr.same.len
 Bm:=by rw[WN];exact gk _
theorem Gh(r:Nat):∀(as:List LA)(j:Nat)(s:St),(s.app (BA r j as)).Bm=s.Bm∧∀x,x≠r→(s.app (BA r j as)).root x=s.root x
 | [],j,s=>⟨rfl,fun _ _=>rfl⟩
 |a::as,j,s=>by obtain⟨h1,h2⟩:=Gh r as (j+1) (s.AF (.leaf r j a));refine⟨h1,fun x hx=>(h2 x hx).trans ?_⟩;show nth _ (CV s.ro r _) x=_;rw[Ay,gT fun hh=>hx hh.1.symm];rfl
theorem Fg:∀ {rs:List Nat} {ws:List Wr} (s0 s:St),Aw cx s0 rs=some ws→(s.app ws).Bm=s.Bm∧∀x,x∉rs→(s.app ws).root x=s.root x
 | [],ws,s0,s,h=>by injection h with h;subst h;exact⟨rfl,fun _ _=>rfl⟩
 |r::rs,ws,s0,s,h=>by
  simp only[Aw]at h;split at h
  ·cases h
  ·split at h
   ·rename_i VH WD;injection h with h;subst h
    rw[BC]
    obtain⟨a1,a2⟩:(s.app (C5 s0 r)).Bm=s.Bm∧∀x,x≠r→(s.app (C5 s0 r)).root x=s.root x:=by
     unfold C5;split
     ·exact⟨rfl,fun _ _=>rfl⟩
     ·exact Gh r ((s0.root r).ls.map BE) 0 s
    obtain⟨b1,b2⟩:=Fg s0 (s.app (C5 s0 r)) WD;exact⟨b1.trans a1,fun x hx=>(b2 x fun hm=>hx (gO _ hm)).trans (a2 x fun e=>hx (e▸gi))⟩
   ·cases h
theorem I5(a:LA):(BE a).AG=a.AG:=by cases a<;>rfl
theorem KS(a:LA)(h:a.Ca=true):(BE a).Ca=true:=by cases a<;>first|exact h|rfl
theorem Hi(r:Nat):∀(as:List LA)(j:Nat)(s:St)(x:Nat),∀a∈((s.app (BA r j as)).root x).ls,a∈(s.root x).ls∨(x=r∧a∈as)
 | [],j,s,x,a,h=>.inl h
 |b::as,j,s,x,a,h=>by
  rcases Hi r as (j+1) (s.AF (.leaf r j b)) x a h with h|⟨h1,h2⟩
  ·have T4:(s.AF (.leaf r j b)).root x=if r=x∧r<s.ro.length then { s.root r with ls:=CV (s.root r).ls j b }else s.root x:=Ay _ _ _ _ _
   rw[T4]at h;split at h
   ·rename_i hx;have h:a∈CV (s.root r).ls j b:=h;rw[Bf]at h;rcases iP h with h|h
    ·rw[←hx.1];exact .inl h
    ·exact .inr ⟨hx.1.symm,by rw[h];exact gi⟩
   ·exact .inl h
  ·exact .inr ⟨h1,gO _ h2⟩
theorem FJ:∀ {rs:List Nat} {ws:List Wr} (s0 s:St),Aw cx s0 rs=some ws→∀(x:Nat),∀a∈((s.app ws).root x).ls,a∈(s.root x).ls∨∃b∈(s0.root x).ls,a=BE b
 | [],ws,s0,s,h,x,a,ha=>by injection h with h;subst h;exact .inl ha
 |r::rs,ws,s0,s,h,x,a,ha=>by
  simp only[Aw]at h;split at h
  ·cases h
  ·split at h
   ·rename_i VH WD;injection h with h;subst h
    rw[BC]at ha;rcases FJ s0 _ WD x a ha with ha|ha
    ·unfold C5 at ha;split at ha
     ·exact .inl ha
     rcases Hi r _ 0 s x a ha with ha|⟨h1,h2⟩
     ·exact .inl ha
     ·subst h1;obtain⟨b,hb,e⟩:=hR.1 h2;exact .inr ⟨b,hb,e.symm⟩
    ·exact .inr ha
   ·cases h
theorem Jw(r:Nat):∀(as:List LA)(j:Nat)(s:St)(x:Nat),((s.app (BA r j as)).root x).AA=(s.root x).AA
 | [],j,s,x=>rfl
 |b::as,j,s,x=>by refine(Jw r as (j+1) (s.AF (.leaf r j b)) x).trans ?_;exact((BF s r j b).box x).2.1
theorem Lh{an:An}(hc:DV P cx)(Tu:DH P E cx.env)(hm:P.follows .mixedOrders=true){id:Nat}{ops:Array Oper}{draw:Bool}{R:Type}{k:St→Option R}{x:R}(To:codeOk N (.region id ops draw)=true)
  (Uh:∀t∈CC (.region id ops draw),cx.lock t=false∧cx.E9 t=false) (TY:AU E s a.tmps W) (hinv:Inv N s) (he:HX cx an id ops draw s k=some x)
  (hK:∀s' a' W',a'.defers=a.defers→AU E s' a'.tmps W'→Inv N s'→Au cx s s'→k s'=some x→Q .normal a' W'.w):(Code.region id ops draw).wp P Q a W.w:=by
 unfold HX at he;split at he
 ·exact H2 hc Tu hm To Uh TY hinv he hK
 ·rename_i r rs _;split at he
  ·rename_i UN;split at he
   ·rename_i fs VR;have aH:Ac s s.Bm:=hinv.AG.Hp (v:=s.Bm) (Nat.lt_irrefl _) (by have:=hinv.two;omega);obtain⟨W1,XQ,fr,_⟩:=Em TY aH VR;obtain⟨c1,c2⟩:=Fg (cx:=cx) s s VR;have X4:Au cx s (s.app fs):=Jp fr (fun y hy=>by simpa using gY.1 UN y hy) c2 c1
    have Y4:Inv N (s.app fs):={
     AG:=by
      have hv:=hinv.AG;rw[c1];refine⟨fun t n hn=>?_,fun y n hn=>?_⟩
      ·have:(s.app fs).slot t=s.slot t:=by show nth _ (s.app fs).sl t=_;rw[fr.same.sl];rfl
       rw[this]at hn;exact hv.1 t n hn
      ·have Te:((s.app fs).root y).AA=(s.root y).AA:=(fr.same.box y).2.1;unfold Bl.AG at hn;rw[Te]at hn;rcases gj.1 hn with e|hn
       ·exact hv.2 y n (by unfold Bl.AG;rw[e];exact gi)
       ·obtain⟨b,hb,bO⟩:=gN.1 hn;rcases FJ (cx:=cx) s s VR y b hb with hb|⟨b0,W9,e⟩
        ·exact hv.2 y n (by unfold Bl.AG;exact gO _ (gN.2 ⟨b,hb,bO⟩))
        ·rw[e,I5]at bO;exact hv.2 y n (by unfold Bl.AG;exact gO _ (gN.2 ⟨b0,W9,bO⟩))
     two:=by rw[c1];exact hinv.two
     len:=X4.l1.trans hinv.len
     BW:=X4.l2.trans hinv.BW
     Li:=fun y b hb=>by
      rcases FJ (cx:=cx) s s VR y b hb with hb|⟨b0,W9,e⟩
      ·exact hinv.Li y b hb
      ·rw[e];exact KS b0 (hinv.Li y b0 W9) }
    rw[←fr.w];exact H2 hc Tu hm To Uh XQ Y4 he fun s' a' W' q1 q2 q3 q4 q5=>hK s' a' W' q1 q2 q3 (X4.trans q4) q5
   ·cases he
  ·cases he
end
end Go.Ev
namespace Go.Ev
section
variable {P:Program}{E:Cr}{N:Nat}
theorem GD{cx:Cx}{ms:List Nat}{ps:List VP}(h:∀t∈ms,cx.lock t=false∧cx.E9 t=false):∀t∈ms,(cx.in ms ps).lock t=false∧(cx.in ms ps).E9 t=false:=fun t ht=>by have:=h t ht;simp[Cx.in,this.1,this.2,(A8 ms t).2 ht]
def Claim(P:Program)(E:Cr)(N:Nat)(an:An)(n:Nat){RD:Type}(rp:St→Option RD)(c:Code):Prop:=∀ {R:Type} {cx:Cx} {s:St} {kn:St→Option R} {kx:Nat→St→Option R} {kr:RD→Option R} {x:R} {a:Act} {W:Wd} {Q:Exit→Act→World→Prop},
  DV P cx→DH P E cx.env→codeOk N c=true→(∀t∈CC c,cx.lock t=false∧cx.E9 t=false)→AU E s a.tmps W→Inv N s→ev an n rp c cx s kn kx kr=some x→
  (∀s' a' W',a'.defers=a.defers→AU E s' a'.tmps W'→Inv N s'→Au cx s s'→kn s'=some x→Q .normal a' W'.w)→
  (∀id s' a' W',a'.defers=a.defers→AU E s' a'.tmps W'→Inv N s'→Au cx s s'→kx id s'=some x→Q (.exit id) a' W'.w)→
  (∀y s' a' W',a'.defers=a.defers→AU E s' a'.tmps W'→Inv N s'→rp s'=some y→kr y=some x→Q .ret a' W'.w)→c.wp P Q a W.w
theorem Ks{an:An}{n:Nat}{RD:Type}{rp:St→Option RD}{c':Code}(ihb:Claim P E N an n rp c'){cx:Cx}{s:St}{ps:List VP}{id:Nat}{a0:Act}
  (hc:DV P cx) (Tu:DH P E cx.env) (To:codeOk N c'=true) (Uh:∀t∈CC c',cx.lock t=false∧cx.E9 t=false) (hinv:Inv N s) (hp:Cm cx (CC c') ps=true)
  {γ:Type} {g:(DD ps).D→γ} {ao:RD→Option ((DD ps).D⊕γ)} (hkr:∀r y,ao r=some (.inl y)→False) {q:γ} {Q:Exit→Act→World→Prop}
  (Zy:∀x' s' a' W',a'.defers=a0.defers→AU E s' a'.tmps W'→Inv N s'→Au (cx.in (CC c') ps) s s'→As ps s'=some x'→g x'=q→Q (.exit id) a' W'.w)
  (cM:∀y s' a' W',a'.defers=a0.defers→AU E s' a'.tmps W'→Inv N s'→rp s'=some y→ao y=some (.inr q)→Q .ret a' W'.w)
  {m:Nat} {x0:(DD ps).D} {a:Act} {W:Wd} {s1:St} (hd:a.defers=a0.defers) (TY:AU E s1 a.tmps W) (TW:Bb s1) (hk:Au (cx.in (CC c') ps) s s1) (hx:As ps s1=some x0)
  (hit:iter (α:=(DD ps).D) (γ:=γ) m (fun x=>ev an n rp c' (cx.in (CC c') ps) (Bv (CC c') ps s x) (fun s=>(As ps s).bind fun x=>some (.inl x)) (fun i s=>if i==id then(As ps s).bind fun x=>some (.inr (g x))else none) ao) x0=some q):
  (Code.loop c').wp P Q a W.w:=by
 refine wp_loop_ghost (fun k a w=>∃(W:Wd) (s1:St) (x:(DD ps).D),W.w=w∧a.defers=a0.defers∧AU E s1 a.tmps W∧Bb s1∧Au (cx.in (CC c') ps) s s1∧As ps s1=some x∧
  iter (α:=(DD ps).D) (γ:=γ) k (fun x=>ev an n rp c' (cx.in (CC c') ps) (Bv (CC c') ps s x) (fun s=>(As ps s).bind fun x=>some (.inl x)) (fun i s=>if i==id then(As ps s).bind fun x=>some (.inr (g x))else none) ao) x=some q) m
  ⟨W,s1,x0,rfl,hd,TY,TW,hk,hx,hit⟩ ?_
 rintro k a w ⟨W,s1,x,rfl,hd,TY,TW,hk,hx,hit⟩
 cases k with
 |zero=>cases hit
 |succ k=>
  simp only[iter]at hit;obtain⟨W2,w2,r2,i2,k2,k3⟩:=Dk (N:=N) TY TW hinv hk Uh hp hx;cases hq:ev an n rp c' (R:=(DD ps).D⊕γ) (cx.in (CC c') ps) (Bv (CC c') ps s x) (fun s=>(As ps s).bind fun x=>some (.inl x)) (fun i s=>if i==id then(As ps s).bind fun x=>some (.inr (g x))else none) ao with
  |none=>grind
  |some y=>
   rw[hq]at hit;rw[←w2];have XJ:DV P (cx.in (CC c') ps):=hc;refine ihb XJ Tu To (GD Uh) r2 i2 hq (fun s3 a3 W3 q1 q2 q3 q4 q5=>?_) (fun i s3 a3 W3 q1 q2 q3 q4 q5=>?_) (fun z s3 a3 W3 q1 q2 q3 q4 q5=>?_)
   ·cases WK:As ps s3 with
    |none=>grind
    |some z=>
     rw[WK]at q5;injection q5 with q5
     subst q5;exact⟨k,Nat.lt_succ_self k,W3,s3,z,rfl,q1.trans hd,q2,q3.Li,k3.trans q4,WK,hit⟩
   ·split at q5
    ·rename_i hi;have hi:i=id:=by simpa using hi
     subst hi;cases WK:As ps s3 with
     |none=>grind
     |some z=>
      rw[WK]at q5;injection q5 with q5
      subst q5;injection hit with hit
      exact Zy z s3 a3 W3 (q1.trans hd) q2 q3 (k3.trans q4) WK hit
    ·cases q5
   ·cases y with
    |inl y=>grind
    |inr y=>
     injection hit with hit
     subst hit;exact cM z s3 a3 W3 (q1.trans hd) q2 q3 q4 q5
theorem NG{an:An}{n:Nat}{RD:Type}{rp:St→Option RD}(hm:P.follows .mixedOrders=true):∀(c:Code),Claim P E N an n rp c∧∀c',c=.loop c'→Claim P E N an n rp c':=by
 intro c
 induction c with
 |skip=>
  refine⟨?_,fun c' e=>by cases e⟩;intro R cx s kn kx kr x a W Q hc Tu To Uh TY hinv he hn hx hr;exact wp_skip (hn s a W rfl TY hinv (Au.refl _ _) he)
 |region id ops draw=>
  refine⟨?_,fun c' e=>by cases e⟩;intro R cx s kn kx kr x a W Q hc Tu To Uh TY hinv he hn hx hr;exact Lh hc Tu hm To Uh TY hinv he hn
 |seq b c ihb ihc=>
  refine⟨?_,fun c' e=>by cases e⟩;intro R cx s kn kx kr x a W Q hc Tu To Uh TY hinv he hn hx hr;simp only[codeOk,gL]at To;have XM:∀t∈CC b,cx.lock t=false∧cx.E9 t=false:=fun t ht=>Uh t (gX _ ht);have br:∀t∈CC c,cx.lock t=false∧cx.E9 t=false:=fun t ht=>Uh t (gU _ ht);refine wp_seq ?_
  have next:∀ {s1:St} {a1:Act} {W1:Wd},a1.defers=a.defers→AU E s1 a1.tmps W1→Inv N s1→Au cx s s1→ev an n rp c cx s1 kn kx kr=some x→c.wp P Q a1 W1.w:=fun ZU XQ Y4 X4 dp=>
   ihc.1 hc Tu To.2 br XQ Y4 dp (fun s2 a2 W2 q1 q2 q3 q4 q5=>hn s2 a2 W2 (q1.trans ZU) q2 q3 (X4.trans q4) q5) (fun i s2 a2 W2 q1 q2 q3 q4 q5=>hx i s2 a2 W2 (q1.trans ZU) q2 q3 (X4.trans q4) q5)
    (fun y s2 a2 W2 q1 q2 q3 q4 q5=>hr y s2 a2 W2 (q1.trans ZU) q2 q3 q4 q5)
  simp only[ev]at he;split at he
  ·exact ihb.1 hc Tu To.1 XM TY hinv he (fun s1 a1 W1 q1 q2 q3 q4 q5=>next q1 q2 q3 q4 q5) hx hr
  ·rename_i ps rets hj;split at he
   ·rename_i hp;have XJ:DV P (cx.in (CC b) ps):=hc;cases rets with
    |false=>
     dsimp only at he;cases hq:ev an n rp b (R:=(DD ps).D) (cx.in (CC b) ps) s (As ps) (fun _ _=>none) (fun _=>none)with
     |none=>grind
     |some y=>
      rw[hq]at he;refine ihb.1 XJ Tu To.1 (GD XM) TY hinv hq (fun s1 a1 W1 q1 q2 q3 q4 q5=>?_) (fun _ _ _ _ _ _ _ _ q=>by cases q) (fun _ _ _ _ _ _ _ _ q=>by cases q);obtain⟨W2,w2,r2,i2,k2,_⟩:=Dk (N:=N) q2 q3.Li hinv q4 XM hp q5;show c.wp P Q a1 W1.w;grind
    |true=>
     dsimp only at he;cases hq:ev an n rp b (R:=(DD ps).D⊕RD) (cx.in (CC b) ps) s (fun s=>(As ps s).bind fun x=>some (.inl x)) (fun _ _=>none) (fun r=>some (.inr r))with
     |none=>grind
     |some y=>
      rw[hq]at he;refine ihb.1 XJ Tu To.1 (GD XM) TY hinv hq (fun s1 a1 W1 q1 q2 q3 q4 q5=>?_) (fun _ _ _ _ _ _ _ _ q=>by cases q) (fun y' s1 a1 W1 q1 q2 q3 q4 q5=>?_)
      ·cases WK:As ps s1 with
       |none=>grind
       |some z=>
        rw[WK]at q5;injection q5 with q5
        subst q5;obtain⟨W2,w2,r2,i2,k2,_⟩:=Dk (N:=N) q2 q3.Li hinv q4 XM hp WK;show c.wp P Q a1 W1.w;grind
      ·injection q5 with q5
       subst q5;exact hr y' s1 a1 W1 q1 q2 q3 q4 he
   ·cases he
 |cond o b c ihb ihc=>
  refine⟨?_,fun c' e=>by cases e⟩;intro R cx s kn kx kr x a W Q hc Tu To Uh TY hinv he hn hx hr;simp only[codeOk,gL]at To;have XM:∀t∈CC b,cx.lock t=false∧cx.E9 t=false:=fun t ht=>Uh t (gX _ ht);have br:∀t∈CC c,cx.lock t=false∧cx.E9 t=false:=fun t ht=>Uh t (gU _ ht);have h1:=Ae TY o;simp only[ev]at he;split at he
  ·rename_i t hq;rw[hq]at h1;have h1:a.eval o=.bool t:=h1.1;refine wp_cond h1 ?_;cases t with
   |true=>exact ihb.1 hc Tu To.1 XM TY hinv he hn hx hr
   |false=>exact ihc.1 hc Tu To.2 br TY hinv he hn hx hr
  ·cases he
 |block id c ih=>
  refine⟨?_,fun c' e=>by cases e⟩;intro R cx s kn kx kr x a W Q hc Tu To Uh TY hinv he hn hx hr;simp only[ev]at he;cases hb:an.AS id with
  |none=>
   rw[hb]at he;refine wp_block (ih.1 hc Tu To Uh TY hinv he hn (fun i s' a' W' q1 q2 q3 q4 q5=>?_) hr);show(if i=id then Q .normal a' W'.w else Q (.exit i) a' W'.w);grind
  |some p=>
   obtain⟨ps,rets⟩:=p;rw[hb]at he;dsimp only at he;split at he
   ·rename_i c';have ihb:Claim P E N an n rp c':=ih.2 c' rfl;have To:codeOk N c'=true:=To;have Uh:∀t∈CC c',cx.lock t=false∧cx.E9 t=false:=Uh;split at he
    ·rename_i hp;refine wp_block ?_;cases rets with
     |false=>
      dsimp only at he;cases WK:As ps s with
      |none=>grind
      |some x0=>
       rw[WK]at he;simp only[Option.bind_some]at he;obtain⟨q,hq,he⟩:=ig.1 he;refine Ks (g:=fun x=>x) ihb hc Tu To Uh hinv hp (fun _ _ q=>by cases q) (fun x' s' a' W' q1 q2 q3 q4 q5 q6=>?_) (fun _ _ _ _ _ _ _ _ q=>by cases q) rfl TY hinv.Li (Au.refl _ _) WK hq;subst q6;obtain⟨W2,w2,r2,i2,k2,_⟩:=Dk (N:=N) q2 q3.Li hinv q4 Uh hp q5;show(if id=id then Q .normal a' W'.w else Q (.exit id) a' W'.w);grind
     |true=>
      dsimp only at he;cases WK:As ps s with
      |none=>grind
      |some x0=>
       rw[WK]at he;simp only[Option.bind_some]at he;obtain⟨q,hq,he⟩:=ig.1 he;refine Ks (g:=fun x=>(.inl x:(DD ps).D⊕RD)) ihb hc Tu To Uh hinv hp (fun _ _ q=>by cases q) (fun x' s' a' W' q1 q2 q3 q4 q5 q6=>?_) (fun y s' a' W' q1 q2 q3 q4 q5=>?_) rfl TY hinv.Li (Au.refl _ _) WK hq
       ·subst q6;obtain⟨W2,w2,r2,i2,k2,_⟩:=Dk (N:=N) q2 q3.Li hinv q4 Uh hp q5;show(if id=id then Q .normal a' W'.w else Q (.exit id) a' W'.w);grind
       ·injection q5 with q5
        injection q5 with q5
        subst q5;exact hr y s' a' W' q1 q2 q3 q4 he
    ·cases he
   ·cases he
 |exit id=>
  refine⟨?_,fun c' e=>by cases e⟩;intro R cx s kn kx kr x a W Q hc Tu To Uh TY hinv he hn hx hr;exact wp_exit (hx id s a W rfl TY hinv (Au.refl _ _) he)
 |ret=>
  refine⟨?_,fun c' e=>by cases e⟩;intro R cx s kn kx kr x a W Q hc Tu To Uh TY hinv he hn hx hr;simp only[ev]at he;cases hq:rp s with
  |none=>grind
  |some y=>rw[hq]at he;exact wp_ret (hr y s a W rfl TY hinv hq he)
 |loop c ih=>
  refine⟨?_,fun c' e=>by grind⟩;intro R cx s kn kx kr x a W Q hc Tu To Uh TY hinv he hn hx hr;simp only[ev]at he;cases he
 |_=>
  refine⟨?_,fun c' e=>by cases e⟩;intro R cx s kn kx kr x a W Q hc Tu To Uh TY hinv he hn hx hr;simp only[ev]at he;cases he
end
end Go.Ev
namespace Go.Ev
inductive BL(W:Wd):List (Nat×Nat)→List (Nat×Nat)→List (List Nat)→Prop
 |nil (us):BL W us us []
 |skip {us Uq os} (h:BL W us Uq os):BL W us Uq ([]::os)
 |take {us Uq os u o} (hu:u∉us) (hs:∀b∈o,b∈W.om (.lf u.1 u.2)) (hn:o.Nodup) (h:BL W (u::us) Uq os):BL W us Uq (o::os)
section
variable {P:Program}{E:Cr}{s:St}{W:Wd}{tm:Array Value}{β:Type}{t:β}
theorem BL.append{us us1 us2:List (Nat×Nat)}{xs ys:List (List Nat)}(h1:BL W us us1 xs)(h2:BL W us1 us2 ys):BL W us us2 (xs++ys):=by
 induction h1 with
 |nil=>exact h2
 |skip h ih=>exact .skip (ih h2)
 |take hu hs hn h ih=>exact .take hu hs hn (ih h2)
theorem BL.sub{us Uq:List (Nat×Nat)}{os:List (List Nat)}(h:BL W us Uq os):∀u∈us,u∈Uq:=by
 induction h with
 |nil=>grind
 |skip h ih=>exact ih
 |take hu hs hn h ih=>grind
theorem BL.mem{us Uq:List (Nat×Nat)}{os:List (List Nat)}(h:BL W us Uq os):∀o∈os,∀b∈o,∃u,u∉us∧b∈W.om (.lf u.1 u.2):=by
 induction h with
 |nil=>grind
 |skip h ih=>
  grind
 |take hu hs hn h ih=>
  grind
theorem BL.nodup{us Uq:List (Nat×Nat)}{os:List (List Nat)}(h:BL W us Uq os):∀o∈os,o.Nodup:=by
 induction h with
 |nil=>grind
 |skip h ih=>
  grind
 |take hu hs hn h ih=>
  grind
def FA(a b:List Nat):Prop:=∀x∈a,x∉b
theorem FA.symm{a b:List Nat}(h:FA a b):FA b a:=fun x hx hy=>h x hy hx
theorem BL.pair(hd:∀k k',k≠k'→∀b∈W.om k,b∉W.om k'){us Uq:List (Nat×Nat)}{os:List (List Nat)}(h:BL W us Uq os):os.Pairwise FA:=by
 induction h with
 |nil=>exact .nil
 |skip h ih=>exact .cons (fun a _ x hx=>by cases hx) ih
 | @take us Uq os u o hu hs hn h ih=>
  refine .cons (fun a ha x hx bG=>?_) ih;obtain⟨u',h1,h2⟩:=h.mem a ha x bG;grind
theorem JJ{α:Type}{R:α→α→Prop}(hs:∀a b,R a b→R b a){l:List α}(h:l.Pairwise R){i j:Nat}{a b:α}(X3:i≠j)(hi:l[i]?=some a)(hj:l[j]?=some b):R a b:=by
 obtain⟨h1,rfl⟩:=gM.1 hi;obtain⟨h2,rfl⟩:=gM.1 hj;rcases iZ X3 with Tc|Tc
 ·exact ic.1 h i j h1 h2 Tc
 ·exact hs _ _ (ic.1 h j i h2 h1 Tc)
theorem EJ(h:AU E s tm W){us:List (Nat×Nat)}{l:L}{m:Nat}{a:LA}{v:Value}{k:Lv→List (Nat×Nat)→Step β}(hv:AP s W a v)(hl:(Fb s us l m a k).leads t):
  ∃(x:l.D) (Uq:List (Nat×Nat)) (o:List Nat),(k ⟨l,x⟩ Uq).leads t∧l.rd m W.w W.fz v x o∧BL W us Uq [o]:=by
 cases l with
 |int kk=>obtain⟨x,hl,hr⟩:=Bg h hv hl;exact⟨x,us,[],hl,(L.AZ _ rfl hr).1,.skip (.nil _)⟩
 |bool=>obtain⟨x,hl,hr⟩:=Bg h hv hl;exact⟨x,us,[],hl,(L.AZ _ rfl hr).1,.skip (.nil _)⟩
 |str=>obtain⟨x,hl,hr⟩:=Bg h hv hl;exact⟨x,us,[],hl,(L.AZ _ rfl hr).1,.skip (.nil _)⟩
 |sl t0 e=>
  unfold Fb at hl;cases m with
  |zero=>
   simp only at hl;split at hl
   ·rename_i hs;obtain⟨x,hl,hr⟩:=KE h hv hs hl;exact⟨x,us,[],hl,hr,.skip (.nil _)⟩
   ·exact hl.elim
  |succ m=>
   cases a with
   |CL=>exact⟨_,us,[],hl,by rw[show v=.slice none 0 0 from hv];exact Bj,.skip (.nil _)⟩
   |ref c=>
    simp only at hl;split at hl
    ·rename_i AA gen t' e' xs d TV;split at hl
     ·rename_i hc;simp only[gL,gV,gW]at hc;obtain⟨⟨⟨Te,hp⟩,hd⟩,Yn⟩:=hc;subst Te;subst hd;have hp:c.p=[]:=by cases hq:c.p<;>simp_all[isNil]
      split at hl
      ·rename_i y hy;obtain⟨q1,q2⟩:=L.AH hy;cases q1;have q2:xs=y:=q2;subst q2;obtain⟨h',e2,T3,hn⟩:=hv gen _ _ _ _ TV (.inl hp);rw[hp]at hn;obtain⟨rfl,rfl⟩:=hn;obtain⟨u',Tj,Th⟩:=(h.roots c.r).row TV;rw[T3]at Tj;injection Tj with Tj;subst Tj
       refine⟨xs,_,W.om (.lf c.r c.j),hl,Th,.take (u:=(c.r,c.j)) (fun hh=>?_) (fun b hb=>hb) (h.sep.nodup _) (.nil _)⟩;grind
      ·exact hl.elim
     ·exact hl.elim
    ·exact hl.elim
   |win c lo hi=>
    simp only at hl;split at hl
    ·rename_i AA gen t' e' xs d TV;split at hl
     ·rename_i hc;simp only[gL,gV,gW]at hc;obtain⟨⟨⟨Te,hp⟩,hd⟩,Yn⟩:=hc;subst Te;subst hd;have hp:c.p=[]:=by cases hq:c.p<;>simp_all[isNil]
      split at hl
      ·rename_i y hy;obtain⟨q1,q2⟩:=L.AH hy;cases q1;have q2:sub xs lo hi=y:=q2;subst q2;obtain⟨h',e2,A,n,k0,T3,hn,h1,h2,Wl⟩:=hv gen _ _ _ _ TV (.inl hp);rw[hp]at hn;obtain⟨rfl,rfl⟩:=hn;obtain⟨u',Tj,Th⟩:=(h.roots c.r).row TV;rw[T3]at Tj;injection Tj with Tj;subst Tj
       obtain⟨o',q1,q2,q3⟩:=CB.sub Th h1 h2;refine⟨sub xs lo hi,_,o',hl,?_,.take (u:=(c.r,c.j)) (fun hh=>?_) (fun b hb=>q2 b hb) (q3 (h.sep.nodup _)) (.nil _)⟩
       ·rw[Wl];exact q1
       grind
      ·exact hl.elim
     ·exact hl.elim
    ·exact hl.elim
   |_=>exact hl.elim
theorem Da(h:AU E s tm W):∀(ls:List (L×Nat)) (as:List LA) (g:Nat→Option Value) {us:List (Nat×Nat)} {k:List Lv→List (Nat×Nat)→Step β},(∀(j:Nat)(a:LA),as[j]?=some a→∃u,g j=some u∧AP s W a u)→(CY s ls as us k).leads t→
  ∃(vs:List Lv) (Uq:List (Nat×Nat)) (os:List (List Nat)),(k vs Uq).leads t∧vs.map (·.l)=ls.map (·.1)∧os.length=ls.length∧as.length=ls.length∧BL W us Uq os∧
   ∀(j:Nat)(p:L×Nat)(lv:Lv),ls[j]?=some p→vs[j]?=some lv→∃y,g j=some y∧lv.l.rd p.2 W.w W.fz y lv.x ((os[j]?).getD [])
 | [],[],g,us,k,hg,hl=>⟨[],us,[],hl,rfl,rfl,rfl,.nil _,fun j p lv hj=>by simp at hj⟩
 | [],_::_,g,us,k,hg,hl=>hl.elim
 |_::_,[],g,us,k,hg,hl=>hl.elim
 |(l,m)::ls,a::as,g,us,k,hg,hl=>by obtain⟨u,hu,UD⟩:=hg 0 a rfl;obtain⟨x,us1,o,hl,hr,hb⟩:=EJ h UD hl;obtain⟨vs,us2,os,hl,h1,h2,h3,h4,h5⟩:=Da h ls as (fun j=>g (j+1)) (fun j a hj=>hg (j+1) a (by simpa using hj)) hl;refine⟨⟨l,x⟩::vs,us2,o::os,hl,by simp[h1],by simp[h2],by simp[h3],hb.append h4,fun j p lv hj hv=>?_⟩;grind
def JX(P:Program)(w:World)(tm:Array Value):List ResultVar→List Value→Prop
 | [],[]=>True
 | .tmp t::rv,u::us=>u=tm.getD t Go.undef∧JX P w tm rv us
 | .cell t T::rv,u::us=>(do loadVar T (←asAddr (tm.getD t Go.undef)):Sem Value).run P w=.ok u w∧JX P w tm rv us
 |_,_=>False
theorem KU{T:TypeId}{y:Ty}(VQ:Nk P T y){as:List LA}{b:Nat}(hlen:as.length=y.ls.n)(Tp:∀(j:Nat)(x:LA),as[j]?=some x→∃u,W.w.cell? ⟨b,0+j,none⟩=some u∧AP s W x u):
  ∃u,(loadVar T ⟨b,0,none⟩).run P W.w=.ok u W.w∧Ey s W y.agg as u:=by
 cases VT:y.agg with
 |false=>
  obtain⟨l,U4,U2⟩:=VQ.lone VT;rw[U4]at hlen
  obtain⟨a,rfl⟩:∃a,as=[a]:=by
   match as,hlen with
   | [a],_=>grind
  obtain⟨u,hu,hy⟩:=Tp 0 a rfl;obtain⟨d,hd,UU⟩:=U2.JE
  have Vz:(isAgg T).run P W.w=.ok false W.w:=by
   unfold isAgg;rw[Sem.run_bind,run_underlying hd];cases d<;>simp_all
  simp only[iA]at hu;exact⟨u,by simp[loadVar,Vz,load,Sem.run,hu],hy⟩
 |true=>
  obtain⟨fs,VR,_⟩:=VQ.agg VT;obtain⟨i,hi,Tt,_⟩:=VQ.info
  let f:Nat→Value:=fun j=>(W.w.cell? ⟨b,0+j,none⟩).getD Go.undef
  let cs:List Value:=(List.range as.length).map f
  have Ve:∀j u,cs[j]?=some u→W.w.cell? ⟨b,0+j,none⟩=some u:=by
   intro j u hj;simp only[cs,ga]at hj;by_cases Tc:j<as.length
   ·rw[List.getElem?_range Tc]at hj;simp at hj;obtain⟨u',Tj,_⟩:=Tp j as[j] (gK Tc);simp only[gb]at Tj;rw[←hj];simp[f,Tj]
   ·rw[List.getElem?_eq_none (by simp;omega)]at hj;cases hj
  have Ti:=run_loadVar_mid (P:=P) W.w b 0 T cs (.struct fs) (fun j u hj=>Ve j u hj) VR rfl (by simp[hi,Tt,cs,hlen]);refine⟨.agg cs.toArray,Ti,cs.toArray,rfl,by simp[cs],fun j y hy=>?_⟩;grind
theorem HK{ty:TypeId→Option Ty}(VQ:∀t x,ty t=some x→Nk P t x)(h:AU E s tm W):∀(rs:List (Bool×List (L×Nat))) (rv:List ResultVar) {us:List (Nat×Nat)} {k:List Lv→List (Nat×Nat)→Step β},(Dw ty s rs rv us k).leads t→
  ∃(vals:List Value) (TX:List (List Lv)) (Uq:List (Nat×Nat)) (os:List (List Nat)),(k TX.flatten Uq).leads t∧BL W us Uq os∧JX P W.w tm rv vals∧
   ∀(off:Nat)(om:Nat→List Nat),(∀j,j<os.length→om (off+j)=(os[j]?).getD [])→EA W.w W.fz om rs vals TX off
 | [],[],us,k,hl=>⟨[],[],us,[],hl,.nil _,trivial,fun off om WA=>trivial⟩
 | [],_::_,us,k,hl=>hl.elim
 |_::_,[],us,k,hl=>hl.elim
 |(g,ls)::rs,r::rv,us,k,hl=>by
  have main:∀ {u:Value} {as:List LA},Ey s W g as u→(∀us,JX P W.w tm rv us→JX P W.w tm (r::rv) (u::us))→(CY s ls as us fun xs us=>Dw ty s rs rv us fun ys us=>k (xs++ys) us).leads t→
    ∃(vals:List Value) (TX:List (List Lv)) (Uq:List (Nat×Nat)) (os:List (List Nat)),(k TX.flatten Uq).leads t∧BL W us Uq os∧JX P W.w tm (r::rv) vals∧
     ∀(off:Nat)(om:Nat→List Nat),(∀j,j<os.length→om (off+j)=(os[j]?).getD [])→EA W.w W.fz om ((g,ls)::rs) vals TX off:=by
   intro u as UD X6 hl;obtain⟨vs,us1,os1,hl,h1,h2,h3,h4,h5⟩:=Da h ls as (Av g u) (fun j a hj=>B4 UD j a hj) hl;obtain⟨vals,TX,us2,os2,hl,h6,h7,h8⟩:=HK VQ h rs rv hl;refine⟨u::vals,vs::TX,us2,os1++os2,by grind,h4.append h6,X6 _ h7,fun off om WA=>⟨⟨h1,?_,fun j p lv hj hv=>?_⟩,?_⟩⟩
   ·cases g with
    |true=>obtain⟨cs,Ve,Tt,_⟩:=UD;grind
    |false=>
     cases as with
     |nil=>exact UD.elim
     |cons b bs=>cases bs with
      |nil=>exact h3.symm
      |cons=>exact UD.elim
   ·grind
   ·refine h8 (off+ls.length) om fun j hj=>?_;rw[show off+ls.length+j=off+(ls.length+j) by omega,WA (ls.length+j) (by simp;omega),ia (by omega)];grind
  cases r with
  |tmp u=>
   simp only[Dw]at hl;split at hl
   ·rename_i g' as VE;split at hl
    ·rename_i XT;have XT:g=g':=by simpa using XT
     subst XT;have UD:Ey s W g as (tm.getD u Go.undef):=by have:=h.AO u;rw[VE]at this;exact this
     exact main UD (fun us hu=>⟨rfl,hu⟩) hl
    ·exact hl.elim
   ·exact hl.elim
  |cell u T=>
   simp only[Dw]at hl;split at hl
   ·rename_i y r0 AA eW VE;split at hl
    ·rename_i XT;simp only[gL,gV]at XT;obtain⟨XT,hyn⟩:=XT;subst XT;have hv:AP s W (.ptr r0 0 AA) (tm.getD u Go.undef):=by have:=h.AO u;rw[VE]at this;exact this
     have Vt:(s.root r0).box=true∧(s.root r0).AA=AA:=by
      have Wi:=hl;simp only[St.DA]at Wi;split at Wi
      ·grind
      ·exact Wi.elim
     obtain⟨as,hl,_,b,off,hp,Tp⟩:=Fq h hv hl;split at hl
     ·rename_i hlen;have hlen:as.length=ls.length:=by simpa using hlen
      have V9:off=0:=by
       rw[hv Vt.1 Vt.2]at hp;injection hp with hp;injection hp with hp;injection hp with _ h2
       exact h2.symm
      subst V9;obtain⟨v,XW,ZN⟩:=KU (VQ T y eW) (by omega) Tp;exact main ZN (fun us hu=>⟨by simp[hp,asAddr,XW],hu⟩) hl
     ·exact hl.elim
    ·exact hl.elim
   ·exact hl.elim
def L2(E:Cr)(s:St)(W:Wd)(i:Nat)(pm:PM)(vs0 vs:List Lv)(os:List (List Nat)):Prop:=match pm with
 | .box ls=>(s.root i).box=true∧(s.root i).AA=1∧(s.root i).ls.length=ls.length∧vs.map (·.l)=ls.map (·.1)∧os.length=ls.length∧
   (∀(j:Nat)(p:L×Nat)(lv:Lv),ls[j]?=some p→vs[j]?=some lv→∃y,W.w.cell? ⟨W.bk i,j,none⟩=some y∧lv.l.rd p.2 W.w W.fz y lv.x ((os[j]?).getD []))∧
   ∀(j:Nat)(p:L×Nat),ls[j]?=some p→p.2=3→W.w.cell? ⟨W.bk i,j,none⟩=E.OV i j
 | .row g ls=>vs.length=ls.length∧os.length=ls.length∧∀(j:Nat)(p:L×Nat)(lv:Lv),ls[j]?=some p→vs[j]?=some lv→
   (Bp p.1=true∧lv.l=p.1∧∃u,E.OV i j=some u∧lv.l.rd p.2 W.w W.fz u lv.x ((os[j]?).getD []))∨(Bp p.1=false∧vs0[j]?=some lv∧os[j]?=some [])
 |_=>vs=[]∧os=[]
theorem Ie{i:Nat}:∀(j:Nat) (ls:List (L×Nat)),I9 s i j ls=true→∀(m:Nat)(p:L×Nat),ls[m]?=some p→p.2=3→∃(gen:Nat) (t:TypeId) (e:Ls) (xs:List e.D) (d:Nat),s.leaf i (j+m)=.arr 1 gen t e xs d
 |_,[],_,m,p,hp,_=>by simp at hp
 |j,(l,d)::ls,hk,m,p,hp,h3=>by
  simp only[I9,gL]at hk;cases m with
  |zero=>
   simp only[List.getElem?_cons_zero,Option.some.injEq]at hp;subst hp;have h3:d=3:=h3;subst h3;have hk:=hk.1;simp only[beq_self_eq_true,cond_true]at hk;cases hq:s.leaf i j with
   |arr AA gen t e xs d=>
    rw[hq]at hk;have hk:AA=1:=by simpa using hk
    subst hk;exact⟨gen,t,e,xs,d,rfl⟩
   |_=>rw[hq]at hk;cases hk
  |succ m=>
   obtain⟨gen,t,e,xs,d',hq⟩:=Ie (j+1) ls hk.2 m p (by simpa using hp) h3;exact⟨gen,t,e,xs,d',by rw[show j+(m+1)=j+1+m by omega];exact hq⟩
theorem FC(h:AU E s tm W)(i:Nat):∀(j:Nat) (ls:List (L×Nat)) (vs0 rest:List Lv) {us:List (Nat×Nat)} {k:List Lv→List (Nat×Nat)→Step β},vs0.length=ls.length→(Ei s i j ls (vs0++rest) us k).leads t→
  ∃(vs:List Lv) (Uq:List (Nat×Nat)) (os:List (List Nat)),(k vs Uq).leads t∧vs.length=ls.length∧os.length=ls.length∧BL W us Uq os∧∀(m:Nat)(p:L×Nat)(lv:Lv),ls[m]?=some p→vs[m]?=some lv→
   (Bp p.1=true∧lv.l=p.1∧∃u,E.OV i (j+m)=some u∧lv.l.rd p.2 W.w W.fz u lv.x ((os[m]?).getD []))∨(Bp p.1=false∧vs0[m]?=some lv∧os[m]?=some [])
 |j,[],vs0,rest,us,k,hlen,hl=>⟨[],us,[],hl,rfl,rfl,.nil _,fun m p lv hp=>by simp at hp⟩
 |j,_::_,[],rest,us,k,hlen,hl=>by simp at hlen
 |j,(l,d)::ls,x::vs0,rest,us,k,hlen,hl=>by
  have UC:vs0.length=ls.length:=by simpa using hlen
  have plain:Bp l=false→(Ei s i (j+1) ls (vs0++rest) us fun ys us=>k (x::ys) us).leads t→∃(vs:List Lv) (Uq:List (Nat×Nat)) (os:List (List Nat)),(k vs Uq).leads t∧vs.length=((l,d)::ls).length∧os.length=((l,d)::ls).length∧BL W us Uq os∧∀(m:Nat)(p:L×Nat)(lv:Lv),((l,d)::ls)[m]?=some p→vs[m]?=some lv→
    (Bp p.1=true∧lv.l=p.1∧∃u,E.OV i (j+m)=some u∧lv.l.rd p.2 W.w W.fz u lv.x ((os[m]?).getD []))∨(Bp p.1=false∧(x::vs0)[m]?=some lv∧os[m]?=some []):=by
   intro hs hl;obtain⟨vs,us1,os,hl,h1,h2,h3,h4⟩:=FC h i (j+1) ls vs0 rest UC hl;refine⟨x::vs,us1,[]::os,hl,by simp[h1],by simp[h2],.skip h3,fun m p lv hp hv=>?_⟩;cases m with
   |zero=>grind
   |succ m=>
    grind
  cases l with
  |int i=>exact plain rfl hl
  |bool=>exact plain rfl hl
  |str=>exact plain rfl hl
  |sl t0 e=>
   simp only[iK,Ei]at hl;split at hl
   ·rename_i gen t' e' UJ d' TV;obtain⟨u,hu,Th⟩:=(h.roots i).row TV;have hini:=h.init.1 _ _ _ _ _ _ _ TV
    have hv:AP s W (.ref ⟨i,j,1,gen,[]⟩) u:=by intro gen2 t2 e2 xs2 d2 Wi _;have Wi:s.leaf i j=_:=Wi;exact⟨u,e2,hu,rfl,rfl⟩
    obtain⟨y,us1,o,hl,hr,hb⟩:=EJ h hv hl;obtain⟨vs,us2,os,hl,h1,h2,h3,h4⟩:=FC h i (j+1) ls vs0 rest UC hl;refine⟨⟨.sl t0 e,y⟩::vs,us2,o::os,hl,by simp[h1],by simp[h2],hb.append h3,fun m p lv hp hv=>?_⟩;cases m with
    |zero=>simp at hp hv;subst hp;subst hv;exact .inl ⟨rfl,rfl,u,by grind,by grind⟩
    |succ m=>
     grind
   ·obtain⟨x,us1,o,hl,hr,hb⟩:=EJ h (v:=Go.undef) (show AP s W .bad Go.undef from trivial) hl;cases d with
    |zero=>
     exfalso;exact absurd hl id
    |succ d=>exact absurd hl id
theorem IQ(h:AU E s tm W):∀(i:Nat)(ps:List PM) (vss0:List (List Lv)) {us:List (Nat×Nat)} {k:List Lv→Step β},vss0.length=ps.length→(∀(j:Nat)(pm:PM)(vs:List Lv),ps[j]?=some pm→vss0[j]?=some vs→vs.length=pm.ins.length)→(C2 s i ps vss0.flatten us k).leads t→
  ∃(TX:List (List Lv)) (Uq:List (Nat×Nat)) (oss:List (List (List Nat))),(k TX.flatten).leads t∧TX.length=ps.length∧oss.length=ps.length∧BL W us Uq oss.flatten∧
   ∀(j:Nat)(pm:PM)(vs0 vs:List Lv) (os:List (List Nat)),ps[j]?=some pm→vss0[j]?=some vs0→TX[j]?=some vs→oss[j]?=some os→L2 E s W (i+j) pm vs0 vs os
 |i,[],vss0,us,k,hlen,UK,hl=>⟨[],us,[],hl,rfl,rfl,.nil _,fun j pm vs0 vs os hj=>by simp at hj⟩
 |i,_::_,[],us,k,hlen,UK,hl=>by simp at hlen
 |i,pm::ps,vs0::vss0,us,k,hlen,UK,hl=>by
  have UC:vss0.length=ps.length:=by simpa using hlen
  have cW:∀(j:Nat)(pm:PM)(vs:List Lv),ps[j]?=some pm→vss0[j]?=some vs→vs.length=pm.ins.length:=fun j W7 vs h1 h2=>UK (j+1) W7 vs (by grind) (by grind);have XG:=UK 0 pm vs0 rfl rfl
  have fin:∀ {us1:List (Nat×Nat)} (vs:List Lv) (os:List (List Nat)),BL W us us1 os→L2 E s W i pm vs0 vs os→(C2 s (i+1) ps vss0.flatten us1 fun ys=>k (vs++ys)).leads t→
    ∃(TX:List (List Lv)) (Uq:List (Nat×Nat)) (oss:List (List (List Nat))),(k TX.flatten).leads t∧TX.length=(pm::ps).length∧oss.length=(pm::ps).length∧BL W us Uq oss.flatten∧
     ∀(j:Nat)(W7:PM)(vs1 vs:List Lv) (os:List (List Nat)),(pm::ps)[j]?=some W7→(vs0::vss0)[j]?=some vs1→TX[j]?=some vs→oss[j]?=some os→L2 E s W (i+j) W7 vs1 vs os:=by
   intro us1 vs os hb hp hl;obtain⟨TX,us2,oss,hl,h1,h2,h3,h4⟩:=IQ h (i+1) ps vss0 UC cW hl;refine⟨vs::TX,us2,os::oss,by grind,by simp[h1],by simp[h2],by simpa using hb.append h3,fun j W7 vs1 WI UP hj XW hv ho=>?_⟩;cases j with
   |zero=>grind
   |succ j=>
    grind
  cases pm with
  |val g ls=>
   have e:vs0.length=ls.length:=XG;simp only[gn,C2]at hl;rw[←e,iJ]at hl;exact fin [] [] (.nil _) ⟨rfl,rfl⟩ (by simpa using hl)
  |fn f=>
   have e:vs0=[]:=gQ XG;subst e;simp only[gn,hY,C2]at hl;exact fin [] [] (.nil _) ⟨rfl,rfl⟩ (by simpa using hl)
  |box ls=>
   have e:vs0.length=ls.length:=by simpa[PM.ins]using XG
   simp only[gn,C2]at hl;rw[show(vs0++vss0.flatten).drop ls.length=vss0.flatten by rw[←e,iJ]]at hl;split at hl
   ·rename_i hc;simp only[gL,gV]at hc;obtain⟨⟨⟨hb,Te⟩,hlen⟩,bo⟩:=hc;have hv:AP s W (.ptr i 0 1) (.pointer (some ⟨W.bk i,0,none⟩)):=fun _ _=>rfl;obtain⟨as,hl,_,b,off,hp,Tp⟩:=Fq h hv hl;injection hp with hp;injection hp with hp;injection hp with cJ W0
    subst cJ;subst W0;obtain⟨vs,us1,os,hl,h1,h2,h3,h4,h5⟩:=Da h ls as (fun j=>W.w.cell? ⟨W.bk i,0+j,none⟩) Tp hl;refine fin vs os h4 ⟨hb,Te,hlen,h1,h2,fun j p lv hj hv=>?_,fun j p hj h3=>?_⟩ hl
    ·grind
    ·obtain⟨gen,t,e,xs,d,hq⟩:=Ie 0 ls bo j p hj h3;rw[gb]at hq;rw[←h.init.1 _ _ _ _ _ _ _ hq];obtain⟨_,q2⟩:=h.roots i;rw[gS hb]at q2;obtain⟨_,arr0,T0,fr0,k1,_,_,k2⟩:=q2;rw[k2];simp[World.cell?,k1]
   ·exact hl.elim
  |row g ls=>
   have e:vs0.length=ls.length:=by simpa[PM.ins]using XG
   simp only[gn,C2]at hl;rw[show(vs0++vss0.flatten).drop ls.length=vss0.flatten by rw[←e,iJ]]at hl;obtain⟨vs,us1,os,hl,h1,h2,h3,h4⟩:=FC h i 0 ls vs0 _ e hl;exact fin vs os h3 ⟨h1,h2,fun j p lv hp hv=>by grind⟩ hl
end
end Go.Ev
namespace Go.Ev
def Dh(i:Nat)(pm:PM)(vs:List Lv):AV:=match pm with
 | .val g _=>.v g (vs.map fun x=>.sc x.l x.x)
 | .box _=>one (.ptr i 0 1)
 | .row g ls=>.v g (BB i 0 ls vs)
 | .fn f=>one (.fn f)
def CD(pm:PM)(vs:List Lv)(r:Bl):Bl:=match pm with
 | .box ls=>⟨true,1,AY 1 ls vs⟩
 | .row _ ls=>⟨false,1,AY 1 ls vs⟩
 |_=>r
theorem DS(i:Nat):∀(j:Nat) (ls:List (L×Nat)) (vs:List Lv),vs.length=ls.length→(BB i j ls vs).length=ls.length
 |_,[],[],_=>rfl
 |_,[],_::_,h=>by simp at h
 |_,_::_,[],h=>by simp at h
 |j,(l,d)::ls,x::vs,h=>by simp[BB,DS i (j+1) ls vs (by simpa using h)]
theorem Fx(i:Nat):∀(j:Nat) (ls:List (L×Nat)) (vs rest:List Lv),vs.length=ls.length→BB i j ls (vs++rest)=BB i j ls vs
 |_,[],[],rest,_=>by cases rest<;>simp[BB]
 |_,[],_::_,_,h=>by simp at h
 |_,_::_,[],_,h=>by simp at h
 |j,(l,d)::ls,x::vs,rest,h=>by simp[BB,Fx i (j+1) ls vs rest (by simpa using h)]
theorem Gm(i:Nat):∀(j:Nat) (ls:List (L×Nat)) (vs:List Lv) (m:Nat) (p:L×Nat) (lv:Lv),ls[m]?=some p→vs[m]?=some lv→(BB i j ls vs)[m]?=some (if Bp p.1 then(if p.2==4 then .CL else .ref ⟨i,j+m,1,1,[]⟩)else .sc lv.l lv.x)
 |_,[],_,m,p,lv,h,_=>by simp at h
 |_,_::_,[],m,p,lv,_,h=>by simp at h
 |j,(l,d)::ls,x::vs,0,p,lv,h1,h2=>by
  simp at h1 h2;subst h1;subst h2;cases l<;>rfl
 |j,(l,d)::ls,x::vs,m+1,p,lv,h1,h2=>by have:=Gm i (j+1) ls vs m p lv (by grind) (by grind);rw[show j+1+m=j+(m+1) by omega]at this;simpa[BB]using this
theorem Fy(i:Nat):∀(j:Nat) (ls:List (L×Nat)) (vs:List Lv) (a:LA),a∈BB i j ls vs→∀n∈a.AG,n=1
 |_,[],_,a,h=>by simp[BB]at h
 |_,_::_,[],a,h=>by simp[BB]at h
 |j,(l,d)::ls,x::vs,a,h=>by
  rcases gj.1 (show a∈_::BB i (j+1) ls vs from h)with rfl|h
  ·intro n hn;cases l with
   |sl t e=>
    dsimp only at hn;split at hn
    ·simp[LA.AG]at hn
    ·simpa[LA.AG]using hn
   |_=>simp[LA.AG]at hn
  ·exact Fy i (j+1) ls vs a h
theorem Ct(s:St)(w:Wr):(s.AF w).sl.length=s.sl.length∧(s.AF w).ro.length=s.ro.length:=by
 cases w<;>simp[St.AF,CU]
def Ge(i:Nat)(pm:PM)(vs:List Lv):List Wr:=match pm with
 | .val _ _=>[.slot i (Dh i pm vs)]
 | .fn _=>[.slot i (Dh i pm vs)]
 |_=>[.root i (CD pm vs dead),.slot i (Dh i pm vs)]
theorem ME(i:Nat)(pm:PM)(vs:List Lv)(s:St)(h1:i<s.sl.length)(h2:i<s.ro.length):
  (s.app (Ge i pm vs)).sl.length=s.sl.length∧(s.app (Ge i pm vs)).ro.length=s.ro.length∧(∀t,t≠i→(s.app (Ge i pm vs)).slot t=s.slot t∧(s.app (Ge i pm vs)).root t=s.root t)∧
   (s.app (Ge i pm vs)).slot i=Dh i pm vs∧(s.app (Ge i pm vs)).root i=CD pm vs (s.root i):=by
 have one:∀x,(s.app [.slot i x]).sl.length=s.sl.length∧(s.app [.slot i x]).ro.length=s.ro.length∧(∀t,t≠i→(s.app [.slot i x]).slot t=s.slot t∧(s.app [.slot i x]).root t=s.root t)∧
   (s.app [.slot i x]).slot i=x∧(s.app [.slot i x]).root i=s.root i:=by
  intro x;refine⟨(Ct s _).1,(Ct s _).2,fun t ht=>⟨?_,rfl⟩,?_,rfl⟩
  ·show(s.AF (.slot i x)).slot t=_;rw[BN,gT (fun hh=>ht hh.1.symm)]
  ·show(s.AF (.slot i x)).slot i=_;rw[BN,gS ⟨rfl,h1⟩]
 have two:∀y x,(s.app [.root i y,.slot i x]).sl.length=s.sl.length∧(s.app [.root i y,.slot i x]).ro.length=s.ro.length∧(∀t,t≠i→(s.app [.root i y,.slot i x]).slot t=s.slot t∧(s.app [.root i y,.slot i x]).root t=s.root t)∧
   (s.app [.root i y,.slot i x]).slot i=x∧(s.app [.root i y,.slot i x]).root i=y:=by
  intro y x;have VE:(s.AF (.root i y)).sl=s.sl:=rfl;refine⟨(Ct (s.AF (.root i y)) (.slot i x)).1.trans (Ct s _).1,(Ct (s.AF (.root i y)) (.slot i x)).2.trans (Ct s _).2,fun t ht=>⟨?_,?_⟩,?_,?_⟩
  ·show((s.AF (.root i y)).AF (.slot i x)).slot t=_;rw[BN,gT (fun hh=>ht hh.1.symm)];rfl
  ·show(s.AF (.root i y)).root t=_;rw[Ax,gT (fun hh=>ht hh.1.symm)]
  ·show((s.AF (.root i y)).AF (.slot i x)).slot i=_;rw[BN,gS ⟨rfl,h1⟩]
  ·show(s.AF (.root i y)).root i=_;rw[Ax,gS ⟨rfl,h2⟩]
 cases pm with
 |val g ls=>exact one _
 |fn f=>exact one _
 |box ls=>exact two _ _
 |row g ls=>exact two _ _
theorem Hg:∀(ps:List PM) (TX:List (List Lv)) (i:Nat) {ws:List Wr} (s:St),TX.length=ps.length→(∀(j:Nat)(pm:PM)(vs:List Lv),ps[j]?=some pm→TX[j]?=some vs→vs.length=pm.ins.length)→
  C9 i ps TX.flatten=some ws→i+ps.length≤s.sl.length→i+ps.length≤s.ro.length→
  (s.app ws).sl.length=s.sl.length∧(s.app ws).ro.length=s.ro.length∧(∀t,(t<i∨i+ps.length≤t)→(s.app ws).slot t=s.slot t∧(s.app ws).root t=s.root t)∧
   ∀(j:Nat)(pm:PM)(vs:List Lv),ps[j]?=some pm→TX[j]?=some vs→(s.app ws).slot (i+j)=Dh (i+j) pm vs∧(s.app ws).root (i+j)=CD pm vs (s.root (i+j))
 | [],[],i,ws,s,hlen,hv,h,h1,h2=>by
  have:ws=[]:=by simpa[C9]using h.symm
  subst this;exact⟨rfl,rfl,fun t ht=>⟨rfl,rfl⟩,fun j pm vs hj=>by simp at hj⟩
 | [],_::_,i,ws,s,hlen,hv,h,h1,h2=>by simp at hlen
 |_::_,[],i,ws,s,hlen,hv,h,h1,h2=>by simp at hlen
 |pm::ps,vs::TX,i,ws,s,hlen,hv,h,h1,h2=>by
  have Uv:vs.length=pm.ins.length:=hv 0 pm vs rfl rfl
  have hex:∃VH,C9 (i+1) ps TX.flatten=some VH∧ws=Ge i pm vs++VH:=by
   cases pm with
   |val g ls=>
    simp only[gn,C9]at h;have VZ:vs.length=ls.length:=Uv;rw[←VZ,iJ,List.take_left]at h;split at h
    ·rename_i VH hq;injection h with h
     exact⟨VH,hq,h.symm⟩
    ·cases h
   |fn f=>
    have VZ:vs=[]:=gQ Uv;subst VZ;simp only[gn,C9,hY]at h;split at h
    ·rename_i VH hq;injection h with h
     exact⟨VH,hq,h.symm⟩
    ·cases h
   |box ls=>
    simp only[gn,C9]at h;have VZ:vs.length=ls.length:=by simpa[PM.ins]using Uv
    have hd:(vs++TX.flatten).drop ls.length=TX.flatten:=by rw[←VZ,iJ]
    rw[hd,DC 1 ls vs _ VZ]at h;split at h
    ·rename_i VH hq;injection h with h
     exact⟨VH,hq,h.symm⟩
    ·cases h
   |row g ls=>
    simp only[gn,C9]at h;have VZ:vs.length=ls.length:=by simpa[PM.ins]using Uv
    have hd:(vs++TX.flatten).drop ls.length=TX.flatten:=by rw[←VZ,iJ]
    rw[hd,DC 1 ls vs _ VZ,Fx i 0 ls vs _ VZ]at h;split at h
    ·rename_i VH hq;injection h with h
     exact⟨VH,hq,h.symm⟩
    ·cases h
  obtain⟨VH,hq,rfl⟩:=hex;simp only[iU]at h1 h2;obtain⟨a1,a2,a3,a4,a5⟩:=ME i pm vs s (by omega) (by omega);obtain⟨b1,b2,b3,b4⟩:=Hg ps TX (i+1) (s.app (Ge i pm vs)) (by simpa using hlen) (fun j W7 WI hj Um=>hv (j+1) W7 WI (by simpa using hj) (by simpa using Um)) hq (by rw[a1];omega) (by rw[a2];omega);rw[BC];grind
section
variable {P:Program}{w:World}{fz:Nat→Prop}{ps:List PM}{args:List Value}{TX:List (List Lv)}{bk:Nat→Nat}{om:Key→List Nat}{N:Nat}{ws:List Wr}
open Classical in
noncomputable def Fe (ps:List PM) (w:World) (args:List Value) (bk:Nat→Nat) (r j:Nat):Option Value:=match ps[r]? with
 |some (.box _)=>w.cell? ⟨bk r,j,none⟩
 |some (.row g _)=>(args[r]?).bind fun u=>Av g u j
 |_=>none
noncomputable def HW (T:List (String×Array Value)) (ps:List PM) (w:World) (fz:Nat→Prop) (args:List Value) (bk:Nat→Nat) (om:Key→List Nat):Cr:=
 {base:=w.heap.size,io:=fun b=>∃k,b∈om k,fa:=fz,w0:=w,OV:=Fe ps w args bk,PH:=bk,Ng:=T }
noncomputable def Lw (ps:List PM) (w:World) (fz:Nat→Prop) (args:List Value) (bk:Nat→Nat) (om:Key→List Nat):Wd:=
 {w:=w,fz:=fz,cv:=Fe ps w args bk,bk:=bk,om:=om }
theorem M3.kinds{pm:PM}{u:Value}{vs:List Lv}{b:Nat}{own:Nat→List Nat}(h:M3 w fz pm u vs b own):vs.length=pm.ins.length:=by
 cases pm with
 |val g ls=>have:=congrArg List.length h.1;simpa[PM.ins]using this
 |box ls=>have:=congrArg List.length h.2.1;simpa[PM.ins]using this
 |row g ls=>have:=congrArg List.length h.1.1;simpa[PM.ins]using this
 |fn f=>rw[h.2];rfl
theorem HN(n t:Nat):(blank n).slot t=one .bad:=by
 show nth _ (List.replicate n (one .bad)) t=_;rw[Af,List.getElem?_replicate];split<;>rfl
theorem Dx(n t:Nat):(blank n).root t=dead:=by
 show nth _ (List.replicate n dead) t=_;rw[Af,List.getElem?_replicate];split<;>rfl
theorem MF(TW:CW ps w fz args TX bk om)(hp:C9 0 ps TX.flatten=some ws)(hN:ps.length≤N):Inv N ((blank N).app ws):=by
 obtain⟨b1,b2,b3,b4⟩:=Hg ps TX 0 (blank N) TW.BW (fun j pm vs hj hv=>by
  obtain⟨u,hu⟩:∃u,args[j]?=some u:=⟨_,gK (by rw[TW.len];grind)⟩;exact(TW.each j pm u vs hj hu hv).kinds) hp (by simp[blank];exact hN) (by simp[blank];exact hN)
 simp only[gb]at b3 b4;have WN:((blank N).app ws).Bm=2:=Iz ws _
 have get:∀t,(∃pm vs,ps[t]?=some pm∧TX[t]?=some vs∧((blank N).app ws).slot t=Dh t pm vs∧((blank N).app ws).root t=CD pm vs dead)∨(((blank N).app ws).slot t=one .bad∧((blank N).app ws).root t=dead):=by
  intro t;rcases hQ t ps.length with Tc|US
  ·left;have h1:=gK Tc;have h2:=gK (show t<TX.length by rw[TW.BW];exact Tc);obtain⟨c1,c2⟩:=b4 t _ _ h1 h2;rw[Dx]at c2;grind
  ·right;obtain⟨c1,c2⟩:=b3 t (.inr US);rw[HN]at c1;rw[Dx]at c2;grind
 have nl:∀(ls:List (L×Nat)) (vs:List Lv),∀a∈AY 1 ls vs,(∀n∈a.AG,n=1)∧a.Ca=true:=by
  intro ls
  induction ls with
  |nil=>intro vs a ha;simp[AY]at ha
  |cons p ls ih=>
   intro vs a ha;cases vs with
   |nil=>simp[AY]at ha
   |cons x vs=>
    rcases gj.1 (show a∈BP 1 p.2 x::AY 1 ls vs from ha)with rfl|ha
    ·exact J3 1 _ _
    grind
 have rt:∀(pm:PM)(vs:List Lv),((CD pm vs dead).AA<2)∧∀a∈(CD pm vs dead).ls,(∀n∈a.AG,n=1)∧a.Ca=true:=by
  intro pm vs;cases pm with
  |val g ls=>exact⟨by simp[CD,dead],fun a ha=>by simp[CD,dead]at ha⟩
  |fn f=>exact⟨by simp[CD,dead],fun a ha=>by simp[CD,dead]at ha⟩
  |box ls=>exact⟨by simp[CD],fun a ha=>nl ls vs a ha⟩
  |row g ls=>exact⟨by simp[CD],fun a ha=>nl ls vs a ha⟩
 refine⟨⟨fun t n hn=>?_,fun r n hn=>?_⟩,by omega,by rw[b1];simp[blank],by rw[b2];simp[blank],fun r a ha=>?_⟩
 ·rw[WN];rcases get t with⟨pm,vs,_,_,h1,_⟩|⟨h1,_⟩
  ·rw[h1]at hn;cases pm with
   |val g ls=>
    exfalso;simp only[Dh,AV.AG,gN,hR]at hn;obtain⟨a,⟨x,_,rfl⟩,hn⟩:=hn;cases hn
   |fn f=>simp[Dh,one,AV.AG,LA.AG]at hn
   |box ls=>simp[Dh,one,AV.AG,LA.AG]at hn;omega
   |row g ls=>
    obtain⟨a,ha,hn⟩:=gN.1 (show n∈(BB t 0 ls vs).flatMap LA.AG from hn);have:=Fy t 0 ls vs a ha n hn;omega
  ·rw[h1]at hn;simp[one,AV.AG,LA.AG]at hn
 ·rw[WN];rcases get r with⟨pm,vs,_,_,_,h1⟩|⟨_,h1⟩
  ·rw[h1]at hn;rcases gj.1 (show n∈(CD pm vs dead).AA::(CD pm vs dead).ls.flatMap LA.AG from hn)with rfl|hn
   all_goals grind
  ·rw[h1]at hn;simp[dead,Bl.AG]at hn;omega
 ·rcases get r with⟨pm,vs,_,_,_,h1⟩|⟨_,h1⟩
  ·grind
  ·rw[h1]at ha;simp[dead]at ha
theorem MG{T:List (String×Array Value)}(TW:CW ps w fz args TX bk om)(hp:C9 0 ps TX.flatten=some ws)(hN:ps.length≤N):
  AU (HW T ps w fz args bk om) ((blank N).app ws) (args.toArray++Array.replicate (N-args.toArray.size) undef) (Lw ps w fz args bk om):=by
 obtain⟨b1,b2,b3,b4⟩:=Hg ps TX 0 (blank N) TW.BW (fun j pm vs hj hv=>by
  obtain⟨u,hu⟩:∃u,args[j]?=some u:=⟨_,gK (by rw[TW.len];grind)⟩;exact(TW.each j pm u vs hj hu hv).kinds) hp (by simp[blank];exact hN) (by simp[blank];exact hN)
 simp only[gb]at b3 b4
 have Tt:(args.toArray++Array.replicate (N-args.toArray.size) undef).size=N:=by have:=TW.len;simp;omega
 have get:∀t,(∃pm u vs,ps[t]?=some pm∧args[t]?=some u∧TX[t]?=some vs∧((blank N).app ws).slot t=Dh t pm vs∧((blank N).app ws).root t=CD pm vs dead∧(args.toArray++Array.replicate (N-args.toArray.size) undef).getD t Go.undef=u) ∨
   (ps[t]?=none∧((blank N).app ws).slot t=one .bad∧((blank N).app ws).root t=dead):=by
  intro t;rcases hQ t ps.length with Tc|US
  ·left;have h1:=gK Tc;have aD:t<args.length:=by rw[TW.len];exact Tc
   have h0:=gK aD;have h2:=gK (show t<TX.length by rw[TW.BW];exact Tc);obtain⟨c1,c2⟩:=b4 t _ _ h1 h2;rw[Dx]at c2;refine⟨_,_,_,h1,h0,h2,c1,c2,?_⟩;rw[gq,gu (by omega)];simp[aD]
  ·right;obtain⟨c1,c2⟩:=b3 t (.inr US);rw[HN]at c1;rw[Dx]at c2;grind
 refine⟨by rw[b1,Tt];simp[blank],by rw[b2,Tt];simp[blank],fun t=>?_,fun r=>?_,?_,⟨fun _ _ _ _ _ _ _ _=>rfl,fun _ _ _=>rfl⟩⟩
 ·rcases get t with⟨pm,u,vs,h1,h2,h3,h4,h5,h6⟩|⟨_,h4,_⟩
  ·rw[h4,h6];have ha:=TW.each t pm u vs h1 h2 h3;cases pm with
   |val g ls=>
    obtain⟨a1,a2,a3⟩:=ha;have hlen:vs.length=ls.length:=by have:=congrArg List.length a1;simpa using this
    have Th:∀(j:Nat)(lv:Lv),vs[j]?=some lv→∃y,Av g u j=some y∧lv.l.rd 0 w fz y lv.x []:=by
     intro j lv hj;have Tc:j<ls.length:=by rw[←hlen];exact(gM.1 hj).1
     exact a3 j (ls[j],0) lv (by simp[Tc]) hj
    cases g with
    |false=>
     have VZ:vs.length=1:=by rw[hlen];simpa using a2
     obtain⟨lv,rfl⟩:∃lv,vs=[lv]:=by
      match vs,VZ with
      | [x],_=>grind
     obtain⟨y,hy,hr⟩:=Th 0 lv rfl;simp[Av]at hy;subst hy;exact hr
    |true=>
     obtain⟨cs,rfl,Ve⟩:=a2;refine⟨cs,rfl,by grind,fun j a hj=>?_⟩;simp only[ga]at hj;cases hq:vs[j]? with
     |none=>grind
     |some lv=>
      rw[hq]at hj;injection hj with hj;subst hj
      obtain⟨y,hy,hr⟩:=Th j lv hq;exact⟨y,hy,hr⟩
   |box ls=>exact fun _ _=>ha.1
   |row g ls=>
    obtain⟨⟨a1,a2,a3⟩,a4⟩:=ha;have hlen:vs.length=ls.length:=by have:=congrArg List.length a1;simpa using this
    have TV:∀(j:Nat)(p:L×Nat)(lv:Lv),ls[j]?=some p→vs[j]?=some lv→((blank N).app ws).leaf t j=BP 1 p.2 lv:=by intro j p lv p1 p2;show nth LA.bad (((blank N).app ws).root t).ls j=_;rw[h5];show nth LA.bad (AY 1 ls vs) j=_;rw[Af,B3 1 ls vs j _ _ p1 p2];rfl
    have UD:∀(j:Nat)(a:LA),(BB t 0 ls vs)[j]?=some a→∃y,Av g u j=some y∧AP ((blank N).app ws) (Lw ps w fz args bk om) a y:=by
     intro j a hj;have Tc:j<ls.length:=by rw[←DS t 0 ls vs hlen];exact(gM.1 hj).1
     have p1:=gK Tc;have p2:=gK (show j<vs.length by omega);obtain⟨y,hy,hr⟩:=a3 j _ _ p1 p2;refine⟨y,hy,?_⟩;rw[Gm t 0 ls vs j _ _ p1 p2]at hj;injection hj with hj
     subst hj
     have VZ:vs[j].l=ls[j].1:=by have:=congrArg (fun x=>x[j]?) a1;simpa[p1,p2]using this
     split
     ·split
      ·rename_i VE Yb;have:=a4 j _ p1 VE (gV.1 Yb);rw[hy]at this;exact Option.some.inj this
      intro gen t2 e2 xs2 d2 hl _;have hl:((blank N).app ws).leaf t (0+j)=_:=hl;rw[gb,TV j _ _ p1 p2]at hl;refine⟨y,e2,?_,rfl,rfl⟩;show Fe ps w args bk t (0+j)=some y;simp[Fe,h1,h2,hy]
     ·rename_i hs;have:=(L.AZ (d':=0) (w':=w) (TZ:=fz) vs[j].l (by grind) hr);have h7:=this.1;rw[show(fun j=>om (Key.lf t j)) j=[]from this.2]at h7;exact h7
    cases g with
    |false=>
     obtain⟨a,cr⟩:∃a,BB t 0 ls vs=[a]:=by
      have:=(DS t 0 ls vs hlen).trans a2
      match h:BB t 0 ls vs,this with
      | [x],_=>grind
     show Ey _ _ false (BB t 0 ls vs) u;obtain⟨y,hy,hr⟩:=UD 0 a (by rw[cr];rfl);simp[Av]at hy;subst hy;rw[cr];exact hr
    |true=>
     obtain⟨cs,rfl,Ve⟩:=a2;exact⟨cs,rfl,by rw[Ve,DS t 0 ls vs hlen],fun j a hj=>UD j a hj⟩
   |fn f=>exact ha.1
  ·rw[h4];trivial
 ·have VM:(∀ls,ps[r]?≠some (.box ls))→(∀g ls,ps[r]?≠some (.row g ls))→ED ((blank N).app ws) (Lw ps w fz args bk om) r dead:=by
   intro q1 q2;refine⟨fun j=>?_,?_⟩
   ·have:nth LA.bad dead.ls j=.bad:=by simp[dead,nth]
    rw[this];exact⟨TW.none r q1 q2 j,fun _ _=>trivial⟩
   ·show om (.AS r)=[];rw[TW.AS];split
    ·rename_i ls hq;exact absurd hq (q1 ls)
    ·rfl
  rcases get r with⟨pm,u,vs,h1,h2,h3,h4,h5,h6⟩|⟨h1,_,h5⟩
  ·rw[h5];have ha:=TW.each r pm u vs h1 h2 h3;cases pm with
   |val g ls=>exact VM (fun XH hq=>by rw[h1]at hq;cases hq) (fun g ls hq=>by rw[h1]at hq;cases hq)
   |fn f=>exact VM (fun XH hq=>by rw[h1]at hq;cases hq) (fun g ls hq=>by rw[h1]at hq;cases hq)
   |box ls=>
    obtain⟨a1,a2,arr,T,fr,a3,a4,a5,a6⟩:=ha;have hlen:vs.length=ls.length:=by have:=congrArg List.length a2;simpa using this
    have T3:∀j,Fe ps w args bk r j=arr[j]?:=by intro j;simp[Fe,h1,World.cell?,a3]
    refine⟨fun j=>?_,?_⟩
    ·show Aa _ _ (nth .bad (AY 1 ls vs) j) (Fe ps w args bk r j) (om (.lf r j));rcases hQ j ls.length with Tc|US
     ·have p1:=gK Tc;have p2:=gK (show j<vs.length by omega);obtain⟨y,hy,hr⟩:=a6 j _ _ p1 p2;rw[Af,B3 1 ls vs j _ _ p1 p2,T3,hy];exact FP (W':=Lw ps w fz args bk om) hr
     ·rw[A3 _ (by rw[Bh 1 ls vs hlen];exact US)];exact⟨TW.box r ls h1 j US,fun _ _=>trivial⟩
    ·show(if true=true then _ else _);rw[gS rfl];refine⟨?_,arr,T,fr,a3,a4,?_,fun j=>T3 j⟩
     ·show om (.AS r)=[bk r];rw[TW.AS,h1]
     ·show arr.size=(AY 1 ls vs).length;rw[Bh 1 ls vs hlen,a5]
   |row g ls=>
    obtain⟨⟨a1,a2,a3⟩,a4⟩:=ha;have hlen:vs.length=ls.length:=by have:=congrArg List.length a1;simpa using this
    refine⟨fun j=>?_,?_⟩
    ·show Aa _ _ (nth .bad (AY 1 ls vs) j) (Fe ps w args bk r j) (om (.lf r j));rcases hQ j ls.length with Tc|US
     ·have p1:=gK Tc;have p2:=gK (show j<vs.length by omega);obtain⟨y,hy,hr⟩:=a3 j _ _ p1 p2;rw[Af,B3 1 ls vs j _ _ p1 p2,show Fe ps w args bk r j=some y by simp[Fe,h1,h2,hy]];exact FP (W':=Lw ps w fz args bk om) hr
     ·rw[A3 _ (by rw[Bh 1 ls vs hlen];exact US)];exact⟨TW.row r g ls h1 j US,fun _ _=>trivial⟩
    ·show om (.AS r)=[];rw[TW.AS,h1]
  grind
 ·exact {
   nodup:=TW.nodup
   Ar:=TW.Ar
   own:=fun k b hb=>⟨(TW.own k b hb).1,(TW.own k b hb).2,.inr ⟨k,hb⟩⟩
   fz:=fun b hb=>⟨TW.fz b hb,.inl hb⟩
   frame:=fun _ _ _=>rfl
   size:=gk _
   rest:=⟨rfl,rfl,rfl⟩ }
end
end Go.Ev
namespace Go.Ev
theorem Gl{P:Program}{fn:Func}{tm:Array Value}{w:World}{vals:List Value}(h:JX P w tm fn.results.toList vals):(results fn tm).run P w=.ok (JM vals) w:=by
 have key:∀(g:ResultVar→Sem Value),(∀t,g (.tmp t)=pure (tm.getD t undef))→(∀t T,g (.cell t T)=(do loadVar T (←asAddr (tm.getD t undef))))→∀(l:List ResultVar)(vals:List Value),JX P w tm l vals→(l.mapM g).run P w=.ok vals w:=by
  intro g hg ZW l
  induction l with
  |nil=>
   intro vals hl;cases vals with
   |nil=>rfl
   |cons v vs=>exact hl.elim
  |cons v l ih=>
   intro vals hl;cases vals with
   |nil=>cases v<;>exact hl.elim
   |cons u us=>
    rw[List.mapM_cons,Sem.run_bind];cases v with
    |tmp t=>
     obtain⟨rfl,hl⟩:=hl;rw[hg];simp[Sem.run_bind,ih us hl]
    |cell a t=>
     obtain⟨h1,hl⟩:=hl;rw[ZW,h1];simp[Sem.run_bind,ih us hl]
 unfold results;rw[Array.mapM_eq_mapM_toList];simp only[map_eq_pure_bind,bind_assoc,pure_bind];rw[Sem.run_bind,key _ ?h1 ?h2 _ vals h]
 case h1=>intro t;rfl
 case h2=>grind
 show Result.ok _ w=_;congr 1
 match vals with
 | []=>rfl
 | [u]=>rfl
 |u::v::l=>simp[JM]
section
variable {P:Program}{ty:TypeId→Option Ty}{env:Env}{an:An}{n:Nat}{sm:Sm}{fn:Func}{f:FuncId}{c:Code}
theorem NZ{T:List (String×Array Value)}{w:World}{fz:Nat→Prop}{args:List Value}{TX:List (List Lv)}{bk:Nat→Nat}{om:Key→List Nat}{s:St}{W:Wd}{tm:Array Value}{z:sm.outs.D}
  (TW:CW sm.ps w fz args TX bk om) (h:AU (HW T sm.ps w fz args bk om) s tm W) (VQ:∀t x,ty t=some x→Nk P t x) (hz:H4 ty sm fn.results.toList TX.flatten s=some z):
  ∃r UE rv vsR vsP,(results fn tm).run P W.w=.ok r W.w∧Ee sm w fz args bk om z r W.w W.fz UE rv vsR vsP:=by
 unfold H4 at hz;obtain⟨tt,hl,WK⟩:=Step.Cw _ hz;obtain⟨vals,vsR,us1,osR,hl,U9,X6,Uy⟩:=HK VQ h sm.rs fn.results.toList hl
 obtain⟨vsP,us2,osP,hl,dy,U2,VD,U7⟩:=IQ h 0 sm.ps TX TW.BW (fun j pm vs hj hv=>by
  obtain⟨u,hu⟩:∃u,args[j]?=some u:=⟨_,gK (by rw[TW.len];grind)⟩;exact(TW.each j pm u vs hj hu hv).kinds) hl
 have hl:vsR.flatten++vsP.flatten=tt:=hl;subst hl;have X1:=U9.append VD;have Yh:=X1.pair h.sep.Ar;have UU:=X1.nodup;have V7:=X1.mem;rw[List.pairwise_append]at Yh;obtain⟨cJ,W0,aK⟩:=Yh;rw[List.pairwise_flatten]at W0;obtain⟨W0,bA⟩:=W0
 let UE:Key→List Nat
  | .fl k=>(osR[k]?).getD []
  | .lf i j=>(((osP[i]?).getD [])[j]?).getD []
  | .AS i=>om (.AS i)
 have inR:∀k,∀b∈UE (.fl k),∃o,osR[k]?=some o∧b∈o:=by
  intro k b hb;have hb:b∈(osR[k]?).getD []:=hb;cases hq:osR[k]? with
  |none=>grind
  |some o=>grind
 have inP:∀i j,∀b∈UE (.lf i j),∃os o,osP[i]?=some os∧os[j]?=some o∧b∈o:=by
  intro i j b hb;have hb:b∈(((osP[i]?).getD [])[j]?).getD []:=hb;cases hq:osP[i]? with
  |none=>grind
  |some os=>
   grind
 have memP:∀ {i j:Nat} {os:List (List Nat)} {o:List Nat},osP[i]?=some os→os[j]?=some o→o∈osP.flatten:=fun h1 h2=>List.mem_flatten.2 ⟨_,gP h1,gP h2⟩
 have blkW:∀i,∀b∈om (.AS i),W.om (.AS i)=om (.AS i):=by
  intro i b hb;have hk:=TW.AS i;cases hq:sm.ps[i]? with
  |none=>grind
  |some pm=>
   rw[hq]at hk;cases pm with
   |box ls=>
    have Tc:i<sm.ps.length:=(gM.1 hq).1;have Xr:=U7 i (.box ls) _ _ _ hq (gK (by rw[TW.BW];exact Tc)) (gK (by omega)) (gK (by omega));rw[gb]at Xr;obtain⟨b1,b2,_⟩:=Xr;have h2:=(h.roots i).2;rw[gS b1]at h2;rw[h2.1,h.init.2 i b1 b2,hk];rfl
   |val g ls=>grind
   |row g ls=>grind
   |fn f=>grind
 have YX:∀k,∀b∈UE k,∃k0,b∈W.om k0∧((∃i,k0=.AS i∧k=.AS i)∨∃r j,k0=.lf r j):=by
  intro k b hb;cases k with
  |fl k=>
   grind
  |lf i j=>
   grind
  |AS i=>
   grind
 have eJ:=Gl X6;refine⟨_,UE,vals,vsR,vsP,eJ,?_⟩
 refine {
  outs:=Ag _ _ _ WK
  res:=rfl
  H3:=Uy 0 _ fun j hj=>by grind
  len:=dy
  each:=?_
  AS:=fun _=>rfl
  nodup:=?_
  Ar:=?_
  own:=?_
  fz:=fun b hb=>h.sep.fz b hb |>.imp id fun hh=>hh.imp id id
  frame:=fun b hb hk=>h.sep.frame b hb fun⟨k,hh⟩=>hk k hh
  size:=h.sep.size
  rest:=h.sep.rest
  kept:=?_ }
 rotate_right
 ·intro i ls j p h1 h2 h3;have Tc:i<osP.length:=by rw[U2];exact(gM.1 h1).1
  have XG:=gK (show i<TX.length by rw[TW.BW];omega);have XW:=gK (show i<vsP.length by omega);have Xr:=U7 i (.box ls) _ _ _ h1 XG XW (gK Tc);rw[gb]at Xr;obtain⟨b1,b2,b3,b4,b5,b6,b7⟩:=Xr;have hq:=b7 j p h2 h3;rw[h.init.2 i b1 b2]at hq;have hq:W.w.cell? ⟨bk i,j,none⟩=Fe sm.ps w args bk i j:=hq;rw[hq];simp only[Fe,h1]
 ·intro i pm u vs h1 h2 h3;have Tc:i<osP.length:=by rw[U2];exact(gM.1 h1).1
  have cH:=gK Tc;obtain⟨vs0,XG⟩:∃vs0,TX[i]?=some vs0:=⟨_,gK (by rw[TW.BW];omega)⟩;have Xr:=U7 i pm vs0 vs _ h1 XG h3 cH;rw[gb]at Xr;have ha:=TW.each i pm u vs0 h1 h2 XG
  have WA:∀j,UE (.lf i j)=(osP[i][j]?).getD []:=by intro j;show(((osP[i]?).getD [])[j]?).getD []=_;rw[cH];rfl
  cases pm with
  |val g ls=>exact Xr.1
  |fn f=>exact Xr.1
  |box ls=>
   obtain⟨b1,b2,b3,b4,b5,b6,_⟩:=Xr;have Vs:=(h.roots i).2;rw[gS b1]at Vs;obtain⟨q1,arr,T,fr,q2,q3,q4,q5⟩:=Vs;have XS:W.bk i=bk i:=h.init.2 i b1 b2;rw[XS]at q2;refine⟨ha.1,b4,arr,T,fr,q2,q3,by rw[q4,b3],fun j p lv hj hv=>?_⟩;obtain⟨y,hy,hr⟩:=b6 j p lv hj hv;refine⟨y,?_,?_⟩
   ·rw[XS]at hy;simpa[World.cell?,q2]using hy
   grind
  |row g ls=>
   obtain⟨⟨a1,a2,a3⟩,_⟩:=ha;obtain⟨b1,b2,b3⟩:=Xr;have hlen0:vs0.length=ls.length:=by have:=congrArg List.length a1;simpa using this
   have bn:∀(j:Nat)(p:L×Nat)(lv:Lv),ls[j]?=some p→vs[j]?=some lv→lv.l=p.1∧∃y,Av g u j=some y∧lv.l.rd p.2 W.w W.fz y lv.x (UE (.lf i j)):=by
    intro j p lv hj hv;rw[WA];rcases b3 j p lv hj hv with⟨_,c2,y,hy,hr⟩|⟨c1,c2,c3⟩
    ·refine⟨c2,y,?_,hr⟩;have hy:Fe sm.ps w args bk i j=some y:=hy;simpa[Fe,h1,h2]using hy
    ·obtain⟨y,hy,hr⟩:=a3 j p lv hj c2
     have hl:lv.l=p.1:=by have:=congrArg (fun x=>x[j]?) a1;simpa[hj,c2]using this
     have Xe:=L.AZ (d':=p.2) (w':=W.w) (TZ:=W.fz) lv.l (by rw[hl];exact c1) hr;have h7:=Xe.1;rw[show(fun j=>om (Key.lf i j)) j=[]from Xe.2]at h7;refine⟨hl,y,hy,?_⟩;rw[c3];exact h7
   refine⟨?_,a2,fun j p lv hj hv=>(bn j p lv hj hv).2⟩;apply List.ext_getElem?;grind
 ·intro k;cases k with
  |fl k=>
   grind
  |lf i j=>
   grind
  |AS i=>exact TW.nodup _
 ·intro k k' Tf b hb Tk
  have cross:∀i (k0:Key),(∀i,k0≠.AS i)→b∈UE (.AS i)→b∈UE k0→False:=by
   intro i k0 hk h1 h2;have h1:b∈om (.AS i):=h1;have h3:b∈W.om (.AS i):=by rw[blkW i b h1];exact h1
   obtain⟨k1,h4,h5⟩:=YX k0 b h2;rcases h5 with⟨i',_,h5⟩|⟨r,j,rfl⟩
   ·grind
   ·exact h.sep.Ar _ _ (by simp) b h3 h4
  cases k with
  |AS i=>cases k' with
   |AS i'=>exact TW.Ar _ _ Tf b hb Tk
   |lf i' j'=>exact cross i (.lf i' j') (by simp) hb Tk
   |fl k'=>exact cross i (.fl k') (by simp) hb Tk
  |lf i j=>cases k' with
   |AS i'=>exact cross i' (.lf i j) (by simp) Tk hb
   |lf i' j'=>
    obtain⟨os,o,h1,h2,hb⟩:=inP i j b hb;obtain⟨UP,o',VC,Vs,hc⟩:=inP i' j' b Tk;by_cases hi:i=i'
    ·subst hi;rw[h1]at VC;injection VC with VC;subst VC
     have hj:j≠j':=fun e=>Tf (by rw[e]);exact JJ (fun _ _=>FA.symm) (W0 os (gP h1)) hj h2 Vs b hb hc
    ·have:=JJ (R:=fun l₁ l₂=>∀x,x∈l₁→∀y,y∈l₂→FA x y) (fun a c hh x hx y hy=>(hh y hy x hx).symm) bA hi h1 VC;exact this o (gP h2) o' (gP Vs) b hb hc
   |fl k'=>
    obtain⟨os,o,h1,h2,hb⟩:=inP i j b hb;obtain⟨o',VC,Tk⟩:=inR k' b Tk;exact aK o' (gP VC) o (memP h1 h2) b Tk hb
  |fl k=>cases k' with
   |AS i'=>exact cross i' (.fl k) (by simp) Tk hb
   |lf i' j'=>
    obtain⟨os,o,h1,h2,Tk⟩:=inP i' j' b Tk;obtain⟨o',VC,hb⟩:=inR k b hb;exact aK o' (gP VC) o (memP h1 h2) b hb Tk
   |fl k'=>
    obtain⟨o,h1,hb⟩:=inR k b hb;obtain⟨o',VC,Tk⟩:=inR k' b Tk;exact JJ (fun _ _=>FA.symm) cJ (fun e=>Tf (by rw[e])) h1 VC b hb Tk
 ·intro k b hb;obtain⟨k0,h1,_⟩:=YX k b hb;exact h.sep.own k0 b h1
theorem OM{T:List (String×Array Value)}{w:World}{fz:Nat→Prop}{args:List Value}{TX:List (List Lv)}{bk:Nat→Nat}{om:Key→List Nat}{s:St}{W:Wd}{tm:Array Value}{z:sm.outs.D}{v:Nat}
  (TW:CW sm.ps w fz args TX bk om) (h:AU (HW T sm.ps w fz args bk om) s tm W) (hv:Ac s v) (VQ:∀t x,ty t=some x→Nk P t x) (Vl:sm.mk?=false) (hz:DR ty sm fn.results.toList TX.flatten s=some z):
  ∃r TZ UE rv vsR vsP,(results fn tm).run P W.w=.ok r W.w∧Ee sm w fz args bk om z r W.w TZ UE rv vsR vsP:=by
 unfold DR at hz;rw[Vl]at hz;simp only[ib,if_false]at hz;split at hz
 ·rename_i fs VR;obtain⟨W1,h1,fr,_⟩:=Em h hv VR;obtain⟨r,UE,rv,vsR,vsP,q1,q2⟩:=NZ (P:=P) (fn:=fn) TW h1 VQ hz;rw[fr.w]at q1 q2;grind
 ·cases hz
theorem Hx:∀(ls:List L)(as:List LA) {vs:List Lv},DQ ls as=some vs→vs.map (·.l)=ls∧as.length=ls.length∧∀(j:Nat)(lv:Lv),vs[j]?=some lv→as[j]?=some (.sc lv.l lv.x)
 | [],[],vs,h=>by simp only[DQ,Option.some.injEq]at h;grind
 |l::ls,a::as,vs,h=>by
  cases a with
  |sc m x=>
   simp only[DQ]at h;split at h
   ·rename_i y ys hc hr;injection h with h
    subst h;obtain⟨h1,h2,h3⟩:=Hx ls as hr;obtain⟨rfl,eV⟩:=L.AH hc;grind
   ·cases h
  |_=>simp[DQ]at h
 | [],_::_,vs,h=>by simp[DQ]at h
 |_::_,[],vs,h=>by simp[DQ]at h
theorem OL{T:List (String×Array Value)}{w:World}{fz:Nat→Prop}{args:List Value}{TX:List (List Lv)}{bk:Nat→Nat}{om:Key→List Nat}{s:St}{W:Wd}{tm:Array Value}{z:sm.outs.D}
  (TW:CW sm.ps w fz args TX bk om) (h:AU (HW T sm.ps w fz args bk om) s tm W) (Vl:sm.mk?=true) (hz:DR ty sm fn.results.toList TX.flatten s=some z):
  ∃r b,(results fn tm).run P W.w=.ok r W.w∧L1 sm w fz z r W.w W.fz b:=by
 unfold DR at hz;rw[Vl,gS rfl]at hz;unfold Np at hz;split at hz
 ·rename_i t X6;split at hz
  ·rename_i r AA XF;split at hz
   ·rename_i hc;simp only[gL,gV]at hc;obtain⟨⟨Vf,UB⟩,Te⟩:=hc;split at hz
    ·rename_i vs VF;have hu:=h.AO t;rw[XF]at hu;have hu:tm.getD t Go.undef=.pointer (some ⟨W.bk r,0,none⟩):=hu UB Te;obtain⟨p1,p2,p3⟩:=Hx _ _ VF;have T4:=h.roots r;obtain⟨hl,hb⟩:=T4;rw[gS UB]at hb;obtain⟨Ug,arr,T0,fr,Ts,UQ,Tt,T3⟩:=hb;unfold Sm.plain at Vf;simp only[gL]at Vf
     have U0:∀pm∈sm.ps,∃g ls,pm=.val g ls:=fun pm eE=>by
      have:=gY.1 Vf.1 pm eE;cases pm with
      |val g ls=>grind
      |_=>cases this
     have VM:∀k,om k=[]:=by
      intro k;cases k with
      |fl n=>exact TW.fl n
      |AS i=>
       rw[TW.AS i];cases hq:sm.ps[i]? with
       |none=>rfl
       |some pm=>obtain⟨g,ls,rfl⟩:=U0 pm (gP hq);rfl
      |lf i j=>
       refine TW.none i (fun ls hq=>?_) (fun g ls hq=>?_) j
       ·obtain⟨g,ls,hh⟩:=U0 _ (gP hq);cases hh
       ·obtain⟨g,ls,hh⟩:=U0 _ (gP hq);cases hh
     have Wh:∀b,¬(∃k,b∈om k):=fun b ⟨k,hb⟩=>by grind
     have WB:=h.sep.own (.AS r) (W.bk r) (by grind);have Ti:=Gl (fn:=fn) (P:=P) (w:=W.w) (tm:=tm) (vals:=[tm.getD t Go.undef]) (by rw[X6];exact⟨rfl,trivial⟩);refine⟨_,W.bk r,Ti,?_⟩;have Ui:unpack sm.outs z=vs:=Ag _ _ _ hz
     exact {
      box:=by
       rw[Ui];refine⟨hu,p1,arr,T0,fr,Ts,UQ,by grind,fun j p lv hj Ur=>?_⟩;have XV:=p3 j lv Ur;have X5:=hl j;rw[Af,XV]at X5;have Y5:j<arr.size:=by rw[Tt];exact(gM.1 XV).1
       have YG:arr[j]?=some arr[j]:=gp Y5;refine⟨arr[j],YG,?_⟩;have hp:p.2=0:=by simpa using gY.1 Vf.2 p (gP hj)
       rw[hp];exact X5.2 _ (by grind)
      new:=⟨WB.2.2.elim id fun h=>(Wh _ h).elim,WB.2.1,WB.1⟩
      fz:=fun x hx=>by
       obtain⟨a1,a2⟩:=h.sep.fz x hx;refine⟨a1,?_⟩;rcases a2 with a2|a2|a2
       ·exact .inl a2
       ·exact .inr a2
       ·exact(Wh _ a2).elim
      frame:=fun x hx=>h.sep.frame x hx (Wh x)
      size:=h.sep.size
      rest:=h.sep.rest }
    ·cases hz
   ·cases hz
  ·cases hz
 ·cases hz
theorem Oh{T:List (String×Array Value)}(hf:P.funcs[f]?=some fn)(hb:fn.body=some c)(hlen:sm.ps.length≤fn.ntmps)(VQ:∀t x,ty t=some x→Nk P t x)(Tu:Km P T env)(hm:P.follows .mixedOrders=true):
  D9 P T f ⟨sm,MB ty env an n fn sm⟩:=by
 intro args w fz TX bk om x z bg TW hx hz;have hz:MB ty env an n fn sm x=some z:=hz;have hu:unpack sm.ins x=TX.flatten:=Ag _ _ _ hx;simp only[MB,hb,hu]at hz;cases hp:C9 0 sm.ps TX.flatten with
 |none=>grind
 |some ws=>
  rw[hp]at hz;dsimp only at hz;split at hz
  ·cases hz
  ·rename_i To;have To:codeOk fn.ntmps c=true:=by simpa using To
   refine calls_of_wp hf hb ?_;have TY:=MG (T:=T) TW hp hlen;have hinv:=MF (N:=fn.ntmps) TW hp hlen;have YH:Claim P (HW T sm.ps w fz args bk om) fn.ntmps an n (DR ty sm fn.results.toList TX.flatten) c:=(NG hm c).1
   have fin:∀ {s':St} {a':Act} {W':Wd} {z':sm.outs.D},a'.defers=[]→AU (HW T sm.ps w fz args bk om) s' a'.tmps W'→Inv fn.ntmps s'→DR ty sm fn.results.toList TX.flatten s'=some z'→bodyPost P fn (fun en w'=>match sm.mk? with
     |false=>∃r TZ UE rv vsR vsP,en=.returned r∧Ee sm w fz args bk om z' r w' TZ UE rv vsR vsP
     |true=>∃r TZ b,en=.returned r∧L1 sm w fz z' r w' TZ b) .ret a' W'.w:=by
    intro s' a' W' z' hd hr hi hq;cases Vl:sm.mk? with
    |false=>
     obtain⟨r,TZ,UE,rv,vsR,vsP,h1,h2⟩:=OM (P:=P) (fn:=fn) TW hr (hi.AG.Hp (v:=s'.Bm) (Nat.lt_irrefl _) (by have:=hi.two;omega)) VQ Vl hq;exact⟨hd,r,h1,r,TZ,UE,rv,vsR,vsP,rfl,h2⟩
    |true=>
     obtain⟨r,b,h1,h2⟩:=OL (P:=P) (fn:=fn) TW hr Vl hq;exact⟨hd,r,h1,r,W'.fz,b,rfl,h2⟩
   refine YH (W:=Lw sm.ps w fz args bk om) (a:=⟨_,[]⟩) (Q:=bodyPost P fn _) ?_ (show DH P (HW T sm.ps w fz args bk om) env from⟨Tu,bg⟩) To (fun _ _=>⟨rfl,rfl⟩) TY hinv hz ?_ ?_ ?_
   ·exact VQ
   ·intro s' a' W' hd hr hi hk hq;exact fin hd hr hi hq
   all_goals grind
end
end Go.Ev
namespace Go.Ev
mutual
def L.fit:(l:L)→l.D→Prop
 | .int k,x=>k.min≤(show Int from x)∧(show Int from x)≤k.max
 | .bool,_=>True
 | .str,x=>List.length (α:=UInt8) x≤maxLen
 | .sl _ e,x=>List.length (α:=e.D) x≤maxLen∧∀y,List.Mem (α:=e.D) y x→e.fit y
def Ls.fit:(ls:Ls)→ls.D→Prop
 | .nil,_=>True
 | .one l,x=>l.fit x
 | .cons l ls,x=>l.fit x.1∧ls.fit x.2
end
theorem MO:∀ls:List L,(Ew ls).n=ls.length
 | []=>rfl
 | [_]=>rfl
 |_::m::r=>by simp only[Ew,Ls.n,MO (m::r),iU]
theorem DB:∀ls:List L,(Ew ls).kinds=ls
 | []=>rfl
 | [_]=>rfl
 |_::m::r=>by simp only[Ew,Ls.kinds,DB (m::r)]
mutual
theorem L.C4:∀l:L,L.eq? l l=true
 | .int _=>by simp[L.eq?]
 | .bool=>rfl
 | .str=>rfl
 | .sl t e=>by simp[L.eq?,Ls.C4 e]
theorem Ls.C4:∀e:Ls,Ls.eq? e e=true
 | .nil=>rfl
 | .one l=>by simp[Ls.eq?,L.C4 l]
 | .cons l ls=>by simp[Ls.eq?,L.C4 l,Ls.C4 ls]
end
theorem Fw:∀(e:Ls)(vs:List Lv),vs.map (·.l)=e.kinds→∃x:e.D,pack e vs=some x∧((∀(j:Nat)(lv:Lv),vs[j]?=some lv→lv.l.fit lv.x)→e.fit x)
 | .nil,[],_=>⟨(),rfl,fun _=>trivial⟩
 | .nil,_::_,h=>by simp[Ls.kinds]at h
 | .one l,[],h=>by simp[Ls.kinds]at h
 | .one l,[v],h=>by simp[Ls.kinds]at h;subst h;refine⟨v.x,?_,fun hf=>hf 0 v rfl⟩;have he:L.eq? v.l v.l=true:=L.C4 v.l;simp only[pack,L.cast,he,dif_pos];rfl
 | .one l,_::_::_,h=>by simp[Ls.kinds]at h
 | .cons l ls,[],h=>by simp[Ls.kinds]at h
 | .cons l ls,v::vs,h=>by simp only[Ls.kinds,iR,List.cons.injEq]at h;obtain⟨h1,h2⟩:=h;subst h1;obtain⟨xs,hx,hf⟩:=Fw ls vs h2;have he:L.eq? v.l v.l=true:=L.C4 v.l;refine⟨(v.x,xs),?_,fun hh=>⟨hh 0 v rfl,hf fun j lv hj=>hh (j+1) lv (by grind)⟩⟩;simp only[pack,L.cast,he,dif_pos,hx]
def Ju(P:Program)(r:TypeId→Option (List L)):Nat→List Field→Option (List L)
 |_,[]=>some []
 |off,f::fs=>match f.offset==off,r f.type with
  |true,some ls=>match P.cellsOf f.type==ls.length,Ju P r (off+ls.length) fs with
   |true,some ms=>some (ls++ms)
   |_,_=>none
  |_,_=>none
def lay(P:Program):Nat→TypeId→Option (List L)
 |0,_=>none
 |k+1,t=>match P.underlying t with
  |some .bool=>some [.bool]
  |some (.int k)=>some [.int k]
  |some .string=>some [.str]
  |some (.slice e)=>match lay P k e with
   |some ls=>match P.cellsOf e==ls.length,ls with
    |true,l::ls=>some [.sl e (Ew (l::ls))]
    |_,_=>none
   |none=>none
  |some (.struct fs)=>match Ju P (lay P k) 0 fs.toList with
   |some ls=>match P.cellsOf t==ls.length with
    |true=>some ls
    |false=>none
   |none=>none
  |_=>none
def Old(w:World)(b:Nat):Prop:=b<w.heap.size
section
variable {H:Type}{enc:TypeId×Value→H}{P:Program}{w:World}{base:Nat}{held:Bool}
def Holds(w:World)(ls:List L)(cs:List Value):Prop:=cs.length=ls.length∧∃vs:List Lv,vs.map (·.l)=ls∧∀(j:Nat)(lv:Lv),vs[j]?=some lv→∃v,cs[j]?=some v∧lv.l.rd 0 w (Old w) v lv.x []∧lv.l.fit lv.x
theorem Holds.append{ls ms:List L}{cs ds:List Value}(h1:Holds w ls cs)(h2:Holds w ms ds):Holds w (ls++ms) (cs++ds):=by
 obtain⟨a1,vs,a2,a3⟩:=h1;obtain⟨b1,us,b2,b3⟩:=h2;have hl:vs.length=cs.length:=by have:=congrArg List.length a2;simp at this;omega
 refine⟨by simp[a1,b1],vs++us,by simp[a2,b2],fun j lv hj=>?_⟩;grind
theorem Holds.elem{e:Ls}{cs:List Value}(h:Holds w e.kinds cs):∃x:e.D,e.rd 0 w (Old w) (fun j=>cs[j]?) x []∧e.fit x:=by
 obtain⟨_,vs,h1,h2⟩:=h;obtain⟨x,hx,hf⟩:=Fw e vs h1;refine⟨x,Bd e fun j lv hj=>?_,hf fun j lv hj=>?_⟩
 ·rw[Ag e vs x hx]at hj;obtain⟨v,hv,hr,_⟩:=h2 j lv hj;exact⟨v,hv,hr⟩
 grind
theorem Jv{r:TypeId→Option (List L)}{cs:List Value}:∀(fs:List Field)(off:Nat) {ls:List L},Ju P r off fs=some ls→off+ls.length=cs.length→
  (∀(i:Nat)(f:Field)(ms:List L),fs[i]?=some f→r f.type=some ms→Holds w ms ((cs.drop f.offset).take (P.cellsOf f.type)))→Holds w ls (cs.drop off)
 | [],off,ls,h,hl,hf=>by
  simp only[Ju,Option.some.injEq]at h;subst h;have:cs.drop off=[]:=by simp at hl;simp;omega
  rw[this];exact⟨rfl,[],rfl,fun j lv hj=>by simp at hj⟩
 |f::fs,off,ls,h,hl,hf=>by
  simp only[Ju]at h;split at h
  ·rename_i ls1 V9 hr;have V9:f.offset=off:=by simpa using V9
   split at h
   ·rename_i ms hc Tn;injection h with h
    subst h;have hc:P.cellsOf f.type=ls1.length:=by simpa using hc
    have h1:=hf 0 f ls1 rfl hr;rw[V9,hc]at h1;have h2:=Jv fs (off+ls1.length) Tn (by grind) fun i f' ea hi UI=>hf (i+1) f' ea (by grind) UI;have:=h1.append h2;rw[←List.drop_drop,List.take_append_drop]at this;exact this
   ·cases h
  ·cases h
theorem Jf{a:Addr}{n i:Nat}{cs:List Value}(hn:0<n)(hs:a.spot=none)(h:w.cells? base (a.add (i*n)) n=some cs):cs.length=n∧∀j,j<n→w.cell? ⟨a.block,a.off+(i*n+j),none⟩=cs[j]?:=by obtain⟨_,h1,h2⟩:=World.cells?_some h;refine⟨h1,fun j hj=>?_⟩;rw[←h2 j hj,EF hs];have:(at_ a (i*n)).spot=none:=rfl;rw[EF this];simp[at_,Nat.add_assoc]
theorem Lo{a:Addr}{n:Nat}{cs:List Value}(hn:0<n)(h:w.cells? base (a.add (0*n)) n=some cs):a.spot=none:=by
 obtain⟨_,h1,h2⟩:=World.cells?_some h;have:=h2 0 hn;rw[show cs[0]?=some (cs[0]'(by omega))from gK _]at this;simp only[Nat.zero_mul,Addr.add,gS]at this;unfold World.cell? at this;split at this
 ·cases hq:a.spot with
  |none=>rfl
  |some s=>grind
 ·cases this
theorem IF:∀(k:Nat) {t:TypeId} {ls:List L} {fuel:Nat} {cs:List Value} {x:DataW H×List MemPlace},lay P k t=some ls→DataW.trod enc P w base (fun _=>true) held fuel t cs=some x→Holds w ls cs
 |0,t,ls,fuel,cs,x,h,hx=>by simp[lay]at h
 |k+1,t,ls,fuel,cs,x,h,hx=>by
  simp only[lay]at h;split at h
  ·rename_i hu;injection h with h;subst h
   obtain⟨b,rfl,_⟩:=DataW.trod_bool hu hx;refine⟨rfl,[⟨.bool,show Bool from b⟩],rfl,fun j lv hj=>?_⟩;cases j with
   |zero=>simp at hj;subst hj;exact⟨_,rfl,⟨rfl,rfl⟩,trivial⟩
   |succ j=>simp at hj
  ·rename_i kk hu;injection h with h;subst h
   obtain⟨n,rfl,_,hw⟩:=DataW.trod_int hu hx;refine⟨rfl,[⟨.int kk,show Int from n⟩],rfl,fun j lv hj=>?_⟩;cases j with
   |zero=>simp at hj;subst hj;exact⟨_,rfl,⟨rfl,rfl⟩,by simpa[Lit.wf,L.fit]using hw⟩
   |succ j=>simp at hj
  ·rename_i hu;injection h with h;subst h
   obtain⟨s,rfl,_,hs⟩:=DataW.trod_string hu hx;refine⟨rfl,[⟨.str,show List UInt8 from s.data.toList⟩],rfl,fun j lv hj=>?_⟩;cases j with
   |zero=>simp at hj;subst hj;exact⟨_,rfl,⟨by simp,rfl⟩,by simpa[L.fit]using hs⟩
   |succ j=>simp at hj
  ·rename_i e hu;split at h
   ·rename_i ls1 VZ;split at h
    ·rename_i l ls2 hc;injection h with h;subst h
     have hc:P.cellsOf e=(l::ls2).length:=by simpa using hc
     let E:Ls:=Ew (l::ls2)
     have hEn:E.n=P.cellsOf e:=by rw[hc];exact MO _
     have dh:E.kinds=l::ls2:=DB _;have WC:0<P.cellsOf e:=by rw[hc];simp
     rcases DataW.trod_slice hu hx with⟨rfl,_⟩|⟨a,len,cap,elems,rest,n,rfl,rfl,_,hb,hle,Ua,Tr,h1,h2,_⟩
     ·refine⟨rfl,[⟨.sl e E,([]:List E.D)⟩],rfl,fun j lv hj=>?_⟩;cases j with
      |zero=>simp at hj;subst hj;exact⟨_,rfl,Bj,by simp[L.fit],fun y hy=>by cases hy⟩
      |succ j=>simp at hj
     ·have all:∀i,i<cap→∃Zj y,w.cells? base (a.add (i*P.cellsOf e)) (P.cellsOf e)=some Zj∧DataW.trod enc P w base (fun _=>true) held n e Zj=some y:=by
       intro i hi;obtain⟨h3,h4⟩:=h2 rfl;rcases hQ i len with Tc|US
       ·have:=h1 i Tc;rw[gK (show i<elems.length by omega)]at this;obtain⟨Zj,q1,q2⟩:=ig.1 this;grind
       ·have:=h4 (i-len) (by omega);rw[gK (show i-len<rest.length by omega),show len+(i-len)=i by omega]at this;obtain⟨Zj,q1,q2⟩:=ig.1 this;grind
      have elem:a.spot=none→∀i,i<cap→∃y:E.D,E.rd 0 w (Old w) (fun j=>w.cell? ⟨a.block,a.off+(i*E.n+j),none⟩) y []∧E.fit y:=by intro hs i hi;obtain⟨Zj,y,q1,q2⟩:=all i hi;have hh:=IF k VZ q2;rw[←dh]at hh;obtain⟨z,hz,hf⟩:=hh.elem;obtain⟨c1,c2⟩:=Jf WC hs q1;exact⟨z,Ls.BD E hz fun j hj=>by grind,hf⟩
      refine⟨rfl,?_⟩;by_cases ZT:cap=0
      ·have Uv:len=0:=by omega
       subst Uv;subst ZT;refine⟨[⟨.sl e E,([]:List E.D)⟩],rfl,fun j lv hj=>?_⟩;cases j with
       |zero=>simp at hj;subst hj;exact⟨_,rfl,⟨some a,0,rfl,gk _,.inl ⟨rfl,rfl,rfl⟩⟩,by simp[L.fit],fun y hy=>by cases hy⟩
       |succ j=>simp at hj
      ·obtain⟨cs0,y0,q0,_⟩:=all 0 (by omega);have hs:=Lo WC q0;have hy:=elem hs
       let F:Nat→E.D:=fun i=>if hi:i<cap then(hy i hi).choose else FV E
       have hF:∀i,i<cap→E.rd 0 w (Old w) (fun j=>w.cell? ⟨a.block,a.off+(i*E.n+j),none⟩) (F i) []∧E.fit (F i):=by intro i hi;simp only[F,dif_pos hi];exact(hy i hi).choose_spec
       obtain⟨csl,yl,ql,_⟩:=all (cap-1) (by omega);obtain⟨l1,l2⟩:=Jf WC hs ql;have WS:=l2 (P.cellsOf e-1) (by omega);rw[gK (show P.cellsOf e-1<csl.length by omega)]at WS
       have V9:a.off+((cap-1)*P.cellsOf e+(P.cellsOf e-1))=a.off+cap*P.cellsOf e-1:=by
        have:cap*P.cellsOf e=(cap-1)*P.cellsOf e+P.cellsOf e:=by rw[←Nat.succ_mul];congr 1;omega
        omega
       rw[V9]at WS
       have Ug:∃arr T fr,w.heap[a.block]?=some (.cells arr T fr)∧a.off+cap*P.cellsOf e≤arr.size:=by
        unfold World.cell? at WS;split at WS
        ·grind
        ·cases WS
       obtain⟨arr,T,fr,hh,Tt⟩:=Ug
       let xs:List E.D:=(List.range len).map F
       have Ze:xs.length=len:=by simp[xs]
       have eU:∀i (hi:i<xs.length),xs[i]=F i:=fun i hi=>by simp[xs]
       refine⟨[⟨.sl e E,xs⟩],rfl,fun j lv hj=>?_⟩;cases j with
       |succ j=>simp at hj
       |zero=>
        simp at hj;subst hj;refine⟨_,rfl,⟨some a,cap,by rw[Ze],by grind,.inr ⟨fun j=>arr[a.off+j]?,fun _=>[],⟨hs,arr,T,fr,hh,by grind,fun h=>by simp at h,fun j=>rfl⟩,fun i hi=>?_,?_⟩⟩,?_,fun y hy=>?_⟩
        ·have hi:i<xs.length:=hi;show E.rd 0 w (Old w) _ xs[i] [];rw[eU i hi];have:=(hF i (by omega)).1;refine Ls.BD E this fun j hj=>?_;simp[World.cell?,hh]
        ·exact⟨(iE.1 hh).1,rfl,fun _ _=>rfl⟩
        ·grind
        ·have hy:y∈xs:=hy;obtain⟨i,hi,rfl⟩:=hR.1 hy;grind
    ·cases h
   ·cases h
  ·rename_i fs hu;split at h
   ·rename_i ls1 VZ;split at h
    ·rename_i hc;injection h with h;subst h
     have hc:P.cellsOf t=ls1.length:=by simpa using hc
     obtain⟨xs,n,rfl,_,hlen,Ze,Tp⟩:=DataW.trod_struct hu hx
     have:=Jv (w:=w) (cs:=cs) fs.toList 0 VZ (by omega) fun i f ms hi hr=>by
      have U3:fs[i]?=some f:=by simpa using hi
      have Tc:i<xs.length:=by rw[Ze];exact(iE.1 U3).1
      have hg:=Tp i f U3;rw[gK Tc]at hg;exact IF k hr hg
     grind
    ·cases h
   ·cases h
  ·cases h
end
end Go.Ev
namespace Go.Ev
open Go.ChangeShapes Go.RowKit
def HA(P:Program)(t:TypeId):Bool:=match P.underlying t with
 |some (.struct _)=>true
 |_=>false
def FU(P:Program):List TypeId→Option (List PM)
 | []=>some []
 |t::ts=>match lay P 12 t,FU P ts with
  |some ls,some ps=>some (.val (HA P t) ls::ps)
  |_,_=>none
def GO(P:Program)(ts:List TypeId):Bool:=ts.all fun t=>P.readableRec t&&decide (t<P.types.size)
section
variable {H:Type}{enc:TypeId×Value→H}{P:Program}{w:World}{base Zh:Nat}{held:Bool}
theorem J5{t:TypeId}{v:Value}{ls:List L}{r:Reach}(h:Value.okWide P w r base t v)(hl:lay P 12 t=some ls)(ha:HA P t=false):v.cells = #[v]∧ls.length=1:=by
 unfold lay at hl;unfold HA at ha;unfold Value.okWide Cell.okWide Cell.ok at h;split at hl
 ·rename_i hu;rw[hu]at h;injection hl with hl;subst hl
  cases v<;>first|exact⟨rfl,rfl⟩|exact h.elim
 ·rename_i hu;rw[hu]at h;injection hl with hl;subst hl
  cases v<;>first|exact⟨rfl,rfl⟩|exact h.elim
 ·rename_i hu;rw[hu]at h;injection hl with hl;subst hl
  cases v<;>first|exact⟨rfl,rfl⟩|exact h.elim
 ·rename_i hu;rw[hu]at h;split at hl
  ·split at hl
   ·injection hl with hl;subst hl
    cases v<;>first|exact⟨rfl,rfl⟩|exact h.elim
   ·cases hl
  ·cases hl
 ·rename_i hu;rw[hu]at ha;cases ha
 ·cases hl
theorem LC{t:TypeId}{v:Value}{r:Reach}(h:Value.okWide P w r base t v)(ha:HA P t=true):∃cs,v=.agg cs:=by
 unfold HA at ha;unfold Value.okWide at h;split at ha
 ·rename_i hu;rw[hu]at h;obtain⟨cs,h,_⟩:=h;exact⟨cs,h⟩
 ·cases ha
theorem Gw:∀ {ts:List TypeId} {vs:List Value} {ds:List (DataW H)} {p:List MemPlace} {pms:List PM},DataW.TrodAll enc P w base (fun _=>true) held ts vs ds p→
  (∀(j:Nat) t v,ts[j]?=some t→vs[j]?=some v→Value.okWide P w .any Zh t v)→FU P ts=some pms→
  vs.length=pms.length∧ds.length=ts.length∧∃TX:List (List Lv),TX.length=pms.length∧TX.flatten.map (·.l)=pms.flatMap PM.ins∧(∀(j:Nat)(lv:Lv),TX.flatten[j]?=some lv→lv.l.fit lv.x)∧
   ∀(i:Nat)(pm:PM)(u:Value)(xs:List Lv),pms[i]?=some pm→vs[i]?=some u→TX[i]?=some xs→M3 w (Old w) pm u xs 0 (fun _=>[])∧∃g ls,pm=.val g ls
 | [],[],[],p,pms,h,hv,hp=>by simp only[FU,Option.some.injEq]at hp;subst hp;exact⟨rfl,rfl,[],rfl,rfl,(fun j lv hj=>by simp at hj),fun i pm u xs hi=>by simp at hi⟩
 |t::ts,v::vs,d::ds,p,pms,h,hv,hp=>by
  obtain⟨p1,p2,⟨fuel,h1⟩,h2,_⟩:=h;simp only[FU]at hp;split at hp
  ·rename_i ls ps hl U7;injection hp with hp;subst hp
   obtain⟨a1,a2,TX,a3,a4,a5,a6⟩:=Gw h2 (fun j t v ht Um=>hv (j+1) t v (by simpa using ht) (by simpa using Um)) U7;have UD:=hv 0 t v rfl rfl;obtain⟨hlen,us,b1,b2⟩:=IF 12 hl h1;have hul:us.length=ls.length:=by have:=congrArg List.length b1;simpa using this
   refine⟨by simp[a1],by simp[a2],us::TX,by simp[a3],by simp[a4,b1,PM.ins],fun j lv hj=>?_,fun i pm u xs hi hu hx=>?_⟩
   ·rw[gn]at hj;rcases hQ j us.length with Tc|US
    ·rw[iQ Tc]at hj;obtain⟨_,_,_,hf⟩:=b2 j lv hj;exact hf
    ·rw[ia US]at hj;exact a5 _ lv hj
   ·cases i with
    |succ i=>exact a6 i pm u xs (by simpa using hi) (by simpa using hu) (by simpa using hx)
    |zero=>
     simp at hi hu hx;subst hi;subst hu;subst hx;refine⟨⟨by simp[b1,Function.comp_def],?_,fun j p lv hj Ur=>?_⟩,_,_,rfl⟩
     ·cases VT:HA P t with
      |true=>
       obtain⟨cs,rfl⟩:=LC UD VT;exact⟨cs,rfl,by simpa[Value.cells]using hlen⟩
      |false=>
       have:=(J5 UD hl VT).2;simpa using this
     ·obtain⟨y,hy,hr,_⟩:=b2 j lv Ur
      have W0:p.2=0:=by
       simp only[ga]at hj;cases hq:ls[j]? with
       |none=>rw[hq]at hj;cases hj
       |some l=>rw[hq]at hj;injection hj with hj;rw[←hj]
      rw[W0];refine⟨y,?_,hr⟩;cases VT:HA P t with
      |true=>
       show v.cells[j]?=some y;rw[←hy];simp
      |false=>
       obtain⟨q1,q2⟩:=J5 UD hl VT;rw[q1]at hy;cases j with
       |zero=>simp at hy;subst hy;rfl
       |succ j=>simp at hy
  ·cases hp
 | [],_::_,_,_,_,h,_,_=>by cases h
 | [],[],_::_,_,_,h,_,_=>by cases h
 |_::_,[],_,_,_,h,_,_=>by cases h
 |_::_,_::_,[],_,_,h,_,_=>by cases h
theorem Cj(hl:laidOutB P=true){W W':World}(hb:Below W.heap.size W W'):∀ {ts:List TypeId} {vs:List Value} {ds:List (DataW H)} {p:List MemPlace},GO P ts=true→
  DataW.TrodAll enc P W 0 (fun _=>true) true ts vs ds p→(∀x∈p,x.block<W.heap.size)→DataW.TrodAll enc P W' 0 (fun b=>decide (b<W.heap.size)) true ts vs ds p
 | [],[],[],p,hr,h,Tc=>h
 |t::ts,v::vs,d::ds,p,hr,h,Tc=>by obtain⟨p1,p2,h1,h2,rfl⟩:=h;simp only[GO,List.all_cons,gL,gm]at hr;exact⟨p1,p2,Below.trod hl hr.1.1 hr.1.2 h1 hb (fun x hx=>Tc x (gX _ hx)),Cj hl hb (by simpa[GO]using hr.2) h2 (fun x hx=>Tc x (gU _ hx)),rfl⟩
 | [],_::_,_,_,_,h,_=>by cases h
 | [],[],_::_,_,_,h,_=>by cases h
 |_::_,[],_,_,_,h,_=>by cases h
 |_::_,_::_,[],_,_,h,_=>by cases h
end
theorem H5{w:World}{fz:Nat→Prop}{om:Nat→List Nat}{g:Bool}{ls:List (L×Nat)}:∀ {rv:List Value} {vsR:List (List Lv)} {off:Nat},EA w fz om [(g,ls)] rv vsR off→∃u vs,rv=[u]∧vsR=[vs]∧FX w fz g ls u vs (fun j=>om (off+j))
 | [u],[vs],_,h=>⟨u,vs,rfl,rfl,h.1⟩
 | [],_,_,h=>h.elim
 |_::_,[],_,h=>h.elim
 | [_],_::_::_,_,h=>h.2.elim
 |_::_::_,[_],_,h=>h.2.elim
 |_::_::_,_::_::_,_,h=>h.2.elim
theorem PD{H:Type}{enc:TypeId×Value→H}{C:Checked}{os:Os}{f:FuncId}{fn:Func}{s:ChangeSpec}{conds:List PathCond}
  (own:ownKnob C.prog.godebug=none) (started:os.Started) (noInit:C.prog.inits.idxOf? f=none) (V2:C.prog.funcs[f]?=some fn)
  (witness:∃(w:World) (tape:Tape) (i:Input),w.os=os∧(w.forCall tape i).Shaped C.prog∧i.vars=[]∧Input.okWide C.prog (w.forCall tape i) .any w.heap.size f i∧
   s.pre6 enc C.prog fn conds false (w.forCall tape i).memory i.args∧({}:Assume).holds C.prog (lone (Frame.enter C.prog f i.args .normal) [] (w.forCall tape i)))
  {sm:Sm} {F:Nat→sm.ins.D→Option sm.outs.D} (UD:∀n,D9 C.prog [] f ⟨sm,F n⟩) (U7:FU C.prog fn.params.toList=some sm.ps) (Yk:sm.rs=[(false,[(.bool,0)])])
  {tb:TypeId} (W5:fn.resultTypes = #[tb]) (aa:C.prog.underlying tb=some .bool) (Vc:s.vars=[]) (Vn:GO C.prog fn.params.toList=true) (WR:laidOutB C.prog=true)
  (Uz:∀(ds:List (DataW H)),ds.length=fn.params.toList.length→s.fn H ds={results:=[.lit (.bool true)],args:=ds })
  (pure:∀x:sm.ins.D,sm.ins.fit x→∃n z,F n x=some z∧unpack sm.outs z=[⟨.bool,(show Bool from true)⟩]):
  ReturnsInHanded {} C os f .any (s.pre6 enc C.prog fn conds false) (s.post enc C.prog fn false true false false):=by
 refine returnsInHanded_of_change_sized own started noInit V2 witness ?_;intro W base args ds gs before U0 hW _ _ _;have UY:=hW;obtain⟨p,q,hA,hV,rfl,Uu,UU⟩:=hW;rw[Vc]at hV;obtain⟨rfl,rfl⟩:=trodVars_none hV;obtain⟨a1,a2,TX,a3,a4,a5,a6⟩:=Gw hA (fun j t v ht hv=>U0 j t v (by simpa using ht) (by simpa using hv)) U7;have Xj:TX.flatten.map (·.l)=sm.ins.kinds:=by rw[a4];exact(DB _).symm
 obtain⟨x,hx,T5⟩:=Fw sm.ins TX.flatten Xj;obtain⟨n,z,hz,Xz⟩:=pure x (T5 a5)
 have TW:CW sm.ps W (Old W) args.toList TX (fun _=>0) (fun _=>[]):={
  len:=a1
  BW:=a3
  each:=fun i pm u xs h1 h2 h3=>(a6 i pm u xs h1 h2 h3).1
  AS:=fun i=>by
   cases hq:sm.ps[i]? with
   |none=>rfl
   |some pm=>
    have Tc:=(gM.1 hq).1;obtain⟨_,g,ls,rfl⟩:=a6 i pm _ _ hq (gK (by omega)) (gK (by omega));rfl
  none:=fun i _ _ j=>rfl
  box:=fun i ls _ j _=>rfl
  row:=fun i g ls _ j _=>rfl
  fl:=fun k=>rfl
  nodup:=fun k=>gR
  Ar:=fun k k' _ b hb=>by cases hb
  own:=fun k b hb=>by cases hb
  fz:=fun b hb=>hb }
 have Tx:=UD n args.toList W (Old W) TX _ _ x z (fun _ h=>by cases h) TW hx hz;have Vl:sm.mk?=false:=by unfold Sm.mk?;rw[Yk]
 have Vl:(Ly.mk sm (F n)).s.mk?=false:=Vl;rw[Vl]at Tx;rw[iH]at Tx;refine Tx.mono ?_
 rintro en W' ⟨r,TZ,UE,rv,vsR,vsP,rfl,co⟩
 have Ui:=co.outs;have Va:=co.H3;rw[Yk]at Va;obtain⟨u,vs,rfl,rfl,b1,_,b2⟩:=H5 Va;have UK:vs.length=1:=by have:=congrArg List.length b1;simpa using this
 obtain⟨lv,rfl⟩:∃lv,vs=[lv]:=by
  match vs,UK with
  | [x],_=>exact⟨x,rfl⟩
 obtain⟨l0,x0⟩:=lv;have Uv:l0=.bool:=by simpa using b1
 subst Uv;obtain⟨y,hy,hr⟩:=b2 0 (.bool,0) ⟨.bool,x0⟩ rfl rfl;have YW:u=y:=by simpa[Av]using hy
 subst YW;have Xz:unpack sm.outs z=[⟨.bool,(show Bool from true)⟩]:=Xz;have Ui:unpack sm.outs z=_:=Ui;rw[Xz]at Ui;simp only[gn,List.flatten_nil,hD,iK,hY,List.cons.injEq]at Ui
 have WE:x0=(show Bool from true):=by
  have:=Ui.1;injection this with _ h2
  exact h2.symm
 subst WE;have hu:u=.bool true:=hr.1;subst hu;have Wk:r=.bool true:=co.res;subst Wk;have Us:Below W.heap.size W W':=⟨co.rest.1,co.rest.2.1,co.rest.2.2,co.size,fun k hk=>co.frame k hk fun _ hb=>by cases hb⟩;have Tc:∀y∈p,y.block<W.heap.size:=fun y hy=>UY.lt y (by simpa using hy);refine⟨_,rfl,ds,[],_,[],p,[],UY,?_,?_,?_,Us.frame _,fun h=>by cases h⟩
 ·rw[hD,Uz ds a2,W5];exact trodAll_mk1 (shut_bool aa _)
 ·rw[hD,Uz ds a2];exact Cj WR Us Vn hA Tc
 ·rw[hD,Uz ds a2,Vc];rfl
end Go.Ev
namespace Go.Ev
def find{α:Type}:List (Nat×α)→Nat→Option α
 | [],_=>none
 |(k,x)::r,t=>match Nat.beq k t with
  |true=>some x
  |false=>find r t
theorem Jl{α:Type}:∀ {l:List (Nat×α)} {t:Nat} {x:α},find l t=some x→(t,x)∈l
 | [],t,x,h=>by cases h
 |(k,y)::r,t,x,h=>by
  unfold find at h;split at h
  ·rename_i hk;have:k=t:=Nat.eq_of_beq_eq_true hk;injection h with h;subst h;subst this;exact gi
  ·exact gO _ (Jl h)
def PA:L→Value→Bool
 | .int k,.int k' n=>IntKind.code k==IntKind.code k'&&n==0
 | .bool,.bool b => !b
 | .str,.string s=>s.size==0
 | .sl _ _,.slice none l c=>l==0&&c==0
 |_,_=>false
theorem N8{l:L}{v:Value}(h:PA l v=true):v=B7 l:=by
 unfold PA at h;split at h
 ·simp only[gL,gV]at h;obtain⟨h1,rfl⟩:=h;rw[IntKind.EK h1];rfl
 ·simp at h;subst h;rfl
 ·rename_i s;have:s=.empty:=ByteArray.size_eq_zero_iff.1 (by simpa using h);subst this;rfl
 ·simp only[gL,gV]at h;obtain⟨rfl,rfl⟩:=h;rfl
 ·cases h
def LD:List L→List Value→Bool
 | [],[]=>true
 |l::ls,v::vs=>PA l v&&LD ls vs
 |_,_=>false
theorem Gv:∀ {ls:List L} {vs:List Value},LD ls vs=true→vs=ls.map B7
 | [],[],_=>rfl
 |l::ls,v::vs,h=>by simp only[LD,gL]at h;rw[N8 h.1,Gv h.2];rfl
 | [],_::_,h=>by cases h
 |_::_,[],h=>by cases h
def O6(P:Program)(t:TypeId)(e:Ls):Bool:=decide (0<e.n)&&match P.info? t with
 |some i=>i.size==e.n&&decide (i.bytes≤1024)&&match i.zero with
  |some z=>LD e.kinds z.cells.toList
  |none=>false
 |none=>false
theorem N3{P:Program}{t:TypeId}{e:Ls}(h:O6 P t e=true):Lz P t e:=by
 unfold O6 at h;simp only[gL,gm]at h;obtain⟨hp,h⟩:=h;split at h
 ·rename_i i hi;simp only[gL,gm,gV]at h;obtain⟨⟨h1,h2⟩,h⟩:=h;split at h
  ·rename_i z hz;exact⟨⟨i,hi,h1,h2,z,hz,by rw[←Gv h]⟩,hp⟩
  ·cases h
 ·cases h
def Ii(P:Program)(t:TypeId):L→Bool
 | .int k=>match P.underlying t with
  |some (.int k')=>IntKind.code k==IntKind.code k'
  |_=>false
 | .bool=>match P.underlying t with
  |some .bool=>true
  |_=>false
 | .str=>match P.underlying t with
  |some .string=>true
  |_=>false
 | .sl t' e=>(match P.underlying t with
  |some (.slice cf)=>t'==cf
  |_=>false)&&O6 P t' e
theorem ML{P:Program}{t:TypeId}{l:L}(h:Ii P t l=true):GR P t l:=by
 cases l with
 |int k=>
  simp only[Ii]at h;split at h
  ·rename_i k' hk;have:=IntKind.EK (by simpa using h:IntKind.code k=IntKind.code k');subst this;exact hk
  ·cases h
 |bool=>
  simp only[Ii]at h;split at h
  ·assumption
  ·cases h
 |str=>
  simp only[Ii]at h;split at h
  ·assumption
  ·cases h
 |sl t' e=>
  simp only[Ii,gL]at h;obtain⟨h1,h2⟩:=h;split at h1
  ·rename_i cf ht;have:t'=cf:=by simpa using h1
   subst this;exact⟨ht,N3 h2⟩
  ·cases h1
def Gz:List Field→List (Nat×TypeId)→Bool
 | [],[]=>true
 |f::fs,(o,t)::r=>f.offset==o&&f.type==t&&Gz fs r
 |_,_=>false
theorem HY:∀ {fs:List Field} {r:List (Nat×TypeId)},Gz fs r=true→fs.map (fun f=>(f.offset,f.type))=r
 | [],[],_=>rfl
 |f::fs,(o,t)::r,h=>by simp only[Gz,gL,gV]at h;rw[iR,h.1.1,h.1.2,HY h.2]
 | [],_::_,h=>by cases h
 |_::_,[],h=>by cases h
def G4(P:Program):List Field→Bool
 | []=>true
 |f::fs=>(P.info? f.type).isSome&&G4 P fs
theorem Hv{P:Program}:∀ {fs:List Field},G4 P fs=true→∃pl,fs.mapM (fun f=>(P.info? f.type).map fun i=>(f.offset,i.size))=some pl
 | [],_=>⟨[],rfl⟩
 |f::fs,h=>by simp only[G4,gL]at h;obtain⟨pl,Vf⟩:=Hv h.2;obtain⟨i,hi⟩:=Option.isSome_iff_exists.1 h.1;exact⟨(f.offset,i.size)::pl,by simp[List.mapM_cons,hi,Vf]⟩
def Hw(P:Program)(t:TypeId):L→Bool
 | .int k=>match P.underlying t with
  |some (.int k')=>IntKind.code k==IntKind.code k'
  |_=>false
 | .bool=>match P.underlying t with
  |some .bool=>true
  |_=>false
 | .str=>match P.underlying t with
  |some .string=>true
  |_=>false
 | .sl _ _=>false
theorem Lg{P:Program}{t:TypeId}{l:L}(h:Hw P t l=true):Ix P t l:=by
 cases l with
 |int k=>
  simp only[Hw]at h;split at h
  ·rename_i k' hk;have:=IntKind.EK (by simpa using h:IntKind.code k=IntKind.code k');subst this;exact hk
  ·cases h
 |bool=>
  simp only[Hw]at h;split at h
  ·assumption
  ·cases h
 |str=>
  simp only[Hw]at h;split at h
  ·assumption
  ·cases h
 |sl t' e=>cases h
def IW(P:Program):Nat→List Field→List L→Bool
 |_,[],[]=>true
 | n, f :: fs, l :: ls => f.name != "_" && f.offset == n && Hw P f.type l && IW P (n + 1) fs ls
 |_,_,_=>false
theorem Jh{P:Program}:∀ {n:Nat} {fs:List Field} {ls:List L},IW P n fs ls=true→Gu P n fs ls
 |_,[],[],_=>trivial
 |n,f::fs,l::ls,h=>by simp only[IW,gL,gV,bne_iff_ne,ne_eq]at h;obtain⟨⟨⟨h1,h2⟩,h3⟩,h4⟩:=h;exact⟨h1,h2,Lg h3,Jh h4⟩
 |_,[],_::_,h=>by simp[IW]at h
 |_,_::_,[],h=>by simp[IW]at h
def O7(P:Program)(t:TypeId)(ls:List L):Bool := !P.stoodInHeld t && !P.eqGuardType P.depth t&&match P.underlying t with
 |some (.struct fs)=>IW P 0 fs.toList ls
 |_=>false
theorem N5{P:Program}{t:TypeId}{ls:List L}(h:O7 P t ls=true):PF P t ls:=by
 unfold O7 at h;simp only[gL,gW]at h;obtain⟨⟨h1,h2⟩,h3⟩:=h;split at h3
 ·rename_i fs VR;exact⟨h1,h2,fs,VR,Jh h3⟩
 ·cases h3
def O2(P:Program)(t:TypeId)(ty:Ty):Bool:=(match ty.eq with
 |true=>O7 P t ty.ls.kinds
 |false=>true)&&((match P.info? t with
  |some i=>i.size==ty.ls.n&&match i.zero with
   |some z=>match ty.agg with
    |true=>match z with
     | .agg cs=>LD ty.ls.kinds cs.toList
     |_=>false
    |false=>LD ty.ls.kinds z.cells.toList
   |none=>false
  |none=>false) &&
 match ty.agg with
 |true=>match P.underlying t with
  |some (.struct fs)=>Gz fs.toList ty.fs&&G4 P fs.toList
  |_=>false
 |false=>match ty.ls with
  | .one l=>Ii P t l
  |_=>false)
theorem OU{P:Program}{t:TypeId}{ty:Ty}(h:O2 P t ty=true):Nk P t ty:=by
 unfold O2 at h;rw[gL]at h;obtain⟨h0,h⟩:=h;simp only[gL]at h;obtain⟨h1,h2⟩:=h;refine⟨?_,fun ha=>?_,fun ha=>?_,fun he=>by rw[he]at h0;exact N5 h0⟩
 ·split at h1
  ·rename_i i hi;simp only[gL,gV]at h1;obtain⟨hs,h1⟩:=h1;split at h1
   ·rename_i z hz;refine⟨i,hi,hs,z,hz,?_⟩;split at h1
    ·rename_i ha;split at h1
     ·rename_i cs;have hc:cs=(ty.ls.kinds.map B7).toArray:=by rw[←Gv h1]
      exact⟨hc,.inl (by rw[hc])⟩
     ·cases h1
    ·rename_i ha;exact⟨by rw[←Gv h1],.inr ha⟩
   ·cases h1
  ·cases h1
 ·rw[ha]at h2;dsimp only at h2;split at h2
  ·rename_i fs VR;simp only[gL]at h2;exact⟨fs,VR,HY h2.1,Hv h2.2⟩
  ·cases h2
 ·rw[ha]at h2;dsimp only at h2;split at h2
  ·rename_i l hl;exact⟨l,hl,ML h2⟩
  ·cases h2
theorem Mu{P:Program}{tbl:List (Nat×Ty)}(h:tbl.all (fun p=>O2 P p.1 p.2)=true):∀t x,find tbl t=some x→Nk P t x:=
 fun t x hx=>OU (gY.1 h _ (Jl hx))
def M0 (P : Program) (f : FuncId) : Prop := ∃ (fn : Func) (c : Code), P.funcs[f]? = some fn ∧ fn.body = some c ∧ (fn.name == "runtime.NumGoroutine") = false
theorem Ow{P:Program}{T:List (String×Array Value)}:JU P T (find []):=fun f g h=>by cases h
theorem Of{P:Program}{T:List (String×Array Value)}{f:FuncId}{g:Ly}{l:List (FuncId×Ly)}(h:D9 P T f g)(hb:M0 P f)(hl:JU P T (find l)):JU P T (find ((f,g)::l)):=by
 intro f' g' h';unfold find at h';split at h'
 ·rename_i hk;have:f=f':=Nat.eq_of_beq_eq_true hk;subst this;injection h' with h';subst h'
  exact⟨h,hb⟩
 ·exact hl f' g' h'
def plain(l:List (FuncId×Ly)):Env:=⟨find l,fun _ _=>none,fun _=>false⟩
theorem OW{P:Program}{T:List (String×Array Value)}{l:List (FuncId×Ly)}(h:JU P T (find l)):Km P T (plain l):=⟨h,(fun _ _ _ h=>by cases h),(fun _ h=>by cases h)⟩
def O1(l:List (FuncId×Ly))(f g:FuncId)(σ:Od)(ts:List TypeId):Env:=⟨find l,fun f' g'=>if f'==f&&g'==g then some σ else none,fun t=>has ts t⟩
theorem Oy{P:Program}{T:List (String×Array Value)}{f:FuncId}{sm:Sm}:D9 P T f ⟨sm,fun _=>none⟩:=by intro args w fz TX bk om x z hg TW hx hz;cases hz
theorem OX{P:Program}{T:List (String×Array Value)}{tbl:List (Nat×Ty)}{l:Env}{an:An}{n:Nat}{sm:Sm}{fn:Func}{f:FuncId}{c:Code}{F:sm.ins.D→Option sm.outs.D}
  (hf:P.funcs[f]?=some fn) (hb:fn.body=some c) (hlen:decide (sm.ps.length≤fn.ntmps)=true) (ht:tbl.all (fun p=>O2 P p.1 p.2)=true) (hl:Km P T l) (hm:P.follows .mixedOrders=true)
  (hF:∀x,MB (find tbl) l an n fn sm x=F x):D9 P T f ⟨sm,F⟩:=by
 have h:=Oh (an:=an) (n:=n) (sm:=sm) hf hb (hO hlen) (Mu ht) hl hm;have:MB (find tbl) l an n fn sm=F:=funext hF;rw[this]at h;exact h
end Go.Ev
