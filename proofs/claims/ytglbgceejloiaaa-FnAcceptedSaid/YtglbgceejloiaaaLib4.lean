/- A plain evaluator for Go's loaded code,and that it is sound;part 4. Conditions: none. -/
import Derived.Test.YtglbgceejloiaaaLib3
import Derived.Deep.LoopGhost
import Derived.Tactics
import Derived.SizedLaws
import Derived.Carry
import Derived.ChangeShapes
import Derived.RowKit
namespace Go.Ev
set_option linter.unusedVariables false
set_option linter.unusedSimpArgs false
def VP.O5:VP→Nat
 | .slot _ _=>1
 | .own _ _ _ _ _=>1
 | .box _ ls=>(ls.filterMap id).length
theorem C3 (v:Nat):∀ (ls:List (Option (L×Nat))) (vs ws:List Lv),vs.length=(ls.filterMap id).length→AQ v ls (vs++ws)=AQ v ls vs
 | [],vs,ws,h=>by simp [AQ]
 | none::ls,vs,ws,h=>by simp only [AQ];rw [C3 v ls vs ws (by simpa using h)]
 | some (l,d)::ls,[],ws,h=>by simp at h
 | some (l,d)::ls,x::vs,ws,h=>by simp only [AQ,List.cons_append];rw [C3 v ls vs ws (by simpa using h)]
theorem BI (v:Nat):∀ (ls:List (Option (L×Nat))) (vs:List Lv),(AQ v ls vs).length=ls.length
 | [],vs=>rfl
 | none::ls,vs=>by simp [AQ,BI v ls vs]
 | some (l,d)::ls,[]=>by simp [AQ,BI v ls []]
 | some (l,d)::ls,x::vs=>by simp [AQ,BI v ls vs]
theorem Ns (v:Nat) (s0:St):∀ (ps:List VP) (vs:List Lv) (σ:St),(σ.app (B2 v s0 ps vs)).sl.length=σ.sl.length∧(σ.app (B2 v s0 ps vs)).ro.length=σ.ro.length:=fun ps vs σ=>CB _ σ
def At (v:Nat) (s0 σ:St) (p:VP) (vs:List Lv):Prop:=match p with
 | .slot t _=>∀ x,vs=[x]→σ.slot t=one (.sc x.l x.x)
 | .own t _ _ d k=>∀ x,vs=[x]→σ.slot t=one (.ref ⟨t,0,FO v k,v,[]⟩)∧σ.root t=⟨false,v,[DN v d k x]⟩
 | .box r ls=>σ.root r=⟨true,(s0.root r).AA,AQ v ls vs⟩
theorem IT {x:Nat} {xs:List Nat} (h:distinct (x::xs)=true):x∉xs∧distinct xs=true:=by
 simp only [distinct,Bool.and_eq_true,Bool.not_eq_true'] at h
 refine ⟨fun hm => ?_,h.2⟩
 have:=(BA xs x).2 hm
 rw [h.1] at this;cases this
theorem Cm:∀ {xs ys:List Nat},distinct (xs++ys)=true→(∀ x∈xs,x∉ys)∧distinct ys=true
 | [],ys,h=>⟨(fun x hx=>by cases hx),h⟩
 | x::xs,ys,h=>by
  obtain ⟨h1,h2⟩:=IT (xs:=xs++ys) h
  obtain ⟨h3,h4⟩:=Cm h2
  refine ⟨fun y hy => ?_,h4⟩
  rcases List.mem_cons.1 hy with rfl | hy
  ·exact fun hm=>h1 (List.mem_append_right _ hm)
  ·exact h3 y hy
theorem GU (v:Nat) (s0:St):∀ (ps:List VP) (vss:List (List Lv)) (σ:St),vss.length=ps.length→(∀ (i:Nat) (p:VP) (vs:List Lv),ps[i]? = some p→vss[i]? = some vs→vs.length=p.O5) →
  distinct (ps.flatMap VP.AP)=true→distinct (ps.flatMap VP.roots)=true→(∀ t∈ps.flatMap VP.AP,t<σ.sl.length)→(∀ r∈ps.flatMap VP.roots,r<σ.ro.length) →
  (∀ t,t∉ps.flatMap VP.AP→(σ.app (B2 v s0 ps vss.flatten)).slot t=σ.slot t)∧(∀ r,r∉ps.flatMap VP.roots→(σ.app (B2 v s0 ps vss.flatten)).root r=σ.root r) ∧
  ∀ (i:Nat) (p:VP) (vs:List Lv),ps[i]? = some p→vss[i]? = some vs→At v s0 (σ.app (B2 v s0 ps vss.flatten)) p vs
 | [],[],σ,hl,hc,d1,d2,b1,b2=>⟨fun _ _=>rfl,fun _ _=>rfl,fun i p vs hp=>by simp at hp⟩
 | [],_::_,σ,hl,hc,d1,d2,b1,b2=>by simp at hl
 | _::_,[],σ,hl,hc,d1,d2,b1,b2=>by simp at hl
 | p::ps,vs::vss,σ,hl,hc,d1,d2,b1,b2=>by
  rw [List.flatMap_cons] at d1 d2
  obtain ⟨n1,d1'⟩:=Cm d1
  obtain ⟨n2,d2'⟩:=Cm d2
  have hcnt:=hc 0 p vs rfl rfl
  have hb1:∀ t∈p.AP,t<σ.sl.length:=fun t ht=>b1 t (by rw [List.flatMap_cons];exact List.mem_append_left _ ht)
  have hb2:∀ t∈p.roots,t<σ.ro.length:=fun t ht=>b2 t (by rw [List.flatMap_cons];exact List.mem_append_left _ ht)
  have main:∀ (ws:List Wr),B2 v s0 (p::ps) (vs::vss).flatten=ws++B2 v s0 ps vss.flatten→(∀ t,t∉p.AP→(σ.app ws).slot t=σ.slot t)→(∀ r,r∉p.roots→(σ.app ws).root r=σ.root r)→At v s0 (σ.app ws) p vs →
    (∀ t,t∉(p::ps).flatMap VP.AP→(σ.app (B2 v s0 (p::ps) (vs::vss).flatten)).slot t=σ.slot t)∧(∀ r,r∉(p::ps).flatMap VP.roots→(σ.app (B2 v s0 (p::ps) (vs::vss).flatten)).root r=σ.root r) ∧
    ∀ (i:Nat) (q:VP) (us:List Lv),(p::ps)[i]? = some q→(vs::vss)[i]? = some us→At v s0 (σ.app (B2 v s0 (p::ps) (vs::vss).flatten)) q us:=by
   intro ws he hs hr ha
   obtain ⟨i1,i2,i3⟩:=GU v s0 ps vss (σ.app ws) (by simpa using hl) (fun i q us h1 h2=>hc (i+1) q us (by simpa using h1) (by simpa using h2)) d1' d2'
    (fun t ht=>by rw [(CB ws σ).1];exact b1 t (by rw [List.flatMap_cons];exact List.mem_append_right _ ht)) (fun t ht=>by rw [(CB ws σ).2];exact b2 t (by rw [List.flatMap_cons];exact List.mem_append_right _ ht))
   rw [he,BD]
   refine ⟨fun t ht => ?_,fun r hr' => ?_,fun i q us h1 h2 => ?_⟩
   ·rw [List.flatMap_cons] at ht
    rw [i1 t (fun hm=>ht (List.mem_append_right _ hm)),hs t (fun hm=>ht (List.mem_append_left _ hm))]
   ·rw [List.flatMap_cons] at hr'
    rw [i2 r (fun hm=>hr' (List.mem_append_right _ hm)),hr r (fun hm=>hr' (List.mem_append_left _ hm))]
   ·cases i with
    | zero =>
     simp at h1 h2;subst h1;subst h2
     cases p with
     | slot t l=>intro x hx;rw [i1 t (n1 t (by simp [VP.AP]))];exact ha x hx
     | own t ty e d k =>
      intro x hx
      rw [i1 t (n1 t (by simp [VP.AP])),i2 t (n2 t (by simp [VP.roots]))];exact ha x hx
     | box r ls =>
      show (_:St).root r=_
      rw [i2 r (n2 r (by simp [VP.roots]))];exact ha
    | succ i=>exact i3 i q us (by simpa using h1) (by simpa using h2)
  cases p with
  | slot t l =>
   obtain ⟨x,rfl⟩:∃ x,vs=[x]:=by
    match vs,hcnt with
    | [x],_=>exact ⟨x,rfl⟩
   refine main [.slot t (one (.sc x.l x.x))] rfl (fun u hu => ?_) (fun r hr=>rfl) ?_
   ·show (σ.AG _).slot u=_
    rw [BR,if_neg (fun hh=>hu (by simp [VP.AP,hh.1]))]
   ·intro y hy
    simp at hy;subst hy
    show (σ.AG _).slot t=_
    rw [BR,if_pos ⟨rfl,hb1 t (by simp [VP.AP])⟩]
  | own t ty e d k =>
   obtain ⟨x,rfl⟩:∃ x,vs=[x]:=by
    match vs,hcnt with
    | [x],_=>exact ⟨x,rfl⟩
   refine main [.root t ⟨false,v,[DN v d k x]⟩, .slot t (one (.ref ⟨t,0,FO v k,v,[]⟩))] rfl (fun u hu => ?_) (fun r hr => ?_) ?_
   ·show ((σ.AG _).AG _).slot u=_
    rw [BR,if_neg (fun hh=>hu (by simp [VP.AP,hh.1]))];rfl
   ·show (σ.AG _).root r=_
    rw [Av,if_neg (fun hh=>hr (by simp [VP.roots,hh.1]))]
   ·intro y hy
    simp at hy;subst hy
    refine ⟨?_, ?_⟩
    ·show ((σ.AG _).AG _).slot t=_
     rw [BR,if_pos ⟨rfl,by rw [(B5 _ _).1];exact hb1 t (by simp [VP.AP])⟩]
    ·show (σ.AG _).root t=_
     rw [Av,if_pos ⟨rfl,hb2 t (by simp [VP.roots])⟩]
  | box r ls =>
   refine main [.root r ⟨true,(s0.root r).AA,AQ v ls vs⟩] ?_ (fun u hu=>rfl) (fun q hq => ?_) ?_
   ·have hcnt:vs.length=(ls.filterMap id).length:=hcnt
    simp only [B2,List.flatten_cons]
    rw [C3 v ls vs _ hcnt, ← hcnt,List.drop_left];rfl
   ·show (σ.AG _).root q=_
    rw [Av,if_neg (fun hh=>hq (by simp [VP.roots,hh.1]))]
   ·show (σ.AG _).root r=_
    rw [Av,if_pos ⟨rfl,hb2 r (by simp [VP.roots])⟩]
end Go.Ev
namespace Go.Ev
set_option linter.unusedVariables false
set_option linter.unusedSimpArgs false
theorem EW {α γ:Type} (f:Nat→α→γ):∀ (n:Nat) (xs:List α),(KX f n xs).length=xs.length
 | _,[]=>rfl
 | n,x::xs=>by simp [KX,EW f (n+1) xs]
theorem Hs {α γ:Type} (f:Nat→α→γ) (d:γ) (d0:α):∀ (n:Nat) (xs:List α) (i:Nat),i<xs.length→nth d (KX f n xs) i=f (n+i) (nth d0 xs i)
 | n,[],i,h=>by simp at h
 | n,x::xs,0,h=>rfl
 | n,x::xs,i+1,h=>by
  simp only [KX,nth]
  rw [Hs f d d0 (n+1) xs i (by simpa using h),show n+1+i=n+(i+1) by omega]
theorem F5 (ms:List Nat) (ps:List VP) (s:St) (t:Nat):(base ms ps s).slot t=if has ms t then one .bad else (s.slot t).clean (fun r=>has ms r||has (ps.flatMap VP.AP) r) fun r=>has ms r||has (ps.flatMap VP.roots) r:=by
 unfold St.slot base
 by_cases h:t<s.sl.length
 ·dsimp only
  rw [Hs _ _ (.v false [.bad]) 0 s.sl t h,Nat.zero_add]
 ·dsimp only
  rw [A3 _ (by rw [EW];omega),A3 _ (by omega)]
  split <;> rfl
theorem CF (ms:List Nat) (ps:List VP) (s:St) (r:Nat):(base ms ps s).root r=if has ms r then dead else s.root r:=by
 unfold St.root base
 by_cases h:r<s.ro.length
 ·dsimp only
  rw [Hs _ _ dead 0 s.ro r h,Nat.zero_add]
 ·dsimp only
  rw [A3 _ (by rw [EW];omega),A3 _ (by omega)]
  split <;> rfl
theorem FY (ms:List Nat) (ps:List VP) (s:St):(base ms ps s).sl.length=s.sl.length∧(base ms ps s).ro.length=s.ro.length:=⟨EW _ _ _,EW _ _ _⟩
theorem KS (m1 m2:Nat→Bool) (a:AV):∀ n∈(a.clean m1 m2).AH,n∈a.AH:=by
 cases a with
 | De vs=>intro n hn;simp [AV.clean,one,AV.AH,LA.AH] at hn
 | bx as=>intro n hn;simp [AV.clean,one,AV.AH,LA.AH] at hn
 | v g as =>
  intro n hn
  obtain ⟨b,hb,hn⟩:=List.mem_flatMap.1 (show n∈(as.map (LA.clean m1 m2)).flatMap LA.AH from hn)
  obtain ⟨c,hc,rfl⟩:=List.mem_map.1 hb
  refine List.mem_flatMap.2 ⟨c,hc, ?_⟩
  cases c with
  | ref c=>simp only [LA.clean] at hn;split at hn;cases hn;exact hn
  | D7 c lo hi=>simp only [LA.clean] at hn;split at hn;cases hn;exact hn
  | Bm c=>simp only [LA.clean] at hn;split at hn;cases hn;exact hn
  | ptr r j AA=>simp only [LA.clean] at hn;split at hn;cases hn;exact hn
  | JB t c=>simp only [LA.clean] at hn;split at hn;cases hn;exact hn
  | EB g ps qs=>simp only [LA.clean] at hn;split at hn;cases hn;exact hn
  | _=>exact hn
theorem LH {cx:Cx} {m1 m2:Nat→Bool} (h1:∀ r,m1 r=true→cx.E6 r=false) (h2:∀ r,m2 r=true→cx.lock r=false) (a:AV):Cz cx a (a.clean m1 m2):=by
 cases a with
 | De vs=>exact .De vs
 | bx as=>exact .bx as
 | v g as =>
  refine .v g as _ (by simp) fun j b hj=>⟨LA.clean m1 m2 b,by rw [List.getElem?_map,hj];rfl, ?_⟩
  cases b with
  | ref c=>simp only [LA.clean];split;exact .inr ⟨rfl,h2 _ (by assumption)⟩;exact .inl rfl
  | D7 c lo hi=>simp only [LA.clean];split;exact .inr ⟨rfl,h2 _ (by assumption)⟩;exact .inl rfl
  | Bm c=>simp only [LA.clean];split;exact .inr ⟨rfl,h2 _ (by assumption)⟩;exact .inl rfl
  | ptr r j AA=>simp only [LA.clean];split;exact .inr ⟨rfl,h1 _ (by assumption)⟩;exact .inl rfl
  | JB t c=>simp only [LA.clean];split;exact .inr ⟨rfl,h2 _ (by assumption)⟩;exact .inl rfl
  | EB g ps qs =>
   simp only [LA.clean]
   split
   ·rename_i h
    obtain ⟨p,hp,hm⟩:=List.any_eq_true.1 h
    exact .inr ⟨rfl,p,hp,h1 _ hm⟩
   ·exact .inl rfl
  | _=>exact .inl rfl
end Go.Ev
namespace Go.Ev
set_option linter.unusedVariables false
set_option linter.unusedSimpArgs false
theorem Ce (v:Nat):∀ (ls:List (Option (L×Nat))) (vs:List Lv) (j:Nat) (l:L),ls[j]? = some (some (l,0))→(nth .bad (AQ v ls vs) j).CH=false
 | [],vs,j,l,h=>by simp at h
 | none::ls,vs,0,l,h=>by simp at h
 | none::ls,vs,j+1,l,h=>Ce v ls vs j l (by simpa using h)
 | some (l',d)::ls,[],0,l,h=>rfl
 | some (l',d)::ls,[],j+1,l,h=>Ce v ls [] j l (by simpa using h)
 | some (l',d)::ls,⟨l0,x⟩::vs,0,l,h=>by
  simp at h
  obtain ⟨_,rfl⟩:=h
  cases l0 <;> rfl
 | some (l',d)::ls,x::vs,j+1,l,h=>Ce v ls vs j l (by simpa using h)
theorem JC {cx:Cx} {ms:List Nat} {ps:List VP} {r:Nat} (h1:r∉ms) (h2:r∉ps.flatMap VP.roots):(cx.in ms ps).lock r=true:=by
 have a:has ms r=false:=by cases h:has ms r;rfl;exact absurd ((BA _ _).1 h) h1
 have b:has (ps.flatMap VP.roots) r=false:=by cases h:has (ps.flatMap VP.roots) r;rfl;exact absurd ((BA _ _).1 h) h2
 simp [Cx.in,a,b]
theorem Ho {cx:Cx} {ms:List Nat} {ps:List VP} {r:Nat} (h1:r∉ms) (h2:r∉ps.flatMap VP.AP):(cx.in ms ps).E6 r=true:=by
 have a:has ms r=false:=by cases h:has ms r;rfl;exact absurd ((BA _ _).1 h) h1
 have b:has (ps.flatMap VP.AP) r=false:=by cases h:has (ps.flatMap VP.AP) r;rfl;exact absurd ((BA _ _).1 h) h2
 simp [Cx.in,a,b]
structure Fy (ms:List Nat) (ps:List VP) (s0 s1 σ:St) (W:Wd) (tm:Array Value) (fz:Nat→Prop) (vss:List (List Lv)):Prop where
 len:vss.length=ps.length
 told:∀ (i:Nat) (p:VP) (vs:List Lv),ps[i]? = some p→vss[i]? = some vs→Told s1 W tm fz p vs
 at_:∀ (i:Nat) (p:VP) (vs:List Lv),ps[i]? = some p→vss[i]? = some vs→At s0.Bv s0 σ p vs
 slot:∀ t,t∉ps.flatMap VP.AP→σ.slot t=(base ms ps s0).slot t
 root:∀ r,r∉ps.flatMap VP.roots→σ.root r=(base ms ps s0).root r
 l1:σ.sl.length=s0.sl.length
 l2:σ.ro.length=s0.ro.length
theorem Fy.get {ms:List Nat} {ps:List VP} {s0 s1 σ:St} {W:Wd} {tm:Array Value} {fz:Nat→Prop} {vss:List (List Lv)} (h:Fy ms ps s0 s1 σ W tm fz vss) {p:VP} (hp:p∈ps):∃ vs,Told s1 W tm fz p vs∧At s0.Bv s0 σ p vs:=by
 obtain ⟨i,hi⟩:=List.getElem?_of_mem hp
 obtain ⟨vs,hv⟩:=BZ h.len (List.getElem?_eq_some_iff.1 hi).1
 exact ⟨vs,h.told i p vs hi hv,h.at_ i p vs hi hv⟩
def Et (W:Wd) (ps:List VP) (b:Nat):Prop:=W.fz b∨∃ r j,Ob ps r j∧b∈W.om (.lf r j)
theorem M3 {E:Cq} {cx:Cx} {N:Nat} {ms:List Nat} {ps:List VP} {s0 s1:St} {tm:Array Value} {W:Wd} {x:(C8 ps).D} (h1:AW E s1 tm W) (r1:Bg s1) (hk:Ar (cx.in ms ps) s0 s1) (hp:Ck cx ms ps=true) (hx:Aq ps s1=some x) :
  ∃ vss,Fy ms ps s0 s1 (B1 ms ps s0 x) W tm (Et W ps) vss:=by
 unfold Aq at hx
 obtain ⟨lvs,hl,hpk⟩:=Step.Cw _ hx
 obtain ⟨vss,hl,hlen,htold⟩:=KB h1 r1 (fz:=Et W ps) (fun b hb => .inl hb) (fun r j hf b hb => .inr ⟨r,j,hf,hb⟩) hl
 have hl:vss.flatten=lvs:=hl
 subst hl
 have hup:=Ax _ _ _ hpk
 simp only [Ck,Bool.and_eq_true] at hp
 obtain ⟨⟨d1,d2⟩,_⟩:=hp
 have hro:s1.ro.length=s1.sl.length:=by rw [h1.DB,h1.Bx]
 have hget:∀ p∈ps,∃ vs,Told s1 W tm (Et W ps) p vs:=fun p hp=>by
  obtain ⟨i,hi⟩:=List.getElem?_of_mem hp
  obtain ⟨vs,hv⟩:=BZ hlen (List.getElem?_eq_some_iff.1 hi).1
  exact ⟨vs,htold i p vs hi hv⟩
 have hlook:=GU s0.Bv s0 ps vss (base ms ps s0) hlen (fun i p vs hi hv=>by
   have:=htold i p vs hi hv
   cases p with
   | slot t l=>obtain ⟨_,x,rfl,_⟩:=this;rfl
   | own t ty e d k=>obtain ⟨_,x,rfl,_⟩:=this;rfl
   | box r ls=>exact this.2.2.1) d2 d1
  (fun t ht=>by
   rw [(FY ms ps s0).1, ← hk.l1]
   obtain ⟨p,hp,ht⟩:=List.mem_flatMap.1 ht
   obtain ⟨vs,hv⟩:=hget p hp
   cases p with
   | slot u l=>simp [VP.AP] at ht;subst ht;exact hv.1
   | own u ty e d k=>simp [VP.AP] at ht;subst ht;exact hv.1
   | box r ls=>simp [VP.AP] at ht)
  (fun t ht=>by
   rw [(FY ms ps s0).2, ← hk.l2]
   obtain ⟨p,hp,ht⟩:=List.mem_flatMap.1 ht
   obtain ⟨vs,hv⟩:=hget p hp
   cases p with
   | slot u l=>simp [VP.roots] at ht
   | own u ty e d k=>simp [VP.roots] at ht;subst ht;rw [hro];exact hv.1
   | box r ls=>simp [VP.roots] at ht;subst ht;exact JS hv.1)
 have he:B1 ms ps s0 x=(base ms ps s0).app (B2 s0.Bv s0 ps vss.flatten):=by unfold B1;rw [hup]
 rw [he]
 obtain ⟨a,b,c⟩:=hlook
 exact ⟨vss,hlen,htold,c,a,b,(CB _ _).1.trans (FY ms ps s0).1,(CB _ _).2.trans (FY ms ps s0).2⟩
end Go.Ev
namespace Go.Ev
set_option linter.unusedVariables false
set_option linter.unusedSimpArgs false
section
variable {E:Cq} {cx:Cx} {N:Nat} {ms:List Nat} {ps:List VP} {s0 s1 σ:St} {tm:Array Value} {W:Wd} {vss:List (List Lv)}
noncomputable def C0 (σ:St) (W:Wd) (ps:List VP):Wd where
 w:=W.w
 fz:=Et W ps
 cv:=W.cv
 bk:=W.bk
 om k:=match k with
  | .lf r j=>bif (σ.leaf r j).CH then W.om (.lf r j) else []
  | .AX r=>bif (σ.root r).box then W.om (.AX r) else []
  | .fl _=>[]
theorem Ef (k:Key):∀ b∈(C0 σ W ps).om k,b∈W.om k:=by
 intro b hb
 cases k with
 | lf r j =>
  have hb:b∈(bif (σ.leaf r j).CH then W.om (.lf r j) else []):=hb
  cases h:(σ.leaf r j).CH <;> rw [h] at hb
  ·cases hb
  ·exact hb
 | AX r =>
  have hb:b∈(bif (σ.root r).box then W.om (.AX r) else []):=hb
  cases h:(σ.root r).box <;> rw [h] at hb
  ·cases hb
  ·exact hb
 | fl k=>cases hb
theorem OM {p:VP} (hp:p∈ps) {r:Nat} (hr:r∈p.roots):r∈ps.flatMap VP.roots:=List.mem_flatMap.2 ⟨p,hp,hr⟩
theorem Lz (ha:Fy ms ps s0 s1 σ W tm (Et W ps) vss) {r j:Nat} (hf:Ob ps r j):(σ.leaf r j).CH=false:=by
 obtain ⟨ls,l,hm,hj⟩:=hf
 obtain ⟨vs,_,hat⟩:=ha.get hm
 have hat:σ.root r=_:=hat
 unfold St.leaf
 rw [hat]
 exact Ce _ ls vs j l hj
theorem L6 (h:AW E s1 tm W) (ha:Fy ms ps s0 s1 σ W tm (Et W ps) vss):Sep E (C0 σ W ps) where
 nodup k:=by
  cases k with
  | lf r j =>
   show (bif (σ.leaf r j).CH then W.om (.lf r j) else []).Nodup
   cases (σ.leaf r j).CH
   ·exact List.nodup_nil
   ·exact h.sep.nodup _
  | AX r =>
   show (bif (σ.root r).box then W.om (.AX r) else []).Nodup
   cases (σ.root r).box
   ·exact List.nodup_nil
   ·exact h.sep.nodup _
  | fl k=>exact List.nodup_nil
 A6 k k' hne b hb hb':=h.sep.A6 k k' hne b (Ef k b hb) (Ef k' b hb')
 own k b hb:=by
  obtain ⟨q1,q2,q3⟩:=h.sep.own k b (Ef k b hb)
  refine ⟨?_,q2,q3⟩
  rintro (hz | ⟨r,j,hf,hz⟩)
  ·exact q1 hz
  ·have hk:k = .lf r j:=Classical.byContradiction fun hne=>h.sep.A6 k _ hne b (Ef k b hb) hz
   subst hk
   have hb:b∈(bif (σ.leaf r j).CH then W.om (.lf r j) else []):=hb
   rw [Lz ha hf] at hb;cases hb
 fz b hb:=by
  rcases hb with hz | ⟨r,j,_,hz⟩
  ·exact h.sep.fz b hz
  ·obtain ⟨_,q2,q3⟩:=h.sep.own _ b hz;exact ⟨q2, .inr q3⟩
 frame:=h.sep.frame
 size:=h.sep.size
 rest:=h.sep.rest
theorem HC (hk:Ar (cx.in ms ps) s0 s1) (hp:Ck cx ms ps=true) (ha:Fy ms ps s0 s1 σ W tm (Et W ps) vss) {r:Nat} (hb:(σ.root r).box=true):(s1.root r).box=true∧(s1.root r).AA=(σ.root r).AA∧(s1.root r).ls.length=(σ.root r).ls.length:=by
 simp only [Ck,Bool.and_eq_true] at hp
 obtain ⟨_,hall⟩:=hp
 by_cases hr:r∈ps.flatMap VP.roots
 ·obtain ⟨p,hm,hr⟩:=List.mem_flatMap.1 hr
  obtain ⟨vs,ht,hat⟩:=ha.get hm
  cases p with
  | slot t l=>simp [VP.roots] at hr
  | own t ty e d k =>
   simp [VP.roots] at hr;subst hr
   obtain ⟨_,xs,rfl,_⟩:=ht
   have:=(hat _ rfl).2
   rw [this] at hb;cases hb
  | box q ls =>
   simp [VP.roots] at hr;subst hr
   have hat:σ.root r=_:=hat
   have h2:=List.all_eq_true.1 hall _ hm
   simp only [Bool.and_eq_true,Bool.not_eq_true'] at h2
   have n1:r∉ms:=fun hh=>by rw [(BA _ _).2 hh] at h2;exact absurd h2.1.1 (by simp)
   have n2:r∉ps.flatMap VP.AP:=fun hh=>by rw [(BA _ _).2 hh] at h2;exact absurd h2.2 (by simp)
   obtain ⟨b1,b2,b3⟩:=hk.box r (Ho n1 n2)
   refine ⟨ht.1, ?_, ?_⟩
   ·rw [hat,b2]
   ·rw [hat];exact ht.2.1.symm.trans (BI _ _ _).symm
 ·have hro:=ha.root r hr
  rw [CF] at hro
  split at hro
  ·rw [hro] at hb;cases hb
  ·rename_i hms
   have n1:r∉ms:=fun hh=>hms ((BA _ _).2 hh)
   have:=hk.roots r (JC n1 hr)
   have e:s1.root r=σ.root r:=this.trans hro.symm
   rw [e];exact ⟨hb,rfl,rfl⟩
theorem DE (hk:Ar (cx.in ms ps) s0 s1) (hp:Ck cx ms ps=true) (ha:Fy ms ps s0 s1 σ W tm (Et W ps) vss) {a:LA} {v:Value} (hr:∀ c,(a = .ref c∨(∃ lo hi,a = .D7 c lo hi)∨a = .Bm c∨∃ t,a = .JB t c)→σ.root c.r=s1.root c.r) (hv:AR s1 W a v):AR σ (C0 σ W ps) a v:=by
 cases a with
 | bad=>trivial
 | undef=>exact hv
 | DC=>exact hv
 | JH=>exact hv
 | sc l x=>exact L.AJ l hv (fun _ _=>rfl) fun b hb => .inl hb
 | ref c =>
  intro gen t e xs d hl hg
  rw [Ak (hr c (.inl rfl))] at hl
  exact hv gen t e xs d hl hg
 | D7 c lo hi =>
  intro gen t e xs d hl hg
  rw [Ak (hr c (.inr (.inl ⟨lo,hi,rfl⟩)))] at hl
  exact hv gen t e xs d hl hg
 | Bm c =>
  intro gen t e xs d hl hg
  rw [Ak (hr c (.inr (.inr (.inl rfl))))] at hl
  exact hv gen t e xs d hl hg
 | ptr r j AA =>
  intro hb hver
  obtain ⟨b1,b2,_⟩:=HC hk hp ha hb
  exact hv b1 (b2.trans hver)
 | D1 e x off =>
  obtain ⟨ad,g,arr,T,fr,hv',hz,hh,hg,hrd⟩:=hv
  exact ⟨ad,g,arr,T,fr,hv', .inl hz,hh,hg,Ls.AJ e hrd (fun _ _=>rfl) fun b hb => .inl hb⟩
 | fn f=>exact hv
 | JB tt c =>
  obtain ⟨u,hu,hv⟩:=hv
  refine ⟨u,hu,fun gen t e xs d hl hg => ?_⟩
  rw [Ak (hr c (.inr (.inr (.inr ⟨tt,rfl⟩))))] at hl
  exact hv gen t e xs d hl hg
 | EB g qs _ =>
  obtain ⟨bs,hu,hlen,hv⟩:=hv
  refine ⟨bs,hu,hlen,fun k p b hp' hb hx hver => ?_⟩
  obtain ⟨b1,b2,_⟩:=HC hk hp ha hx
  exact hv k p b hp' hb b1 (b2.trans hver)
 | arr=>exact hv
end
end Go.Ev
namespace Go.Ev
set_option linter.unusedVariables false
set_option linter.unusedSimpArgs false
section
variable {E:Cq} {cx:Cx} {N:Nat} {ms:List Nat} {ps:List VP} {s0 s1 σ:St} {tm:Array Value} {W:Wd} {vss:List (List Lv)}
theorem CR {ms:List Nat} {r:Nat} (h:has ms r=false):r∉ms:=fun hh=>by rw [(BA _ _).2 hh] at h;cases h
theorem Gx {ms:List Nat} {r:Nat} (h:r∉ms):has ms r=false:=by
 cases hh:has ms r with
 | false=>rfl
 | true=>exact absurd ((BA _ _).1 hh) h
theorem Fz (hk:Ar (cx.in ms ps) s0 s1) (ha:Fy ms ps s0 s1 σ W tm (Et W ps) vss) {r:Nat} (h1:r∉ms) (h2:r∉ps.flatMap VP.roots):σ.root r=s1.root r:=by
 rw [ha.root r h2,CF,Gx h1,hk.roots r (JC h1 h2)]
 rfl
theorem HD (hk:Ar (cx.in ms ps) s0 s1) (hp:Ck cx ms ps=true) (ha:Fy ms ps s0 s1 σ W tm (Et W ps) vss) {a a':LA} {v:Value} (hc:E9 (cx.in ms ps) a a') (hv:AR s1 W a' v) :
  AR σ (C0 σ W ps) (a.clean (fun r=>has ms r||has (ps.flatMap VP.AP) r) fun r=>has ms r||has (ps.flatMap VP.roots) r) v:=by
 have far:∀ r,¬ (has ms r||has (ps.flatMap VP.roots) r)=true→(cx.in ms ps).lock r=true∧σ.root r=s1.root r:=by
  intro r hr
  simp only [Bool.or_eq_true,not_or,Bool.not_eq_true] at hr
  exact ⟨JC (CR hr.1) (CR hr.2),Fz hk ha (CR hr.1) (CR hr.2)⟩
 have same:∀ {b:LA},a=b→¬ Hb (cx.in ms ps) b→AR s1 W b v:=by
  intro b e hd
  subst e
  rcases hc with rfl | ⟨_,hh⟩
  ·exact hv
  ·exact absurd hh hd
 cases a with
 | ref c =>
  simp only [LA.clean]
  split
  ·trivial
  ·rename_i hr
   obtain ⟨q1,q2⟩:=far c.r hr
   refine DE hk hp ha (fun c' hc' => ?_) (same rfl (by simp [Hb,q1]))
   rcases hc' with e | ⟨_,_,e⟩ | e | ⟨_,e⟩ <;> cases e
   exact q2
 | D7 c lo hi =>
  simp only [LA.clean]
  split
  ·trivial
  ·rename_i hr
   obtain ⟨q1,q2⟩:=far c.r hr
   refine DE hk hp ha (fun c' hc' => ?_) (same rfl (by simp [Hb,q1]))
   rcases hc' with e | ⟨_,_,e⟩ | e | ⟨_,e⟩ <;> cases e
   exact q2
 | Bm c =>
  simp only [LA.clean]
  split
  ·trivial
  ·rename_i hr
   obtain ⟨q1,q2⟩:=far c.r hr
   refine DE hk hp ha (fun c' hc' => ?_) (same rfl (by simp [Hb,q1]))
   rcases hc' with e | ⟨_,_,e⟩ | e | ⟨_,e⟩ <;> cases e
   exact q2
 | ptr r j AA =>
  simp only [LA.clean]
  split
  ·trivial
  ·rename_i hr
   simp only [Bool.or_eq_true,not_or,Bool.not_eq_true] at hr
   have q1:=Ho (cx:=cx) (CR hr.1) (CR hr.2)
   refine DE hk hp ha (fun c' hc' => ?_) (same rfl (by simp [Hb,q1]))
   rcases hc' with e | ⟨_,_,e⟩ | e | ⟨_,e⟩ <;> cases e
 | JB t c =>
  simp only [LA.clean]
  split
  ·trivial
  ·rename_i hr
   obtain ⟨q1,q2⟩:=far c.r hr
   refine DE hk hp ha (fun c' hc' => ?_) (same rfl (by simp [Hb,q1]))
   rcases hc' with e | ⟨_,_,e⟩ | e | ⟨_,e⟩ <;> cases e
   exact q2
 | EB g qs q2 =>
  simp only [LA.clean]
  split
  ·trivial
  ·rename_i hr
   refine DE hk hp ha (fun c' hc' => ?_) (same rfl ?_)
   ·rcases hc' with e | ⟨_,_,e⟩ | e | ⟨_,e⟩ <;> cases e
   ·rintro ⟨p,hp',hd⟩
    refine hr (List.any_eq_true.2 ⟨p,hp', ?_⟩)
    refine Classical.byContradiction fun hn => ?_
    simp only [Bool.or_eq_true,not_or,Bool.not_eq_true] at hn
    rw [Ho (cx:=cx) (CR hn.1) (CR hn.2)] at hd
    cases hd
 | _ =>
  refine DE hk hp ha (fun c' hc' => ?_) (same rfl (fun hd=>(hd:False)))
  rcases hc' with e | ⟨_,_,e⟩ | e | ⟨_,e⟩ <;> cases e
theorem K9 (hk:Ar (cx.in ms ps) s0 s1) (hp:Ck cx ms ps=true) (ha:Fy ms ps s0 s1 σ W tm (Et W ps) vss) {a a':AV} {v:Value} (hc:Cz (cx.in ms ps) a a') (hv:BY s1 W a' v) :
  BY σ (C0 σ W ps) (a.clean (fun r=>has ms r||has (ps.flatMap VP.AP) r) fun r=>has ms r||has (ps.flatMap VP.roots) r) v:=by
 have hV:∀ {g:Bool} {as as':List LA},as'.length=as.length→(∀ (j:Nat) (b:LA),as[j]? = some b→∃ b',as'[j]? = some b'∧E9 (cx.in ms ps) b b')→Ex s1 W g as' v →
   Ex σ (C0 σ W ps) g (as.map (LA.clean (fun r=>has ms r||has (ps.flatMap VP.AP) r) fun r=>has ms r||has (ps.flatMap VP.roots) r)) v:=by
  intro g as as' hlen hl hv
  cases g with
  | false =>
   match as,as',hlen,hl,hv with
   | [b],[b'],_,hl,hv =>
    obtain ⟨b2,h1,h2⟩:=hl 0 b rfl
    simp at h1;subst h1
    exact HD hk hp ha h2 hv
   | [],[],_,hl,hv=>exact hv.elim
   | _::_::_,_::_::_,_,hl,hv=>exact hv.elim
  | true =>
   obtain ⟨cs,hcs,hsz,hget⟩:=hv
   refine ⟨cs,hcs,by rw [hsz,hlen];simp,fun j b hj => ?_⟩
   rw [List.getElem?_map] at hj
   cases hq:as[j]? with
   | none=>rw [hq] at hj;cases hj
   | some c =>
    rw [hq] at hj;injection hj with hj;subst hj
    obtain ⟨c',h1,h2⟩:=hl j c hq
    obtain ⟨u,hu,hok⟩:=hget j c' h1
    exact ⟨u,hu,HD hk hp ha h2 hok⟩
 cases hc with
 | same =>
  cases a with
  | De vs=>trivial
  | bx as=>trivial
  | v g as=>exact hV rfl (fun j b hj=>⟨b,hj, .inl rfl⟩) hv
 | v g as as' h hl=>exact hV h hl hv
 | De vs=>trivial
 | bx as=>trivial
end
end Go.Ev
namespace Go.Ev
set_option linter.unusedVariables false
set_option linter.unusedSimpArgs false
section
variable {E:Cq} {cx:Cx} {N:Nat} {ms:List Nat} {ps:List VP} {s0 s1 σ:St} {tm:Array Value} {W:Wd} {vss:List (List Lv)}
theorem Lm {a:LA} {v:Nat} {fz:Nat→Prop} {y:Value} {o:List Nat} (h:match a with
  | .arr AA gen t e xs d=>AA=v∧gen=v∧AD e d W.w W.fz y xs o
  | .sc l x=>l.rd 0 W.w (Et W ps) y x []
  | .bad=>True
  | _=>False):Aa σ (C0 σ W ps) a (some y) (bif a.CH then o else []):=by
 cases a with
 | arr AA gen t e xs d=>exact ⟨y,rfl,h.2.2.frame (fun _ _=>rfl) fun b hb => .inl hb⟩
 | sc l x=>exact ⟨rfl,fun u hu=>by injection hu with hu;subst hu;exact h⟩
 | bad=>exact ⟨rfl,fun _ _=>trivial⟩
 | _=>exact h.elim
theorem L1 (h:AW E s1 tm W) (r1:Bg s1) (h2:2≤s0.Bv) (hk:Ar (cx.in ms ps) s0 s1) (hp:Ck cx ms ps=true) (ha:Fy ms ps s0 s1 σ W tm (Et W ps) vss):AW E σ tm (C0 σ W ps) where
 DB:=by rw [ha.l1, ← hk.l1,h.DB]
 Bx:=by rw [ha.l2, ← hk.l2,h.Bx]
 AP t:=by
  by_cases ht:t∈ps.flatMap VP.AP
  ·obtain ⟨p,hm,ht⟩:=List.mem_flatMap.1 ht
   obtain ⟨vs,hto,hat⟩:=ha.get hm
   cases p with
   | slot u l =>
    simp [VP.AP] at ht;subst ht
    obtain ⟨_,x,rfl,hr⟩:=hto
    rw [hat _ rfl]
    exact L.AJ l hr (fun _ _=>rfl) fun b hb => .inl hb
   | own u ty e d k =>
    simp [VP.AP] at ht;subst ht
    obtain ⟨_,xs,rfl,_,hcv,hr,_⟩:=hto
    rw [(hat _ rfl).1]
    intro gen t' e' xs' d' hl hg
    exact ⟨_,e',hcv,rfl,rfl⟩
   | box r ls=>simp [VP.AP] at ht
  ·rw [ha.slot t ht,F5]
   cases hms:has ms t with
   | true=>exact trivial
   | false=>exact K9 hk hp ha (hk.AP t (Ho (CR hms) ht)) (h.AP t)
 roots r:=by
  by_cases hr:r∈ps.flatMap VP.roots
  ·obtain ⟨p,hm,hr⟩:=List.mem_flatMap.1 hr
   obtain ⟨vs,hto,hat⟩:=ha.get hm
   cases p with
   | slot u l=>simp [VP.roots] at hr
   | own u ty e d k =>
    simp [VP.roots] at hr;subst hr
    obtain ⟨_,xs,rfl,hbx,hcv,hrd,_⟩:=hto
    have hro:=(hat _ rfl).2
    refine ⟨fun j => ?_, ?_⟩
    ·have hom:(C0 σ W ps).om (.lf r j)=bif (nth .bad (σ.root r).ls j).CH then W.om (.lf r j) else []:=rfl
     rw [hom,hro]
     cases j with
     | zero =>
      show Aa _ _ (DN s0.Bv d k ⟨.sl ty e,xs⟩) (W.cv r 0) (bif (DN s0.Bv d k ⟨.sl ty e,xs⟩).CH then W.om (.lf r 0) else [])
      rw [hcv]
      cases d with
      | zero =>
       have:=AD.zero hrd
       rw [this] at hrd
       exact ⟨rfl,fun u hu=>by injection hu with hu;subst hu;exact L.AJ (.sl ty e) hrd (fun _ _=>rfl) fun b hb => .inl hb⟩
      | succ d=>exact ⟨_,rfl,hrd.frame (fun _ _=>rfl) fun b hb => .inl hb⟩
     | succ j=>exact ⟨rfl,fun _ _=>trivial⟩
    ·rw [hro]
     show (if false=true then _ else _)
     rw [if_neg (by simp)]
     show (bif (σ.root r).box then W.om (.AX r) else [])=[]
     rw [hro];rfl
   | box q ls =>
    simp [VP.roots] at hr;subst hr
    have hat:σ.root r=_:=hat
    obtain ⟨hbx,hlen,_,hto⟩:=hto
    obtain ⟨_,h2'⟩:=h.roots r
    rw [if_pos hbx] at h2'
    obtain ⟨ho,arr,T,fr,hh,a1,a2,a3⟩:=h2'
    refine ⟨fun j => ?_, ?_⟩
    ·have hom:(C0 σ W ps).om (.lf r j)=bif (nth .bad (σ.root r).ls j).CH then W.om (.lf r j) else []:=rfl
     rw [hom,hat]
     show Aa _ _ (nth .bad (AQ s0.Bv ls vs) j) (W.cv r j) (bif (nth .bad (AQ s0.Bv ls vs) j).CH then W.om (.lf r j) else [])
     cases hcv:W.cv r j with
     | some y=>exact Lm (v:=s0.Bv) (fz:=Et W ps) (hto s0.Bv j y hcv)
     | none =>
      have hj:ls.length≤j:=by
       rw [hlen, ← a2]
       rw [a3 j] at hcv
       exact Array.getElem?_eq_none_iff.1 hcv
      rw [A3 _ (by rw [BI];exact hj)]
      exact ⟨rfl,fun _ hu=>by cases hu⟩
    ·rw [hat]
     show (if true=true then _ else _)
     rw [if_pos rfl]
     refine ⟨?_,arr,T,fr,hh,a1,by rw [BI,hlen];exact a2,a3⟩
     show (bif (σ.root r).box then W.om (.AX r) else [])=_
     rw [hat];exact ho
  ·cases hms:has ms r with
   | true =>
    have hro:σ.root r=dead:=by rw [ha.root r hr,CF,hms];rfl
    rw [hro]
    refine ⟨fun j => ?_, ?_⟩
    ·have hom:(C0 σ W ps).om (.lf r j)=bif (nth .bad (σ.root r).ls j).CH then W.om (.lf r j) else []:=rfl
     rw [hom,hro]
     exact ⟨rfl,fun _ _=>trivial⟩
    ·show (if false=true then _ else _)
     rw [if_neg (by simp)]
     show (bif (σ.root r).box then W.om (.AX r) else [])=[]
     rw [hro];rfl
   | false =>
    have hro:=Fz hk ha (CR hms) hr
    rw [hro]
    obtain ⟨q1,q2⟩:=h.roots r
    refine ⟨fun j => ?_, ?_⟩
    ·have hom:(C0 σ W ps).om (.lf r j)=bif (nth .bad (σ.root r).ls j).CH then W.om (.lf r j) else []:=rfl
     rw [hom,hro]
     have hq:=q1 j
     show Aa _ _ _ (W.cv r j) _
     have hri:∀ b,nth LA.bad (s1.root r).ls j=b→b.Ca=true:=by
      intro b hb
      by_cases hj:j<(s1.root r).ls.length
      ·rw [← hb];exact r1 r _ (G0 hj)
      ·rw [A3 _ (by omega)] at hb;subst hb;rfl
     generalize nth LA.bad (s1.root r).ls j=b at hq hri
     have hri:=hri b rfl
     have hla:∀ v,AR s1 W b v→AR σ (C0 σ W ps) b v:=fun v hv=>DE hk hp ha (fun c hc=>by
      rcases hc with e | ⟨_,_,e⟩ | e | ⟨_,e⟩ <;> (subst e;cases hri)) hv
     cases b with
     | arr AA gen t e xs d =>
      obtain ⟨u,hu,hrd⟩:=hq
      exact ⟨u,hu,hrd.frame (fun _ _=>rfl) fun b hb => .inl hb⟩
     | _=>exact ⟨rfl,fun u hu=>hla u (hq.2 u hu)⟩
    ·have hom:(C0 σ W ps).om (.AX r)=bif (σ.root r).box then W.om (.AX r) else []:=rfl
     rw [hom,hro]
     cases hb:(s1.root r).box with
     | true =>
      rw [hb] at q2
      rw [if_pos rfl] at q2 ⊢
      exact q2
     | false=>rw [if_neg (by simp)];rfl
 sep:=L6 h ha
 init:=by
  refine ⟨fun r j gen t e xs d hl => ?_,fun r hb hver => ?_⟩
  ·by_cases hr:r∈ps.flatMap VP.roots
   ·obtain ⟨p,hm,hr⟩:=List.mem_flatMap.1 hr
    obtain ⟨vs,hto,hat⟩:=ha.get hm
    cases p with
    | slot u l=>simp [VP.roots] at hr
    | own u ty e' d' k =>
     simp [VP.roots] at hr;subst hr
     obtain ⟨_,ys,rfl,_,_,_,hkk⟩:=hto
     have hro:=(hat _ rfl).2
     unfold St.leaf at hl
     rw [hro] at hl
     cases j with
     | zero =>
      have hl:DN s0.Bv d' k ⟨.sl ty e',ys⟩ = .arr 1 gen t e xs d:=hl
      cases k with
      | true =>
       obtain ⟨g1,t1,e1,xs1,d1,hl1⟩:=hkk rfl
       exact h.init.1 r 0 g1 t1 e1 xs1 d1 hl1
      | false =>
       cases d' with
       | zero=>cases hl
       | succ d' =>
        have hl:LA.arr s0.Bv s0.Bv ty e' ys (d'+1) = .arr 1 gen t e xs d:=hl
        injection hl with h1;omega
     | succ j=>cases hl
    | box q ls =>
     simp [VP.roots] at hr;subst hr
     have hat:σ.root r=_:=hat
     unfold St.leaf at hl
     rw [hat] at hl
     have hl:nth LA.bad (AQ s0.Bv ls vs) j = .arr 1 gen t e xs d:=hl
     obtain ⟨hbx,hlen,_,hto⟩:=hto
     obtain ⟨_,h2'⟩:=h.roots r
     rw [if_pos hbx] at h2'
     obtain ⟨_,arr,T,fr,hh,a1,a2,a3⟩:=h2'
     have hj:j<ls.length:=by
      rcases Nat.lt_or_ge j ls.length with hj | hj
      ·exact hj
      ·rw [A3 _ (by rw [BI];exact hj)] at hl;cases hl
     have hcv:W.cv r j=some (arr[j]'(by omega)):=by rw [a3 j];exact Array.getElem?_eq_getElem _
     have:=hto s0.Bv j _ hcv
     rw [hl] at this
     have:=this.1;omega
   ·have hro:=ha.root r hr
    cases hms:has ms r with
    | true =>
     rw [CF,hms] at hro
     unfold St.leaf at hl
     rw [hro] at hl
     cases j <;> cases hl
    | false =>
     have hro:=Fz hk ha (CR hms) hr
     exact h.init.1 r j gen t e xs d (by rw [← Ak hro];exact hl)
  ·obtain ⟨b1,b2,_⟩:=HC hk hp ha hb
   exact h.init.2 r b1 (b2.trans hver)
end
end Go.Ev
namespace Go.Ev
set_option linter.unusedVariables false
set_option linter.unusedSimpArgs false
section
variable {E:Cq} {cx:Cx} {N:Nat} {ms:List Nat} {ps:List VP} {s0 s1 σ:St} {tm:Array Value} {W:Wd} {vss:List (List Lv)}
structure Open (c:Cx) (ms:List Nat) (ps:List VP):Prop where
 m1:∀ r∈ms,c.lock r=false∧c.E6 r=false
 p1:∀ r∈ps.flatMap VP.roots,c.lock r=false
 p2:∀ r∈ps.flatMap VP.AP,c.E6 r=false
theorem Mb (hlk:∀ t∈ms,cx.lock t=false∧cx.E6 t=false) (hp:Ck cx ms ps=true):Open cx ms ps:=by
 simp only [Ck,Bool.and_eq_true] at hp
 refine ⟨hlk,fun r hr => ?_,fun r hr => ?_⟩
 ·obtain ⟨p,hm,hr⟩:=List.mem_flatMap.1 hr
  have:=List.all_eq_true.1 hp.2 p hm
  cases p with
  | slot u l=>simp [VP.roots] at hr
  | own u ty e d k=>simp [VP.roots] at hr;subst hr;simp only [Bool.and_eq_true,Bool.not_eq_true'] at this;exact this.1.1
  | box q ls=>simp [VP.roots] at hr;subst hr;simp only [Bool.and_eq_true,Bool.not_eq_true'] at this;exact this.1.2
 ·obtain ⟨p,hm,hr⟩:=List.mem_flatMap.1 hr
  have:=List.all_eq_true.1 hp.2 p hm
  cases p with
  | slot u l=>simp [VP.AP] at hr;subst hr;simpa using this
  | own u ty e d k=>simp [VP.AP] at hr;subst hr;simp only [Bool.and_eq_true,Bool.not_eq_true'] at this;exact this.1.2
  | box q ls=>simp [VP.AP] at hr
theorem NR (h:Open cx ms ps):Open (cx.in ms ps) ms ps:=by
 refine ⟨fun r hr => ?_,fun r hr => ?_,fun r hr => ?_⟩
 ·have:=h.m1 r hr
  simp [Cx.in,this.1,this.2,(BA ms r).2 hr]
 ·simp [Cx.in,h.p1 r hr,(BA _ r).2 hr]
 ·simp [Cx.in,h.p2 r hr,(BA _ r).2 hr]
theorem HE {c:Cx} (ho:Open c ms ps) (hk:Ar (cx.in ms ps) s0 s1) (hp:Ck cx ms ps=true) (ha:Fy ms ps s0 s1 σ W tm (Et W ps) vss) (hctr:s0.Bv≤σ.Bv):Ar c s0 σ where
 AP t ht:=by
  have n1:t∉ms:=fun hh=>by rw [(ho.m1 t hh).2] at ht;cases ht
  have n2:t∉ps.flatMap VP.AP:=fun hh=>by rw [ho.p2 t hh] at ht;cases ht
  rw [ha.slot t n2,F5,Gx n1]
  refine LH (fun r hr => ?_) (fun r hr => ?_) _
  ·simp only [Bool.or_eq_true] at hr
   exact hr.elim (fun hr=>(ho.m1 r ((BA _ _).1 hr)).2) fun hr=>ho.p2 r ((BA _ _).1 hr)
  ·simp only [Bool.or_eq_true] at hr
   exact hr.elim (fun hr=>(ho.m1 r ((BA _ _).1 hr)).1) fun hr=>ho.p1 r ((BA _ _).1 hr)
 roots r hr:=by
  have n1:r∉ms:=fun hh=>by rw [(ho.m1 r hh).1] at hr;cases hr
  have n2:r∉ps.flatMap VP.roots:=fun hh=>by rw [ho.p1 r hh] at hr;cases hr
  rw [ha.root r n2,CF,Gx n1];rfl
 box r hr:=by
  have n1:r∉ms:=fun hh=>by rw [(ho.m1 r hh).2] at hr;cases hr
  have n3:r∉ps.flatMap VP.AP:=fun hh=>by rw [ho.p2 r hh] at hr;cases hr
  by_cases n2:r∈ps.flatMap VP.roots
  ·obtain ⟨p,hm,hr'⟩:=List.mem_flatMap.1 n2
   obtain ⟨vs,hto,hat⟩:=ha.get hm
   cases p with
   | slot u l=>simp [VP.roots] at hr'
   | own u ty e d k=>simp [VP.roots] at hr';subst hr';exact absurd (List.mem_flatMap.2 ⟨_,hm,by simp [VP.AP]⟩) n3
   | box q ls =>
    simp [VP.roots] at hr';subst hr'
    have hat:σ.root r=_:=hat
    obtain ⟨b1,b2,b3⟩:=hk.box r (Ho n1 n3)
    rw [hat]
    exact ⟨hto.1.symm.trans b1,rfl,(BI _ _ _).trans (hto.2.1.trans b3)⟩
  ·rw [ha.root r n2,CF,Gx n1];exact ⟨rfl,rfl,rfl⟩
 l1:=ha.l1
 l2:=ha.l2
 Bv:=hctr
end
end Go.Ev
namespace Go.Ev
set_option linter.unusedVariables false
set_option linter.unusedSimpArgs false
theorem Gd (v m:Nat) (x:Lv):(∀ n∈(BT v m x).AH,n=v)∧(BT v m x).Ca=true:=by
 obtain ⟨l,x⟩:=x
 cases l with
 | sl t e=>cases m with
  | zero=>exact ⟨fun n hn=>by simp [BT,LA.AH] at hn,rfl⟩
  | succ m=>exact ⟨fun n hn=>by simp [BT,LA.AH] at hn;exact hn,rfl⟩
 | _=>exact ⟨fun n hn=>by simp [BT,LA.AH] at hn,rfl⟩
theorem Iq (v:Nat) (k:Bool):FO v k=v∨FO v k=1:=by cases k;exact .inl rfl;exact .inr rfl
theorem Ge (v m:Nat) (k:Bool) (x:Lv):(∀ n∈(DN v m k x).AH,n=v∨n=1)∧(DN v m k x).Ca=true:=by
 obtain ⟨l,x⟩:=x
 cases l with
 | sl t e=>cases m with
  | zero=>exact ⟨(fun n hn=>by have hn:n∈([]:List Nat):=hn;cases hn),rfl⟩
  | succ m =>
   refine ⟨fun n hn => ?_,rfl⟩
   have hn:n∈[FO v k,v]:=hn
   simp at hn
   rcases hn with rfl | rfl
   ·exact Iq _ _
   ·exact .inl rfl
 | _=>exact ⟨(fun n hn=>by have hn:n∈([]:List Nat):=hn;cases hn),rfl⟩
theorem B6 (v:Nat):∀ (ls:List (Option (L×Nat))) (vs:List Lv),∀ a∈AQ v ls vs,(∀ n∈a.AH,n=v)∧a.Ca=true
 | [],vs,a,h=>by cases h
 | none::ls,vs,a,h=>by
  rcases List.mem_cons.1 (show a ∈ .bad::AQ v ls vs from h) with rfl | h
  ·exact ⟨(fun n hn=>by cases hn),rfl⟩
  ·exact B6 v ls vs a h
 | some (l,d)::ls,[],a,h=>by
  rcases List.mem_cons.1 (show a ∈ .bad::AQ v ls [] from h) with rfl | h
  ·exact ⟨(fun n hn=>by cases hn),rfl⟩
  ·exact B6 v ls [] a h
 | some (l,d)::ls,x::vs,a,h=>by
  rcases List.mem_cons.1 (show a∈BT v d x::AQ v ls vs from h) with rfl | h
  ·exact Gd v d x
  ·exact B6 v ls vs a h
section
variable {E:Cq} {cx:Cx} {N:Nat} {ms:List Nat} {ps:List VP} {s0 s1 σ:St} {tm:Array Value} {W:Wd} {vss:List (List Lv)}
theorem L0 (i0:Inv N s0) (ha:Fy ms ps s0 s1 σ W tm (Et W ps) vss) (hctr:σ.Bv=s0.Bv+1):Inv N σ where
 AH:=by
  rw [hctr]
  refine ⟨fun t n hn => ?_,fun r n hn => ?_⟩
  ·by_cases ht:t∈ps.flatMap VP.AP
   ·obtain ⟨p,hm,ht⟩:=List.mem_flatMap.1 ht
    obtain ⟨vs,hto,hat⟩:=ha.get hm
    cases p with
    | slot u l =>
     simp [VP.AP] at ht;subst ht
     obtain ⟨_,x,rfl,hr⟩:=hto
     rw [hat _ rfl] at hn
     simp [one,AV.AH,LA.AH] at hn
    | own u ty e d k =>
     simp [VP.AP] at ht;subst ht
     obtain ⟨_,xs,rfl,_⟩:=hto
     rw [(hat _ rfl).1] at hn
     have:=Iq s0.Bv k
     have:=i0.two
     simp [one,AV.AH,LA.AH] at hn;omega
    | box r ls=>simp [VP.AP] at ht
   ·rw [ha.slot t ht,F5] at hn
    split at hn
    ·simp [one,AV.AH,LA.AH] at hn
    ·have:=i0.AH.1 t n (KS _ _ _ n hn);omega
  ·by_cases hr:r∈ps.flatMap VP.roots
   ·obtain ⟨p,hm,hr⟩:=List.mem_flatMap.1 hr
    obtain ⟨vs,hto,hat⟩:=ha.get hm
    cases p with
    | slot u l=>simp [VP.roots] at hr
    | own u ty e d k =>
     simp [VP.roots] at hr;subst hr
     obtain ⟨_,xs,rfl,_⟩:=hto
     rw [(hat _ rfl).2] at hn
     rcases List.mem_cons.1 hn with hn | hn
     ·have hn:n=s0.Bv:=hn;omega
     ·obtain ⟨a,ha',hn⟩:=List.mem_flatMap.1 hn
      simp at ha';subst ha'
      have:=(Ge _ _ _ _).1 n hn;have:=i0.two;omega
    | box q ls =>
     simp [VP.roots] at hr;subst hr
     have hat:σ.root r=_:=hat
     rw [hat] at hn
     rcases List.mem_cons.1 hn with hn | hn
     ·have hn:n=(s0.root r).AA:=hn
      have:=i0.AH.2 r n (by rw [hn];exact List.mem_cons_self);omega
     ·obtain ⟨a,ha',hn⟩:=List.mem_flatMap.1 hn
      have:=(B6 _ _ _ a ha').1 n hn;omega
   ·rw [ha.root r hr,CF] at hn
    split at hn
    ·simp [dead,Bo.AH] at hn;omega
    ·have:=i0.AH.2 r n hn;omega
 two:=by have:=i0.two;omega
 len:=ha.l1.trans i0.len
 Bx:=ha.l2.trans i0.Bx
 Lc:=by
  intro r a hm'
  by_cases hr:r∈ps.flatMap VP.roots
  ·obtain ⟨p,hm,hr⟩:=List.mem_flatMap.1 hr
   obtain ⟨vs,hto,hat⟩:=ha.get hm
   cases p with
   | slot u l=>simp [VP.roots] at hr
   | own u ty e d k =>
    simp [VP.roots] at hr;subst hr
    obtain ⟨_,xs,rfl,_⟩:=hto
    rw [(hat _ rfl).2] at hm'
    simp at hm';subst hm'
    exact (Ge _ _ _ _).2
   | box q ls =>
    simp [VP.roots] at hr;subst hr
    have hat:σ.root r=_:=hat
    rw [hat] at hm'
    exact (B6 _ _ _ a hm').2
  ·rw [ha.root r hr,CF] at hm'
   split at hm'
   ·cases hm'
   ·exact i0.Lc r a hm'
theorem LJ (x:(C8 ps).D):(B1 ms ps s0 x).Bv=s0.Bv+1:=by unfold B1;rw [I4];rfl
theorem Di {x:(C8 ps).D} (h1:AW E s1 tm W) (i1:Bg s1) (i0:Inv N s0) (hk:Ar (cx.in ms ps) s0 s1) (hlk:∀ t∈ms,cx.lock t=false∧cx.E6 t=false) (hp:Ck cx ms ps=true) (hx:Aq ps s1=some x) :
  ∃ W',W'.w=W.w∧AW E (B1 ms ps s0 x) tm W'∧Inv N (B1 ms ps s0 x)∧Ar cx s0 (B1 ms ps s0 x)∧Ar (cx.in ms ps) s0 (B1 ms ps s0 x):=by
 obtain ⟨vss,ha⟩:=M3 (N:=N) h1 i1 hk hp hx
 have hc:=LJ (ms:=ms) (s0:=s0) x
 have ho:=Mb hlk hp
 exact ⟨C0 (B1 ms ps s0 x) W ps,rfl,L1 h1 i1 i0.two hk hp ha,L0 i0 ha hc,HE ho hk hp ha (by omega),HE (NR ho) hk hp ha (by omega)⟩
end
end Go.Ev
namespace Go.Ev
set_option linter.unusedVariables false
set_option linter.unusedSimpArgs false
section
variable {P:Program} {E:Cq} {cx:Cx} {N:Nat} {s:St} {W:Wd} {a:Act} {Q:Exit→Act→World→Prop}
theorem M9 {n:Nat} {tm:Array Value} (h:AW E s tm W):AW E { s with Bv:=n } tm W where
 DB:=h.DB
 Bx:=h.Bx
 AP t:=BY.map (fun b hb=>⟨hb,rfl⟩) (fun a v hv=>by cases a <;> exact hv) (h.AP t)
 roots r:=by
  obtain ⟨q1,q2⟩:=h.roots r
  exact ⟨fun j=>(q1 j).map (fun a v hv=>by cases a <;> exact hv) fun _ _ _ _ hr=>hr,q2⟩
 sep:=h.sep
 init:=h.init
theorem Mc (hc:Dg P cx) (henv:DD P E cx.env) (hm:P.follows .mixedOrders=true) {id:Nat} {ops:Array Oper} {draw:Bool} {R:Type} {k:St→Option R} {x:R} (hcode:codeOk N (.region id ops draw)=true) (hslk:∀ o∈ops.toList,∀ d,o.dst=some d→cx.E6 d=false)
  (hrep:AW E s a.tmps W) (hinv:Inv N s) (he:ER cx ⟨ops,s.Bv,draw⟩ (number 0 ops.toList) (Es ops.toList []) [] s k=some x)
  (hK:∀ s' a' W',a'.defers=a.defers→AW E s' a'.tmps W'→Ar cx s s'→Bg s'→BU s' (· < s.Bv+ops.size)→k s'=some x→Q .normal a' W'.w):(Code.region id ops draw).wp P Q a W.w:=by
 obtain ⟨tr,ht,hlen,hk⟩:=ES ops.toList 0 [] s he
 simp only [codeOk,Bool.and_eq_true] at hcode
 obtain ⟨hE,hdst⟩:=hcode
 have hd:∀ o∈ops.toList,∀ d,o.dst=some d→d<s.sl.length:=by
  intro o ho d hd
  have:=List.all_eq_true.1 hdst o ho
  rw [hd] at this
  rw [hinv.len];simpa using this
 obtain ⟨hkeep,hrin⟩:=Ga ops.toList 0 [] s tr ht hslk hinv.Lc
 have hfin:∀ a' W',a'.defers=a.defers→AW E (AL (fun _=>true) 0 tr s) a'.tmps W'→BU (AL (fun _=>true) 0 tr s) (pA s.Bv (· < ops.size))→Q .normal a' W'.w:=fun a' W' h1 h2 h3 =>
  hK _ a' W' h1 h2 hkeep hrin (h3.mono fun n hn=>by
   rcases hn with hn | ⟨j,hj,e⟩
   ·omega
   ·have:j<ops.size:=hj;omega) hk
 have h2:=hinv.two
 cases draw with
 | false =>
  refine wp_region ?_
  have:=Mk (g:=⟨ops,s.Bv,false⟩) (bs:=Es ops.toList []) (Q:=Q) hc henv (show 1<s.Bv by omega) (fun i j hi hj=>by
   have hi:i<ops.size:=hi
   exact Iy (ops:=ops) hE (A:=(· < i)) (fun k o hk ho e he hb=>by
     have:=Cj ops.toList 0 hE k o (by simpa using ho) e he hb
     have hk:k<i:=hk
     show e.on<i
     omega) (fun k hk=>Nat.lt_trans hk hi) (i:=i) (o:=ops[i]) (by simp [hi]) (fun e he hb=>by
     have:=Cj ops.toList 0 hE i ops[i] (by simp [hi]) e he hb
     show e.on<i
     omega) j hj) ops.toList 0 [] s tr a W ht (fun k o hk=>by simpa using hk) hrep (hinv.AH.mono fun n hn => .inl hn) hd (fun a' W' q1 q2 q3=>hfin a' W' q1 q2 (by simpa using q3))
  have e:List.range ops.size=List.range' 0 ops.toList.length:=by rw [List.range_eq_range'];simp
  rw [e];exact this
 | true =>
  refine wp_region_any hm ?_
  have hnone:∀ (tr:List (Nat×List Wr)) (i:Nat) (s:St),AL (fun i=>(Array.replicate ops.size false).getD i false) i tr s=s:=by
   intro tr
   induction tr with
   | nil=>intro i s;rfl
   | cons y tr ih =>
    intro i s
    simp only [AL]
    have:(Array.replicate ops.size false).getD i false=false:=by
     rw [Array.getD_eq_getD_getElem?,Array.getElem?_replicate];split <;> rfl
    rw [this];exact ih (i+1) s
  have hrepd:AW E s a.tmps { W with w:={ W.w with drawn:=W.w.drawn+1 } }:=hrep.world (fun _ _=>rfl) (fun _ _ _=>rfl) (Nat.le_refl _) ⟨rfl,rfl,rfl⟩
  exact Nk (g:=⟨ops,s.Bv,true⟩) (Q:=Q) hc henv (show 1<s.Bv by omega) hE rfl ht (by simpa using hlen) hinv.AH hd hfin ops.size (Array.replicate ops.size false) a { W with w:={ W.w with drawn:=W.w.drawn+1 } } (by simp) (by simp) rfl
   (by rw [hnone];exact hrepd) (by rw [hnone];exact hinv.AH.mono fun n hn => .inl hn) (fun i o hi=>by
    rw [Array.getD_eq_getD_getElem?,Array.getElem?_replicate] at hi
    split at hi <;> cases hi)
end
end Go.Ev
namespace Go.Ev
set_option linter.unusedVariables false
set_option linter.unusedSimpArgs false
section
variable {P:Program} {E:Cq} {cx:Cx} {N:Nat} {s:St} {W:Wd} {a:Act} {Q:Exit→Act→World→Prop}
theorem Hc:∀ (os:List Oper) (i:Nat) (o:Oper) (d:Nat),o∈os→o.dst=some d→d∈Gn (number i os)
 | [],i,o,d,h,_=>by cases h
 | x::os,i,o,d,h,hd=>by
  simp only [number,Gn]
  rcases List.mem_cons.1 h with rfl | h
  ·rw [hd];exact List.mem_cons_self
  ·have:=Hc os (i+1) o d h hd
   cases x.dst with
   | none=>exact this
   | some y=>exact List.mem_cons_of_mem _ this
theorem LO {s':St} {n:Nat} (h:Ar cx s s') (hn:s.Bv≤n):Ar cx s { s' with Bv:=n }:=⟨h.AP,h.roots,h.box,h.l1,h.l2,hn⟩
theorem IA {an:An} (hc:Dg P cx) (henv:DD P E cx.env) (hm:P.follows .mixedOrders=true) {id:Nat} {ops:Array Oper} {draw:Bool} {R:Type} {k:St→Option R} {x:R} (hcode:codeOk N (.region id ops draw)=true)
  (hlk:∀ t∈CC (.region id ops draw),cx.lock t=false∧cx.E6 t=false) (hrep:AW E s a.tmps W) (hinv:Inv N s) (he:El cx an id ops draw s k=some x)
  (hK:∀ s' a' W',a'.defers=a.defers→AW E s' a'.tmps W'→Inv N s'→Ar cx s s'→k s'=some x→Q .normal a' W'.w):(Code.region id ops draw).wp P Q a W.w:=by
 unfold El at he
 dsimp only at he
 split at he
 ·refine Mc hc henv hm hcode (fun o ho d hd=>(hlk d (Hc _ _ o d ho hd)).2) hrep hinv he fun s' a' W' q1 q2 q3 q4 q5 q6 => ?_
  exact hK { s' with Bv:=s.Bv+ops.size } a' W' q1 (M9 q2) ⟨q5,by have:=hinv.two;show 2≤s.Bv+ops.size;omega,q3.l1.trans hinv.len,q3.l2.trans hinv.Bx,q4⟩ (LO q3 (by omega)) q6
 ·have he:(fun ps:List VP=>if Ck cx (Gn (number 0 ops.toList)) ps then (ER (cx.in (Gn (number 0 ops.toList)) ps) ⟨ops,s.Bv,draw⟩ (number 0 ops.toList) (Es ops.toList []) [] s (Aq ps)).bind fun x=>k (B1 (Gn (number 0 ops.toList)) ps s x) else none) (match an.Oq id with
   | some p=>p
   | none=>JE ops.toList)=some x:=he
  generalize (match an.Oq id with
   | some p=>p
   | none=>JE ops.toList)=ps at he
  dsimp only at he
  split at he
  ·rename_i hpat
   cases hq:ER (cx.in (Gn (number 0 ops.toList)) ps) ⟨ops,s.Bv,draw⟩ (number 0 ops.toList) (Es ops.toList []) [] s (Aq ps) with
   | none=>rw [hq] at he;cases he
   | some y =>
    rw [hq] at he
    have he:k (B1 (Gn (number 0 ops.toList)) ps s y)=some x:=he
    have hcin:Dg P (cx.in (Gn (number 0 ops.toList)) ps):=hc
    refine Mc hcin henv hm hcode (fun o ho d hd => ?_) hrep hinv hq fun s' a' W' q1 q2 q3 q4 q5 q6 => ?_
    ·have hmem:=Hc ops.toList 0 o d ho hd
     have h1:cx.E6 d=false:=(hlk d hmem).2
     simp [Cx.in,h1,(BA _ d).2 hmem]
    ·obtain ⟨W2,w2,r2,i2,k2,_⟩:=Di (N:=N) q2 q4 hinv q3 (fun t ht=>hlk t ht) hpat q6
     rw [← w2]
     exact hK _ a' W2 q1 r2 i2 k2 he
  ·cases he
theorem Jt {rs:List Nat} {s':St} {W':Wd} (fr:JY s s' W W' rs) (hlk:∀ r∈rs,cx.lock r=false) (hroot:∀ r,r∉rs→s'.root r=s.root r) (hctr:s'.Bv=s.Bv):Ar cx s s' where
 AP t _:=by
  have:s'.slot t=s.slot t:=by show nth _ s'.sl t=_;rw [fr.same.sl];rfl
  rw [this];exact .same _
 roots r hr:=hroot r fun hm=>by rw [hlk r hm] at hr;cases hr
 box r _:=fr.same.box r
 l1:=by rw [fr.same.sl]
 l2:=fr.same.len
 Bv:=by rw [hctr];exact Nat.le_refl _
theorem Gb (r:Nat):∀ (as:List LA) (j:Nat) (s:St),(s.app (A4 r j as)).Bv=s.Bv∧∀ x,x≠r→(s.app (A4 r j as)).root x=s.root x
 | [],j,s=>⟨rfl,fun _ _=>rfl⟩
 | a::as,j,s=>by
  obtain ⟨h1,h2⟩:=Gb r as (j+1) (s.AG (.leaf r j a))
  refine ⟨h1,fun x hx=>(h2 x hx).trans ?_⟩
  show nth _ (CV s.ro r _) x=_
  rw [Ay,if_neg fun hh=>hx hh.1.symm];rfl
theorem Fa:∀ {rs:List Nat} {ws:List Wr} (s0 s:St),Au cx s0 rs=some ws→(s.app ws).Bv=s.Bv∧∀ x,x∉rs→(s.app ws).root x=s.root x
 | [],ws,s0,s,h=>by injection h with h;subst h;exact ⟨rfl,fun _ _=>rfl⟩
 | r::rs,ws,s0,s,h=>by
  simp only [Au] at h
  split at h
  ·cases h
  ·split at h
   ·rename_i ws' hws
    injection h with h;subst h
    rw [BD]
    obtain ⟨a1,a2⟩:=Gb r ((s0.root r).ls.map BF) 0 s
    obtain ⟨b1,b2⟩:=Fa s0 (s.app (A4 r 0 ((s0.root r).ls.map BF))) hws
    exact ⟨b1.trans a1,fun x hx=>(b2 x fun hm=>hx (List.mem_cons_of_mem _ hm)).trans (a2 x fun e=>hx (e ▸ List.mem_cons_self))⟩
   ·cases h
theorem JA (a:LA):(BF a).AH=a.AH:=by cases a <;> rfl
theorem KT (a:LA) (h:a.Ca=true):(BF a).Ca=true:=by cases a <;> first | exact h | rfl
theorem Hr (r:Nat):∀ (as:List LA) (j:Nat) (s:St) (x:Nat),∀ a∈((s.app (A4 r j as)).root x).ls,a∈(s.root x).ls∨(x=r∧a∈as)
 | [],j,s,x,a,h => .inl h
 | b::as,j,s,x,a,h=>by
  rcases Hr r as (j+1) (s.AG (.leaf r j b)) x a h with h | ⟨h1,h2⟩
  ·have hroot:(s.AG (.leaf r j b)).root x=if r=x∧r<s.ro.length then { s.root r with ls:=CV (s.root r).ls j b } else s.root x:=Ay _ _ _ _ _
   rw [hroot] at h
   split at h
   ·rename_i hx
    have h:a∈CV (s.root r).ls j b:=h
    rw [Bk] at h
    rcases List.mem_or_eq_of_mem_set h with h | h
    ·rw [← hx.1];exact .inl h
    ·exact .inr ⟨hx.1.symm,by rw [h];exact List.mem_cons_self⟩
   ·exact .inl h
  ·exact .inr ⟨h1,List.mem_cons_of_mem _ h2⟩
theorem FH:∀ {rs:List Nat} {ws:List Wr} (s0 s:St),Au cx s0 rs=some ws→∀ (x:Nat),∀ a∈((s.app ws).root x).ls,a∈(s.root x).ls∨∃ b∈(s0.root x).ls,a=BF b
 | [],ws,s0,s,h,x,a,ha=>by injection h with h;subst h;exact .inl ha
 | r::rs,ws,s0,s,h,x,a,ha=>by
  simp only [Au] at h
  split at h
  ·cases h
  ·split at h
   ·rename_i ws' hws
    injection h with h;subst h
    rw [BD] at ha
    rcases FH s0 _ hws x a ha with ha | ha
    ·rcases Hr r _ 0 s x a ha with ha | ⟨h1,h2⟩
     ·exact .inl ha
     ·subst h1
      obtain ⟨b,hb,e⟩:=List.mem_map.1 h2
      exact .inr ⟨b,hb,e.symm⟩
    ·exact .inr ha
   ·cases h
theorem Jz (r:Nat):∀ (as:List LA) (j:Nat) (s:St) (x:Nat),((s.app (A4 r j as)).root x).AA=(s.root x).AA
 | [],j,s,x=>rfl
 | b::as,j,s,x=>by
  refine (Jz r as (j+1) (s.AG (.leaf r j b)) x).trans ?_
  exact ((BH s r j b).box x).2.1
theorem Lb {an:An} (hc:Dg P cx) (henv:DD P E cx.env) (hm:P.follows .mixedOrders=true) {id:Nat} {ops:Array Oper} {draw:Bool} {R:Type} {k:St→Option R} {x:R} (hcode:codeOk N (.region id ops draw)=true)
  (hlk:∀ t∈CC (.region id ops draw),cx.lock t=false∧cx.E6 t=false) (hrep:AW E s a.tmps W) (hinv:Inv N s) (he:Hg cx an id ops draw s k=some x)
  (hK:∀ s' a' W',a'.defers=a.defers→AW E s' a'.tmps W'→Inv N s'→Ar cx s s'→k s'=some x→Q .normal a' W'.w):(Code.region id ops draw).wp P Q a W.w:=by
 unfold Hg at he
 split at he
 ·exact IA hc henv hm hcode hlk hrep hinv he hK
 ·rename_i r rs _
  split at he
  ·rename_i hall
   split at he
   ·rename_i fs hfs
    have hnv:Ae s s.Bv:=hinv.AH.Hy (v:=s.Bv) (Nat.lt_irrefl _) (by have:=hinv.two;omega)
    obtain ⟨W1,hr1,fr,_⟩:=Em hrep hnv hfs
    obtain ⟨c1,c2⟩:=Fa (cx:=cx) s s hfs
    have hk1:Ar cx s (s.app fs):=Jt fr (fun y hy=>by simpa using List.all_eq_true.1 hall y hy) c2 c1
    have hi1:Inv N (s.app fs):={
     AH:=by
      have hv:=hinv.AH
      rw [c1]
      refine ⟨fun t n hn => ?_,fun y n hn => ?_⟩
      ·have:(s.app fs).slot t=s.slot t:=by show nth _ (s.app fs).sl t=_;rw [fr.same.sl];rfl
       rw [this] at hn;exact hv.1 t n hn
      ·have hver:((s.app fs).root y).AA=(s.root y).AA:=(fr.same.box y).2.1
       unfold Bo.AH at hn
       rw [hver] at hn
       rcases List.mem_cons.1 hn with e | hn
       ·exact hv.2 y n (by unfold Bo.AH;rw [e];exact List.mem_cons_self)
       ·obtain ⟨b,hb,hbn⟩:=List.mem_flatMap.1 hn
        rcases FH (cx:=cx) s s hfs y b hb with hb | ⟨b0,hb0,e⟩
        ·exact hv.2 y n (by unfold Bo.AH;exact List.mem_cons_of_mem _ (List.mem_flatMap.2 ⟨b,hb,hbn⟩))
        ·rw [e,JA] at hbn
         exact hv.2 y n (by unfold Bo.AH;exact List.mem_cons_of_mem _ (List.mem_flatMap.2 ⟨b0,hb0,hbn⟩))
     two:=by rw [c1];exact hinv.two
     len:=hk1.l1.trans hinv.len
     Bx:=hk1.l2.trans hinv.Bx
     Lc:=fun y b hb=>by
      rcases FH (cx:=cx) s s hfs y b hb with hb | ⟨b0,hb0,e⟩
      ·exact hinv.Lc y b hb
      ·rw [e];exact KT b0 (hinv.Lc y b0 hb0) }
    rw [← fr.w]
    exact IA hc henv hm hcode hlk hr1 hi1 he fun s' a' W' q1 q2 q3 q4 q5=>hK s' a' W' q1 q2 q3 (hk1.trans q4) q5
   ·cases he
  ·cases he
end
end Go.Ev
namespace Go.Ev
set_option linter.unusedVariables false
set_option linter.unusedSimpArgs false
section
variable {P:Program} {E:Cq} {N:Nat}
theorem F8 {cx:Cx} {ms:List Nat} {ps:List VP} (h:∀ t∈ms,cx.lock t=false∧cx.E6 t=false):∀ t∈ms,(cx.in ms ps).lock t=false∧(cx.in ms ps).E6 t=false:=fun t ht=>by
 have:=h t ht
 simp [Cx.in,this.1,this.2,(BA ms t).2 ht]
def Claim (P:Program) (E:Cq) (N:Nat) (an:An) (n:Nat) {RD:Type} (rp:St→Option RD) (c:Code):Prop:=∀ {R:Type} {cx:Cx} {s:St} {kn:St→Option R} {kx:Nat→St→Option R} {kr:RD→Option R} {x:R} {a:Act} {W:Wd} {Q:Exit→Act→World→Prop},
  Dg P cx→DD P E cx.env→codeOk N c=true→(∀ t∈CC c,cx.lock t=false∧cx.E6 t=false)→AW E s a.tmps W→Inv N s→ev an n rp c cx s kn kx kr=some x →
  (∀ s' a' W',a'.defers=a.defers→AW E s' a'.tmps W'→Inv N s'→Ar cx s s'→kn s'=some x→Q .normal a' W'.w) →
  (∀ id s' a' W',a'.defers=a.defers→AW E s' a'.tmps W'→Inv N s'→Ar cx s s'→kx id s'=some x→Q (.exit id) a' W'.w) →
  (∀ y s' a' W',a'.defers=a.defers→AW E s' a'.tmps W'→Inv N s'→rp s'=some y→kr y=some x→Q .ret a' W'.w)→c.wp P Q a W.w
theorem Kr {an:An} {n:Nat} {RD:Type} {rp:St→Option RD} {c':Code} (ihb:Claim P E N an n rp c') {cx:Cx} {s:St} {ps:List VP} {id:Nat} {a0:Act}
  (hc:Dg P cx) (henv:DD P E cx.env) (hcode:codeOk N c'=true) (hlk:∀ t∈CC c',cx.lock t=false∧cx.E6 t=false) (hinv:Inv N s) (hp:Ck cx (CC c') ps=true)
  {γ:Type} {g:(C8 ps).D→γ} {kr':RD→Option ((C8 ps).D⊕γ)} (hkr:∀ r y,kr' r=some (.inl y)→False) {q:γ} {Q:Exit→Act→World→Prop}
  (hdone:∀ x' s' a' W',a'.defers=a0.defers→AW E s' a'.tmps W'→Inv N s'→Ar (cx.in (CC c') ps) s s'→Aq ps s'=some x'→g x'=q→Q (.exit id) a' W'.w)
  (hret:∀ y s' a' W',a'.defers=a0.defers→AW E s' a'.tmps W'→Inv N s'→rp s'=some y→kr' y=some (.inr q)→Q .ret a' W'.w)
  {m:Nat} {x0:(C8 ps).D} {a:Act} {W:Wd} {s1:St} (hd:a.defers=a0.defers) (hrep:AW E s1 a.tmps W) (hin:Bg s1) (hk:Ar (cx.in (CC c') ps) s s1) (hx:Aq ps s1=some x0)
  (hit:iter (α:=(C8 ps).D) (γ:=γ) m (fun x=>ev an n rp c' (cx.in (CC c') ps) (B1 (CC c') ps s x) (fun s=>(Aq ps s).bind fun x=>some (.inl x)) (fun i s=>if i==id then (Aq ps s).bind fun x=>some (.inr (g x)) else none) kr') x0=some q) :
  (Code.loop c').wp P Q a W.w:=by
 refine wp_loop_ghost (fun k a w=>∃ (W:Wd) (s1:St) (x:(C8 ps).D),W.w=w∧a.defers=a0.defers∧AW E s1 a.tmps W∧Bg s1∧Ar (cx.in (CC c') ps) s s1∧Aq ps s1=some x ∧
  iter (α:=(C8 ps).D) (γ:=γ) k (fun x=>ev an n rp c' (cx.in (CC c') ps) (B1 (CC c') ps s x) (fun s=>(Aq ps s).bind fun x=>some (.inl x)) (fun i s=>if i==id then (Aq ps s).bind fun x=>some (.inr (g x)) else none) kr') x=some q) m
  ⟨W,s1,x0,rfl,hd,hrep,hin,hk,hx,hit⟩ ?_
 rintro k a w ⟨W,s1,x,rfl,hd,hrep,hin,hk,hx,hit⟩
 cases k with
 | zero=>cases hit
 | succ k =>
  simp only [iter] at hit
  obtain ⟨W2,w2,r2,i2,k2,k3⟩:=Di (N:=N) hrep hin hinv hk hlk hp hx
  cases hq:ev an n rp c' (R:=(C8 ps).D⊕γ) (cx.in (CC c') ps) (B1 (CC c') ps s x) (fun s=>(Aq ps s).bind fun x=>some (.inl x)) (fun i s=>if i==id then (Aq ps s).bind fun x=>some (.inr (g x)) else none) kr' with
  | none=>rw [hq] at hit;cases hit
  | some y =>
   rw [hq] at hit
   rw [← w2]
   have hcin:Dg P (cx.in (CC c') ps):=hc
   refine ihb hcin henv hcode (F8 hlk) r2 i2 hq (fun s3 a3 W3 q1 q2 q3 q4 q5 => ?_) (fun i s3 a3 W3 q1 q2 q3 q4 q5 => ?_) (fun z s3 a3 W3 q1 q2 q3 q4 q5 => ?_)
   ·cases hpk:Aq ps s3 with
    | none=>rw [hpk] at q5;cases q5
    | some z =>
     rw [hpk] at q5
     injection q5 with q5
     subst q5
     exact ⟨k,Nat.lt_succ_self k,W3,s3,z,rfl,q1.trans hd,q2,q3.Lc,k3.trans q4,hpk,hit⟩
   ·split at q5
    ·rename_i hi
     have hi:i=id:=by simpa using hi
     subst hi
     cases hpk:Aq ps s3 with
     | none=>rw [hpk] at q5;cases q5
     | some z =>
      rw [hpk] at q5
      injection q5 with q5
      subst q5
      injection hit with hit
      exact hdone z s3 a3 W3 (q1.trans hd) q2 q3 (k3.trans q4) hpk hit
    ·cases q5
   ·cases y with
    | inl y=>exact (hkr _ _ q5).elim
    | inr y =>
     injection hit with hit
     subst hit
     exact hret z s3 a3 W3 (q1.trans hd) q2 q3 q4 q5
theorem NB {an:An} {n:Nat} {RD:Type} {rp:St→Option RD} (hm:P.follows .mixedOrders=true):∀ (c:Code),Claim P E N an n rp c∧∀ c',c = .loop c'→Claim P E N an n rp c':=by
 intro c
 induction c with
 | skip =>
  refine ⟨?_,fun c' e=>by cases e⟩
  intro R cx s kn kx kr x a W Q hc henv hcode hlk hrep hinv he hn hx hr
  exact wp_skip (hn s a W rfl hrep hinv (Ar.refl _ _) he)
 | region id ops draw =>
  refine ⟨?_,fun c' e=>by cases e⟩
  intro R cx s kn kx kr x a W Q hc henv hcode hlk hrep hinv he hn hx hr
  exact Lb hc henv hm hcode hlk hrep hinv he hn
 | seq b c ihb ihc =>
  refine ⟨?_,fun c' e=>by cases e⟩
  intro R cx s kn kx kr x a W Q hc henv hcode hlk hrep hinv he hn hx hr
  simp only [codeOk,Bool.and_eq_true] at hcode
  have hla:∀ t∈CC b,cx.lock t=false∧cx.E6 t=false:=fun t ht=>hlk t (List.mem_append_left _ ht)
  have hlb:∀ t∈CC c,cx.lock t=false∧cx.E6 t=false:=fun t ht=>hlk t (List.mem_append_right _ ht)
  refine wp_seq ?_
  have next:∀ {s1:St} {a1:Act} {W1:Wd},a1.defers=a.defers→AW E s1 a1.tmps W1→Inv N s1→Ar cx s s1→ev an n rp c cx s1 kn kx kr=some x→c.wp P Q a1 W1.w:=fun hd1 hr1 hi1 hk1 he1 =>
   ihc.1 hc henv hcode.2 hlb hr1 hi1 he1 (fun s2 a2 W2 q1 q2 q3 q4 q5=>hn s2 a2 W2 (q1.trans hd1) q2 q3 (hk1.trans q4) q5) (fun i s2 a2 W2 q1 q2 q3 q4 q5=>hx i s2 a2 W2 (q1.trans hd1) q2 q3 (hk1.trans q4) q5)
    (fun y s2 a2 W2 q1 q2 q3 q4 q5=>hr y s2 a2 W2 (q1.trans hd1) q2 q3 q4 q5)
  simp only [ev] at he
  split at he
  ·exact ihb.1 hc henv hcode.1 hla hrep hinv he (fun s1 a1 W1 q1 q2 q3 q4 q5=>next q1 q2 q3 q4 q5) hx hr
  ·rename_i ps rets hj
   split at he
   ·rename_i hp
    have hcin:Dg P (cx.in (CC b) ps):=hc
    cases rets with
    | false =>
     dsimp only at he
     cases hq:ev an n rp b (R:=(C8 ps).D) (cx.in (CC b) ps) s (Aq ps) (fun _ _=>none) (fun _=>none) with
     | none=>rw [hq] at he;cases he
     | some y =>
      rw [hq] at he
      refine ihb.1 hcin henv hcode.1 (F8 hla) hrep hinv hq (fun s1 a1 W1 q1 q2 q3 q4 q5 => ?_) (fun _ _ _ _ _ _ _ _ q=>by cases q) (fun _ _ _ _ _ _ _ _ q=>by cases q)
      obtain ⟨W2,w2,r2,i2,k2,_⟩:=Di (N:=N) q2 q3.Lc hinv q4 hla hp q5
      show c.wp P Q a1 W1.w
      rw [← w2]
      exact next q1 r2 i2 k2 he
    | true =>
     dsimp only at he
     cases hq:ev an n rp b (R:=(C8 ps).D⊕RD) (cx.in (CC b) ps) s (fun s=>(Aq ps s).bind fun x=>some (.inl x)) (fun _ _=>none) (fun r=>some (.inr r)) with
     | none=>rw [hq] at he;cases he
     | some y =>
      rw [hq] at he
      refine ihb.1 hcin henv hcode.1 (F8 hla) hrep hinv hq (fun s1 a1 W1 q1 q2 q3 q4 q5 => ?_) (fun _ _ _ _ _ _ _ _ q=>by cases q) (fun y' s1 a1 W1 q1 q2 q3 q4 q5 => ?_)
      ·cases hpk:Aq ps s1 with
       | none=>rw [hpk] at q5;cases q5
       | some z =>
        rw [hpk] at q5
        injection q5 with q5
        subst q5
        obtain ⟨W2,w2,r2,i2,k2,_⟩:=Di (N:=N) q2 q3.Lc hinv q4 hla hp hpk
        show c.wp P Q a1 W1.w
        rw [← w2]
        exact next q1 r2 i2 k2 he
      ·injection q5 with q5
       subst q5
       exact hr y' s1 a1 W1 q1 q2 q3 q4 he
   ·cases he
 | cond o b c ihb ihc =>
  refine ⟨?_,fun c' e=>by cases e⟩
  intro R cx s kn kx kr x a W Q hc henv hcode hlk hrep hinv he hn hx hr
  simp only [codeOk,Bool.and_eq_true] at hcode
  have hla:∀ t∈CC b,cx.lock t=false∧cx.E6 t=false:=fun t ht=>hlk t (List.mem_append_left _ ht)
  have hlb:∀ t∈CC c,cx.lock t=false∧cx.E6 t=false:=fun t ht=>hlk t (List.mem_append_right _ ht)
  have h1:=Ad hrep o
  simp only [ev] at he
  split at he
  ·rename_i t hq
   rw [hq] at h1
   have h1:a.eval o = .bool t:=h1.1
   refine wp_cond h1 ?_
   cases t with
   | true=>exact ihb.1 hc henv hcode.1 hla hrep hinv he hn hx hr
   | false=>exact ihc.1 hc henv hcode.2 hlb hrep hinv he hn hx hr
  ·cases he
 | block id c ih =>
  refine ⟨?_,fun c' e=>by cases e⟩
  intro R cx s kn kx kr x a W Q hc henv hcode hlk hrep hinv he hn hx hr
  simp only [ev] at he
  cases hb:an.AX id with
  | none =>
   rw [hb] at he
   refine wp_block (ih.1 hc henv hcode hlk hrep hinv he hn (fun i s' a' W' q1 q2 q3 q4 q5 => ?_) hr)
   show (if i=id then Q .normal a' W'.w else Q (.exit i) a' W'.w)
   by_cases hi:i=id
   ·rw [if_pos hi]
    rw [show (i==id)=true by simpa using hi] at q5
    exact hn s' a' W' q1 q2 q3 q4 q5
   ·rw [if_neg hi]
    rw [show (i==id)=false by simpa using hi] at q5
    exact hx i s' a' W' q1 q2 q3 q4 q5
  | some p =>
   obtain ⟨ps,rets⟩:=p
   rw [hb] at he
   dsimp only at he
   split at he
   ·rename_i c'
    have ihb:Claim P E N an n rp c':=ih.2 c' rfl
    have hcode:codeOk N c'=true:=hcode
    have hlk:∀ t∈CC c',cx.lock t=false∧cx.E6 t=false:=hlk
    split at he
    ·rename_i hp
     refine wp_block ?_
     cases rets with
     | false =>
      dsimp only at he
      cases hpk:Aq ps s with
      | none=>rw [hpk] at he;cases he
      | some x0 =>
       rw [hpk] at he
       simp only [Option.bind_some] at he
       obtain ⟨q,hq,he⟩:=Option.bind_eq_some_iff.1 he
       refine Kr (g:=fun x=>x) ihb hc henv hcode hlk hinv hp (fun _ _ q=>by cases q) (fun x' s' a' W' q1 q2 q3 q4 q5 q6 => ?_) (fun _ _ _ _ _ _ _ _ q=>by cases q) rfl hrep hinv.Lc (Ar.refl _ _) hpk hq
       subst q6
       obtain ⟨W2,w2,r2,i2,k2,_⟩:=Di (N:=N) q2 q3.Lc hinv q4 hlk hp q5
       show (if id=id then Q .normal a' W'.w else Q (.exit id) a' W'.w)
       rw [if_pos rfl, ← w2]
       exact hn _ a' W2 q1 r2 i2 k2 he
     | true =>
      dsimp only at he
      cases hpk:Aq ps s with
      | none=>rw [hpk] at he;cases he
      | some x0 =>
       rw [hpk] at he
       simp only [Option.bind_some] at he
       obtain ⟨q,hq,he⟩:=Option.bind_eq_some_iff.1 he
       refine Kr (g:=fun x=>(.inl x:(C8 ps).D⊕RD)) ihb hc henv hcode hlk hinv hp (fun _ _ q=>by cases q) (fun x' s' a' W' q1 q2 q3 q4 q5 q6 => ?_) (fun y s' a' W' q1 q2 q3 q4 q5 => ?_) rfl hrep hinv.Lc (Ar.refl _ _) hpk hq
       ·subst q6
        obtain ⟨W2,w2,r2,i2,k2,_⟩:=Di (N:=N) q2 q3.Lc hinv q4 hlk hp q5
        show (if id=id then Q .normal a' W'.w else Q (.exit id) a' W'.w)
        rw [if_pos rfl, ← w2]
        exact hn _ a' W2 q1 r2 i2 k2 he
       ·injection q5 with q5
        injection q5 with q5
        subst q5
        exact hr y s' a' W' q1 q2 q3 q4 he
    ·cases he
   ·cases he
 | exit id =>
  refine ⟨?_,fun c' e=>by cases e⟩
  intro R cx s kn kx kr x a W Q hc henv hcode hlk hrep hinv he hn hx hr
  exact wp_exit (hx id s a W rfl hrep hinv (Ar.refl _ _) he)
 | ret =>
  refine ⟨?_,fun c' e=>by cases e⟩
  intro R cx s kn kx kr x a W Q hc henv hcode hlk hrep hinv he hn hx hr
  simp only [ev] at he
  cases hq:rp s with
  | none=>rw [hq] at he;cases he
  | some y=>rw [hq] at he;exact wp_ret (hr y s a W rfl hrep hinv hq he)
 | loop c ih =>
  refine ⟨?_,fun c' e=>by cases e;exact ih.1⟩
  intro R cx s kn kx kr x a W Q hc henv hcode hlk hrep hinv he hn hx hr
  simp only [ev] at he
  cases he
 | _ =>
  refine ⟨?_,fun c' e=>by cases e⟩
  intro R cx s kn kx kr x a W Q hc henv hcode hlk hrep hinv he hn hx hr
  simp only [ev] at he
  cases he
end
end Go.Ev
namespace Go.Ev
set_option linter.unusedVariables false
set_option linter.unusedSimpArgs false
inductive BL (W:Wd):List (Nat×Nat)→List (Nat×Nat)→List (List Nat)→Prop
 | nil (us):BL W us us []
 | skip {us us' os} (h:BL W us us' os):BL W us us' ([]::os)
 | take {us us' os u o} (hu:u∉us) (hs:∀ b∈o,b∈W.om (.lf u.1 u.2)) (hn:o.Nodup) (h:BL W (u::us) us' os):BL W us us' (o::os)
section
variable {P:Program} {E:Cq} {s:St} {W:Wd} {tm:Array Value} {β:Type} {t:β}
theorem BL.append {us us1 us2:List (Nat×Nat)} {xs ys:List (List Nat)} (h1:BL W us us1 xs) (h2:BL W us1 us2 ys):BL W us us2 (xs++ys):=by
 induction h1 with
 | nil=>exact h2
 | skip h ih=>exact .skip (ih h2)
 | take hu hs hn h ih=>exact .take hu hs hn (ih h2)
theorem BL.sub {us us':List (Nat×Nat)} {os:List (List Nat)} (h:BL W us us' os):∀ u∈us,u∈us':=by
 induction h with
 | nil=>exact fun u hu=>hu
 | skip h ih=>exact ih
 | take hu hs hn h ih=>exact fun u hu=>ih u (List.mem_cons_of_mem _ hu)
theorem BL.mem {us us':List (Nat×Nat)} {os:List (List Nat)} (h:BL W us us' os):∀ o∈os,∀ b∈o,∃ u,u∉us∧b∈W.om (.lf u.1 u.2):=by
 induction h with
 | nil=>intro o ho;cases ho
 | skip h ih =>
  intro o ho b hb
  rcases List.mem_cons.1 ho with rfl | ho
  ·cases hb
  ·exact ih o ho b hb
 | take hu hs hn h ih =>
  intro o ho b hb
  rcases List.mem_cons.1 ho with rfl | ho
  ·exact ⟨_,hu,hs b hb⟩
  ·obtain ⟨u',h1,h2⟩:=ih o ho b hb
   exact ⟨u',fun hh=>h1 (List.mem_cons_of_mem _ hh),h2⟩
theorem BL.nodup {us us':List (Nat×Nat)} {os:List (List Nat)} (h:BL W us us' os):∀ o∈os,o.Nodup:=by
 induction h with
 | nil=>intro o ho;cases ho
 | skip h ih =>
  intro o ho
  rcases List.mem_cons.1 ho with rfl | ho
  ·exact List.nodup_nil
  ·exact ih o ho
 | take hu hs hn h ih =>
  intro o ho
  rcases List.mem_cons.1 ho with rfl | ho
  ·exact hn
  ·exact ih o ho
def E8 (a b:List Nat):Prop:=∀ x∈a,x∉b
theorem E8.symm {a b:List Nat} (h:E8 a b):E8 b a:=fun x hx hy=>h x hy hx
theorem BL.pair (hd:∀ k k',k≠k'→∀ b∈W.om k,b∉W.om k') {us us':List (Nat×Nat)} {os:List (List Nat)} (h:BL W us us' os):os.Pairwise E8:=by
 induction h with
 | nil=>exact .nil
 | skip h ih=>exact .cons (fun a _ x hx=>by cases hx) ih
 | @take us us' os u o hu hs hn h ih =>
  refine .cons (fun a ha x hx hxa => ?_) ih
  obtain ⟨u',h1,h2⟩:=h.mem a ha x hxa
  have hne:Key.lf u.1 u.2≠Key.lf u'.1 u'.2:=by
   intro he
   injection he with e1 e2
   exact h1 (by rw [show u'=u from Prod.ext e1.symm e2.symm];simp)
  exact hd _ _ hne x (hs x hx) h2
theorem JO {α:Type} {R:α→α→Prop} (hs:∀ a b,R a b→R b a) {l:List α} (h:l.Pairwise R) {i j:Nat} {a b:α} (hij:i≠j) (hi:l[i]? = some a) (hj:l[j]? = some b):R a b:=by
 obtain ⟨h1,rfl⟩:=List.getElem?_eq_some_iff.1 hi
 obtain ⟨h2,rfl⟩:=List.getElem?_eq_some_iff.1 hj
 rcases Nat.lt_or_gt_of_ne hij with hlt | hlt
 ·exact List.pairwise_iff_getElem.1 h i j h1 h2 hlt
 ·exact hs _ _ (List.pairwise_iff_getElem.1 h j i h2 h1 hlt)
theorem EL (h:AW E s tm W) {us:List (Nat×Nat)} {l:L} {m:Nat} {a:LA} {v:Value} {k:Lv→List (Nat×Nat)→Step β} (hv:AR s W a v) (hl:(FX s us l m a k).leads t) :
  ∃ (x:l.D) (us':List (Nat×Nat)) (o:List Nat),(k ⟨l,x⟩ us').leads t∧l.rd m W.w W.fz v x o∧BL W us us' [o]:=by
 cases l with
 | int kk=>obtain ⟨x,hl,hr⟩:=Bl h hv hl;exact ⟨x,us,[],hl,(L.AZ _ rfl hr).1, .skip (.nil _)⟩
 | bool=>obtain ⟨x,hl,hr⟩:=Bl h hv hl;exact ⟨x,us,[],hl,(L.AZ _ rfl hr).1, .skip (.nil _)⟩
 | str=>obtain ⟨x,hl,hr⟩:=Bl h hv hl;exact ⟨x,us,[],hl,(L.AZ _ rfl hr).1, .skip (.nil _)⟩
 | sl t0 e =>
  unfold FX at hl
  cases m with
  | zero =>
   simp only at hl
   split at hl
   ·rename_i hs
    obtain ⟨x,hl,hr⟩:=KG h hv hs hl
    exact ⟨x,us,[],hl,hr, .skip (.nil _)⟩
   ·exact hl.elim
  | succ m =>
   cases a with
   | DC=>exact ⟨_,us,[],hl,by rw [show v = .slice none 0 0 from hv];exact Bz, .skip (.nil _)⟩
   | ref c =>
    simp only at hl
    split at hl
    ·rename_i AA gen t' e' xs d hleaf
     split at hl
     ·rename_i hc
      simp only [Bool.and_eq_true,beq_iff_eq,Bool.not_eq_true'] at hc
      obtain ⟨⟨⟨hver,hp⟩,hd⟩,hus⟩:=hc
      subst hver;subst hd
      have hp:c.p=[]:=by cases hq:c.p <;> simp_all [isNil]
      split at hl
      ·rename_i y hy
       obtain ⟨q1,q2⟩:=L.AI hy
       cases q1
       have q2:xs=y:=q2
       subst q2
       obtain ⟨h',e2,hcv,hn⟩:=hv gen _ _ _ _ hleaf (.inl hp)
       rw [hp] at hn
       obtain ⟨rfl,rfl⟩:=hn
       obtain ⟨u',hu',hrd⟩:=(h.roots c.r).row hleaf
       rw [hcv] at hu';injection hu' with hu';subst hu'
       refine ⟨xs,_,W.om (.lf c.r c.j),hl,hrd, .take (u:=(c.r,c.j)) (fun hh => ?_) (fun b hb=>hb) (h.sep.nodup _) (.nil _)⟩
       rw [show us.contains (c.r,c.j)=true from List.contains_iff_mem.2 hh] at hus;cases hus
      ·exact hl.elim
     ·exact hl.elim
    ·exact hl.elim
   | D7 c lo hi =>
    simp only at hl
    split at hl
    ·rename_i AA gen t' e' xs d hleaf
     split at hl
     ·rename_i hc
      simp only [Bool.and_eq_true,beq_iff_eq,Bool.not_eq_true'] at hc
      obtain ⟨⟨⟨hver,hp⟩,hd⟩,hus⟩:=hc
      subst hver;subst hd
      have hp:c.p=[]:=by cases hq:c.p <;> simp_all [isNil]
      split at hl
      ·rename_i y hy
       obtain ⟨q1,q2⟩:=L.AI hy
       cases q1
       have q2:sub xs lo hi=y:=q2
       subst q2
       obtain ⟨h',e2,A,n,k0,hcv,hn,h1,h2,huv⟩:=hv gen _ _ _ _ hleaf (.inl hp)
       rw [hp] at hn
       obtain ⟨rfl,rfl⟩:=hn
       obtain ⟨u',hu',hrd⟩:=(h.roots c.r).row hleaf
       rw [hcv] at hu';injection hu' with hu';subst hu'
       obtain ⟨o',q1,q2,q3⟩:=CK.sub hrd h1 h2
       refine ⟨sub xs lo hi,_,o',hl, ?_, .take (u:=(c.r,c.j)) (fun hh => ?_) (fun b hb=>q2 b hb) (q3 (h.sep.nodup _)) (.nil _)⟩
       ·rw [huv];exact q1
       ·rw [show us.contains (c.r,c.j)=true from List.contains_iff_mem.2 hh] at hus;cases hus
      ·exact hl.elim
     ·exact hl.elim
    ·exact hl.elim
   | _=>exact hl.elim
theorem DX (h:AW E s tm W):∀ (ls:List (L×Nat)) (as:List LA) (g:Nat→Option Value) {us:List (Nat×Nat)} {k:List Lv→List (Nat×Nat)→Step β},(∀ (j:Nat) (a:LA),as[j]? = some a→∃ u,g j=some u∧AR s W a u)→(CY s ls as us k).leads t →
  ∃ (vs:List Lv) (us':List (Nat×Nat)) (os:List (List Nat)),(k vs us').leads t∧vs.map (·.l)=ls.map (·.1)∧os.length=ls.length∧as.length=ls.length∧BL W us us' os ∧
   ∀ (j:Nat) (p:L×Nat) (lv:Lv),ls[j]? = some p→vs[j]? = some lv→∃ y,g j=some y∧lv.l.rd p.2 W.w W.fz y lv.x ((os[j]?).getD [])
 | [],[],g,us,k,hg,hl=>⟨[],us,[],hl,rfl,rfl,rfl, .nil _,fun j p lv hj=>by simp at hj⟩
 | [],_::_,g,us,k,hg,hl=>hl.elim
 | _::_,[],g,us,k,hg,hl=>hl.elim
 | (l,m)::ls,a::as,g,us,k,hg,hl=>by
  obtain ⟨u,hu,hok⟩:=hg 0 a rfl
  obtain ⟨x,us1,o,hl,hr,hb⟩:=EL h hok hl
  obtain ⟨vs,us2,os,hl,h1,h2,h3,h4,h5⟩:=DX h ls as (fun j=>g (j+1)) (fun j a hj=>hg (j+1) a (by simpa using hj)) hl
  refine ⟨⟨l,x⟩::vs,us2,o::os,hl,by simp [h1],by simp [h2],by simp [h3],hb.append h4,fun j p lv hj hv => ?_⟩
  cases j with
  | zero=>simp at hj hv;subst hj;subst hv;exact ⟨u,hu,by simpa using hr⟩
  | succ j =>
   obtain ⟨y,hy,hr⟩:=h5 j p lv (by simpa using hj) (by simpa using hv)
   exact ⟨y,hy,by simpa using hr⟩
def Ja (P:Program) (w:World) (tm:Array Value):List ResultVar→List Value→Prop
 | [],[]=>True
 | .tmp t::rv,u::us=>u=tm.getD t Go.undef∧Ja P w tm rv us
 | .cell t T::rv,u::us=>(do loadVar T (← asAddr (tm.getD t Go.undef)):Sem Value).run P w = .ok u w∧Ja P w tm rv us
 | _,_=>False
theorem KV {T:TypeId} {y:Ty} (hty:Nc P T y) {as:List LA} {b:Nat} (hlen:as.length=y.ls.n) (hget:∀ (j:Nat) (x:LA),as[j]? = some x→∃ u,W.w.cell? ⟨b,0+j,none⟩=some u∧AR s W x u) :
  ∃ u,(loadVar T ⟨b,0,none⟩).run P W.w = .ok u W.w∧Ex s W y.agg as u:=by
 cases hag:y.agg with
 | false =>
  obtain ⟨l,hls,hlo⟩:=hty.lone hag
  rw [hls] at hlen
  obtain ⟨a,rfl⟩:∃ a,as=[a]:=by
   match as,hlen with
   | [a],_=>exact ⟨a,rfl⟩
  obtain ⟨u,hu,hy⟩:=hget 0 a rfl
  obtain ⟨d,hd,hnd⟩:=hlo.JI
  have hagg:(isAgg T).run P W.w = .ok false W.w:=by
   unfold isAgg
   rw [Sem.run_bind,run_underlying hd]
   cases d <;> simp_all
  simp only [Nat.add_zero] at hu
  exact ⟨u,by simp [loadVar,hagg,load,Sem.run,hu],hy⟩
 | true =>
  obtain ⟨fs,hfs,_⟩:=hty.agg hag
  obtain ⟨i,hi,hsz,_⟩:=hty.info
  let f:Nat→Value:=fun j=>(W.w.cell? ⟨b,0+j,none⟩).getD Go.undef
  let cs:List Value:=(List.range as.length).map f
  have hcs:∀ j u,cs[j]? = some u→W.w.cell? ⟨b,0+j,none⟩=some u:=by
   intro j u hj
   simp only [cs,List.getElem?_map] at hj
   by_cases hlt:j<as.length
   ·rw [List.getElem?_range hlt] at hj
    simp at hj
    obtain ⟨u',hu',_⟩:=hget j as[j] (List.getElem?_eq_getElem hlt)
    simp only [Nat.zero_add] at hu'
    rw [← hj];simp [f,hu']
   ·rw [List.getElem?_eq_none (by simp;omega)] at hj;cases hj
  have hrun:=run_loadVar_mid (P:=P) W.w b 0 T cs (.struct fs) (fun j u hj=>hcs j u hj) hfs rfl (by simp [hi,hsz,cs,hlen])
  refine ⟨.agg cs.toArray,hrun,cs.toArray,rfl,by simp [cs],fun j y hy => ?_⟩
  obtain ⟨u,hu,hok⟩:=hget j y hy
  refine ⟨u, ?_,hok⟩
  have hlt:j<as.length:=(List.getElem?_eq_some_iff.1 hy).1
  simp only [Nat.zero_add] at hu
  simp [cs,f,hlt,hu]
theorem HQ {ty:TypeId→Option Ty} (hty:∀ t x,ty t=some x→Nc P t x) (h:AW E s tm W):∀ (rs:List (Bool×List (L×Nat))) (rv:List ResultVar) {us:List (Nat×Nat)} {k:List Lv→List (Nat×Nat)→Step β},(Dx ty s rs rv us k).leads t →
  ∃ (vals:List Value) (vss:List (List Lv)) (us':List (Nat×Nat)) (os:List (List Nat)),(k vss.flatten us').leads t∧BL W us us' os∧Ja P W.w tm rv vals ∧
   ∀ (off:Nat) (om:Nat→List Nat),(∀ j,j<os.length→om (off+j)=(os[j]?).getD [])→EE W.w W.fz om rs vals vss off
 | [],[],us,k,hl=>⟨[],[],us,[],hl, .nil _,trivial,fun off om hom=>trivial⟩
 | [],_::_,us,k,hl=>hl.elim
 | _::_,[],us,k,hl=>hl.elim
 | (g,ls)::rs,r::rv,us,k,hl=>by
  have main:∀ {u:Value} {as:List LA},Ex s W g as u→(∀ us,Ja P W.w tm rv us→Ja P W.w tm (r::rv) (u::us))→(CY s ls as us fun xs us=>Dx ty s rs rv us fun ys us=>k (xs++ys) us).leads t →
    ∃ (vals:List Value) (vss:List (List Lv)) (us':List (Nat×Nat)) (os:List (List Nat)),(k vss.flatten us').leads t∧BL W us us' os∧Ja P W.w tm (r::rv) vals ∧
     ∀ (off:Nat) (om:Nat→List Nat),(∀ j,j<os.length→om (off+j)=(os[j]?).getD [])→EE W.w W.fz om ((g,ls)::rs) vals vss off:=by
   intro u as hok hrv hl
   obtain ⟨vs,us1,os1,hl,h1,h2,h3,h4,h5⟩:=DX h ls as (A7 g u) (fun j a hj=>B8 hok j a hj) hl
   obtain ⟨vals,vss,us2,os2,hl,h6,h7,h8⟩:=HQ hty h rs rv hl
   refine ⟨u::vals,vs::vss,us2,os1++os2,by simpa using hl,h4.append h6,hrv _ h7,fun off om hom=>⟨⟨h1, ?_,fun j p lv hj hv => ?_⟩, ?_⟩⟩
   ·cases g with
    | true=>obtain ⟨cs,hcs,hsz,_⟩:=hok;exact ⟨cs,hcs,hsz.trans h3⟩
    | false =>
     cases as with
     | nil=>exact hok.elim
     | cons b bs=>cases bs with
      | nil=>exact h3.symm
      | cons=>exact hok.elim
   ·obtain ⟨y,hy,hr⟩:=h5 j p lv hj hv
    have hlt:j<ls.length:=(List.getElem?_eq_some_iff.1 hj).1
    refine ⟨y,hy, ?_⟩
    show lv.l.rd p.2 W.w W.fz y lv.x (om (off+j))
    rw [hom j (by simp;omega),List.getElem?_append_left (by omega)]
    exact hr
   ·refine h8 (off+ls.length) om fun j hj => ?_
    rw [show off+ls.length+j=off+(ls.length+j) by omega,hom (ls.length+j) (by simp;omega),List.getElem?_append_right (by omega)]
    rw [show ls.length+j - os1.length=j by omega]
  cases r with
  | tmp u =>
   simp only [Dx] at hl
   split at hl
   ·rename_i g' as hsl
    split at hl
    ·rename_i hgg
     have hgg:g=g':=by simpa using hgg
     subst hgg
     have hok:Ex s W g as (tm.getD u Go.undef):=by have:=h.AP u;rw [hsl] at this;exact this
     exact main hok (fun us hu=>⟨rfl,hu⟩) hl
    ·exact hl.elim
   ·exact hl.elim
  | cell u T =>
   simp only [Dx] at hl
   split at hl
   ·rename_i y r0 AA hyT hsl
    split at hl
    ·rename_i hgg
     simp only [Bool.and_eq_true,beq_iff_eq] at hgg
     obtain ⟨hgg,hyn⟩:=hgg
     subst hgg
     have hv:AR s W (.ptr r0 0 AA) (tm.getD u Go.undef):=by have:=h.AP u;rw [hsl] at this;exact this
     have hbx:(s.root r0).box=true∧(s.root r0).AA=AA:=by
      have hl2:=hl
      simp only [St.C7] at hl2
      split at hl2
      ·rename_i hc
       simp only [Bool.and_eq_true,beq_iff_eq] at hc
       exact hc.1
      ·exact hl2.elim
     obtain ⟨as,hl,_,b,off,hp,hget⟩:=Fj h hv hl
     split at hl
     ·rename_i hlen
      have hlen:as.length=ls.length:=by simpa using hlen
      have hoff:off=0:=by
       rw [hv hbx.1 hbx.2] at hp
       injection hp with hp;injection hp with hp;injection hp with _ h2
       exact h2.symm
      subst hoff
      obtain ⟨v,hv1,hv2⟩:=KV (hty T y hyT) (by rw [hlen,hyn]) hget
      exact main hv2 (fun us hu=>⟨by simp [hp,asAddr,hv1],hu⟩) hl
     ·exact hl.elim
    ·exact hl.elim
   ·exact hl.elim
def Lw (E:Cq) (s:St) (W:Wd) (i:Nat) (pm:PM) (vs0 vs:List Lv) (os:List (List Nat)):Prop:=match pm with
 | .box ls=>(s.root i).box=true∧(s.root i).AA=1∧(s.root i).ls.length=ls.length∧vs.map (·.l)=ls.map (·.1)∧os.length=ls.length ∧
   ∀ (j:Nat) (p:L×Nat) (lv:Lv),ls[j]? = some p→vs[j]? = some lv→∃ y,W.w.cell? ⟨W.bk i,j,none⟩=some y∧lv.l.rd p.2 W.w W.fz y lv.x ((os[j]?).getD [])
 | .row g ls=>vs.length=ls.length∧os.length=ls.length∧∀ (j:Nat) (p:L×Nat) (lv:Lv),ls[j]? = some p→vs[j]? = some lv →
   (Bw p.1=true∧lv.l=p.1∧∃ u,E.OP i j=some u∧lv.l.rd p.2 W.w W.fz u lv.x ((os[j]?).getD []))∨(Bw p.1=false∧vs0[j]? = some lv∧os[j]? = some [])
 | _=>vs=[]∧os=[]
theorem FA (h:AW E s tm W) (i:Nat):∀ (j:Nat) (ls:List (L×Nat)) (vs0 rest:List Lv) {us:List (Nat×Nat)} {k:List Lv→List (Nat×Nat)→Step β},vs0.length=ls.length→(Ei s i j ls (vs0++rest) us k).leads t →
  ∃ (vs:List Lv) (us':List (Nat×Nat)) (os:List (List Nat)),(k vs us').leads t∧vs.length=ls.length∧os.length=ls.length∧BL W us us' os∧∀ (m:Nat) (p:L×Nat) (lv:Lv),ls[m]? = some p→vs[m]? = some lv →
   (Bw p.1=true∧lv.l=p.1∧∃ u,E.OP i (j+m)=some u∧lv.l.rd p.2 W.w W.fz u lv.x ((os[m]?).getD []))∨(Bw p.1=false∧vs0[m]? = some lv∧os[m]? = some [])
 | j,[],vs0,rest,us,k,hlen,hl=>⟨[],us,[],hl,rfl,rfl, .nil _,fun m p lv hp=>by simp at hp⟩
 | j,_::_,[],rest,us,k,hlen,hl=>by simp at hlen
 | j,(l,d)::ls,x::vs0,rest,us,k,hlen,hl=>by
  have hlen':vs0.length=ls.length:=by simpa using hlen
  have plain:Bw l=false→(Ei s i (j+1) ls (vs0++rest) us fun ys us=>k (x::ys) us).leads t→∃ (vs:List Lv) (us':List (Nat×Nat)) (os:List (List Nat)),(k vs us').leads t∧vs.length=((l,d)::ls).length∧os.length=((l,d)::ls).length∧BL W us us' os∧∀ (m:Nat) (p:L×Nat) (lv:Lv),((l,d)::ls)[m]? = some p→vs[m]? = some lv →
    (Bw p.1=true∧lv.l=p.1∧∃ u,E.OP i (j+m)=some u∧lv.l.rd p.2 W.w W.fz u lv.x ((os[m]?).getD []))∨(Bw p.1=false∧(x::vs0)[m]? = some lv∧os[m]? = some []):=by
   intro hs hl
   obtain ⟨vs,us1,os,hl,h1,h2,h3,h4⟩:=FA h i (j+1) ls vs0 rest hlen' hl
   refine ⟨x::vs,us1,[]::os,hl,by simp [h1],by simp [h2], .skip h3,fun m p lv hp hv => ?_⟩
   cases m with
   | zero=>simp at hp hv;subst hp;subst hv;exact .inr ⟨hs,rfl,rfl⟩
   | succ m =>
    have:=h4 m p lv (by simpa using hp) (by simpa using hv)
    rw [show j+1+m=j+(m+1) by omega] at this
    simpa using this
  cases l with
  | int i=>exact plain rfl hl
  | bool=>exact plain rfl hl
  | str=>exact plain rfl hl
  | sl t0 e =>
   simp only [List.cons_append,Ei] at hl
   split at hl
   ·rename_i gen t' e' xs' d' hleaf
    obtain ⟨u,hu,hrd⟩:=(h.roots i).row hleaf
    have hini:=h.init.1 _ _ _ _ _ _ _ hleaf
    have hv:AR s W (.ref ⟨i,j,1,gen,[]⟩) u:=by
     intro gen2 t2 e2 xs2 d2 hl2 _
     have hl2:s.leaf i j=_:=hl2
     exact ⟨u,e2,hu,rfl,rfl⟩
    obtain ⟨y,us1,o,hl,hr,hb⟩:=EL h hv hl
    obtain ⟨vs,us2,os,hl,h1,h2,h3,h4⟩:=FA h i (j+1) ls vs0 rest hlen' hl
    refine ⟨⟨.sl t0 e,y⟩::vs,us2,o::os,hl,by simp [h1],by simp [h2],hb.append h3,fun m p lv hp hv => ?_⟩
    cases m with
    | zero=>simp at hp hv;subst hp;subst hv;exact .inl ⟨rfl,rfl,u,by rw [Nat.add_zero, ← hini];exact hu,by simpa using hr⟩
    | succ m =>
     have:=h4 m p lv (by simpa using hp) (by simpa using hv)
     rw [show j+1+m=j+(m+1) by omega] at this
     simpa using this
   ·obtain ⟨x,us1,o,hl,hr,hb⟩:=EL h (v:=Go.undef) (show AR s W .bad Go.undef from trivial) hl
    cases d with
    | zero =>
     exfalso
     exact absurd hl id
    | succ d=>exact absurd hl id
theorem IX (h:AW E s tm W):∀ (i:Nat) (ps:List PM) (vss0:List (List Lv)) {us:List (Nat×Nat)} {k:List Lv→Step β},vss0.length=ps.length→(∀ (j:Nat) (pm:PM) (vs:List Lv),ps[j]? = some pm→vss0[j]? = some vs→vs.length=pm.ins.length)→(C2 s i ps vss0.flatten us k).leads t →
  ∃ (vss:List (List Lv)) (us':List (Nat×Nat)) (oss:List (List (List Nat))),(k vss.flatten).leads t∧vss.length=ps.length∧oss.length=ps.length∧BL W us us' oss.flatten ∧
   ∀ (j:Nat) (pm:PM) (vs0 vs:List Lv) (os:List (List Nat)),ps[j]? = some pm→vss0[j]? = some vs0→vss[j]? = some vs→oss[j]? = some os→Lw E s W (i+j) pm vs0 vs os
 | i,[],vss0,us,k,hlen,hvl,hl=>⟨[],us,[],hl,rfl,rfl, .nil _,fun j pm vs0 vs os hj=>by simp at hj⟩
 | i,_::_,[],us,k,hlen,hvl,hl=>by simp at hlen
 | i,pm::ps,vs0::vss0,us,k,hlen,hvl,hl=>by
  have hlen':vss0.length=ps.length:=by simpa using hlen
  have hvl':∀ (j:Nat) (pm:PM) (vs:List Lv),ps[j]? = some pm→vss0[j]? = some vs→vs.length=pm.ins.length:=fun j pm' vs h1 h2=>hvl (j+1) pm' vs (by simpa using h1) (by simpa using h2)
  have hv0:=hvl 0 pm vs0 rfl rfl
  have fin:∀ {us1:List (Nat×Nat)} (vs:List Lv) (os:List (List Nat)),BL W us us1 os→Lw E s W i pm vs0 vs os→(C2 s (i+1) ps vss0.flatten us1 fun ys=>k (vs++ys)).leads t →
    ∃ (vss:List (List Lv)) (us':List (Nat×Nat)) (oss:List (List (List Nat))),(k vss.flatten).leads t∧vss.length=(pm::ps).length∧oss.length=(pm::ps).length∧BL W us us' oss.flatten ∧
     ∀ (j:Nat) (pm':PM) (vs1 vs:List Lv) (os:List (List Nat)),(pm::ps)[j]? = some pm'→(vs0::vss0)[j]? = some vs1→vss[j]? = some vs→oss[j]? = some os→Lw E s W (i+j) pm' vs1 vs os:=by
   intro us1 vs os hb hp hl
   obtain ⟨vss,us2,oss,hl,h1,h2,h3,h4⟩:=IX h (i+1) ps vss0 hlen' hvl' hl
   refine ⟨vs::vss,us2,os::oss,by simpa using hl,by simp [h1],by simp [h2],by simpa using hb.append h3,fun j pm' vs1 vs' os' hj hv1 hv ho => ?_⟩
   cases j with
   | zero=>simp at hj hv1 hv ho;subst hj;subst hv1;subst hv;subst ho;exact hp
   | succ j =>
    have:=h4 j pm' vs1 vs' os' (by simpa using hj) (by simpa using hv1) (by simpa using hv) (by simpa using ho)
    rw [show i+1+j=i+(j+1) by omega] at this
    exact this
  cases pm with
  | val g ls =>
   have e:vs0.length=ls.length:=hv0
   simp only [List.flatten_cons,C2] at hl
   rw [← e,List.drop_left] at hl
   exact fin [] [] (.nil _) ⟨rfl,rfl⟩ (by simpa using hl)
  | fn f =>
   have e:vs0=[]:=List.eq_nil_of_length_eq_zero hv0
   subst e
   simp only [List.flatten_cons,List.nil_append,C2] at hl
   exact fin [] [] (.nil _) ⟨rfl,rfl⟩ (by simpa using hl)
  | box ls =>
   have e:vs0.length=ls.length:=by simpa [PM.ins] using hv0
   simp only [List.flatten_cons,C2] at hl
   rw [show (vs0++vss0.flatten).drop ls.length=vss0.flatten by rw [← e,List.drop_left]] at hl
   split at hl
   ·rename_i hc
    simp only [Bool.and_eq_true,beq_iff_eq] at hc
    obtain ⟨⟨hb,hver⟩,hlen⟩:=hc
    have hv:AR s W (.ptr i 0 1) (.pointer (some ⟨W.bk i,0,none⟩)):=fun _ _=>rfl
    obtain ⟨as,hl,_,b,off,hp,hget⟩:=Fj h hv hl
    injection hp with hp;injection hp with hp;injection hp with hp1 hp2
    subst hp1;subst hp2
    obtain ⟨vs,us1,os,hl,h1,h2,h3,h4,h5⟩:=DX h ls as (fun j=>W.w.cell? ⟨W.bk i,0+j,none⟩) hget hl
    refine fin vs os h4 ⟨hb,hver,hlen,h1,h2,fun j p lv hj hv => ?_⟩ hl
    obtain ⟨y,hy,hr⟩:=h5 j p lv hj hv
    exact ⟨y,by simpa using hy,hr⟩
   ·exact hl.elim
  | row g ls =>
   have e:vs0.length=ls.length:=by simpa [PM.ins] using hv0
   simp only [List.flatten_cons,C2] at hl
   rw [show (vs0++vss0.flatten).drop ls.length=vss0.flatten by rw [← e,List.drop_left]] at hl
   obtain ⟨vs,us1,os,hl,h1,h2,h3,h4⟩:=FA h i 0 ls vs0 _ e hl
   exact fin vs os h3 ⟨h1,h2,fun j p lv hp hv=>by have:=h4 j p lv hp hv;rwa [Nat.zero_add] at this⟩ hl
end
end Go.Ev
namespace Go.Ev
set_option linter.unusedVariables false
set_option linter.unusedSimpArgs false
def Dd (i:Nat) (pm:PM) (vs:List Lv):AV:=match pm with
 | .val g _ => .v g (vs.map fun x => .sc x.l x.x)
 | .box _=>one (.ptr i 0 1)
 | .row g ls => .v g (BC i 0 ls vs)
 | .fn f=>one (.fn f)
def CD (pm:PM) (vs:List Lv) (r:Bo):Bo:=match pm with
 | .box ls=>⟨true,1,AM 1 ls vs⟩
 | .row _ ls=>⟨false,1,AM 1 ls vs⟩
 | _=>r
theorem DQ (i:Nat):∀ (j:Nat) (ls:List (L×Nat)) (vs:List Lv),vs.length=ls.length→(BC i j ls vs).length=ls.length
 | _,[],[],_=>rfl
 | _,[],_::_,h=>by simp at h
 | _,_::_,[],h=>by simp at h
 | j,(l,d)::ls,x::vs,h=>by simp [BC,DQ i (j+1) ls vs (by simpa using h)]
theorem Fp (i:Nat):∀ (j:Nat) (ls:List (L×Nat)) (vs rest:List Lv),vs.length=ls.length→BC i j ls (vs++rest)=BC i j ls vs
 | _,[],[],rest,_=>by cases rest <;> simp [BC]
 | _,[],_::_,_,h=>by simp at h
 | _,_::_,[],_,h=>by simp at h
 | j,(l,d)::ls,x::vs,rest,h=>by simp [BC,Fp i (j+1) ls vs rest (by simpa using h)]
theorem Gj (i:Nat):∀ (j:Nat) (ls:List (L×Nat)) (vs:List Lv) (m:Nat) (p:L×Nat) (lv:Lv),ls[m]? = some p→vs[m]? = some lv→(BC i j ls vs)[m]? = some (if Bw p.1 then .ref ⟨i,j+m,1,1,[]⟩ else .sc lv.l lv.x)
 | _,[],_,m,p,lv,h,_=>by simp at h
 | _,_::_,[],m,p,lv,_,h=>by simp at h
 | j,(l,d)::ls,x::vs,0,p,lv,h1,h2=>by
  simp at h1 h2;subst h1;subst h2
  cases l <;> rfl
 | j,(l,d)::ls,x::vs,m+1,p,lv,h1,h2=>by
  have:=Gj i (j+1) ls vs m p lv (by simpa using h1) (by simpa using h2)
  rw [show j+1+m=j+(m+1) by omega] at this
  simpa [BC] using this
theorem Fq (i:Nat):∀ (j:Nat) (ls:List (L×Nat)) (vs:List Lv) (a:LA),a∈BC i j ls vs→∀ n∈a.AH,n=1
 | _,[],_,a,h=>by simp [BC] at h
 | _,_::_,[],a,h=>by simp [BC] at h
 | j,(l,d)::ls,x::vs,a,h=>by
  rcases List.mem_cons.1 (show a∈_::BC i (j+1) ls vs from h) with rfl | h
  ·intro n hn
   cases l <;> simp [LA.AH] at hn
   exact hn
  ·exact Fq i (j+1) ls vs a h
theorem Cs (s:St) (w:Wr):(s.AG w).sl.length=s.sl.length∧(s.AG w).ro.length=s.ro.length:=by
 cases w <;> simp [St.AG,CU]
def GY (i:Nat) (pm:PM) (vs:List Lv):List Wr:=match pm with
 | .val _ _=>[.slot i (Dd i pm vs)]
 | .fn _=>[.slot i (Dd i pm vs)]
 | _=>[.root i (CD pm vs dead), .slot i (Dd i pm vs)]
theorem MC (i:Nat) (pm:PM) (vs:List Lv) (s:St) (h1:i<s.sl.length) (h2:i<s.ro.length) :
  (s.app (GY i pm vs)).sl.length=s.sl.length∧(s.app (GY i pm vs)).ro.length=s.ro.length∧(∀ t,t≠i→(s.app (GY i pm vs)).slot t=s.slot t∧(s.app (GY i pm vs)).root t=s.root t) ∧
   (s.app (GY i pm vs)).slot i=Dd i pm vs∧(s.app (GY i pm vs)).root i=CD pm vs (s.root i):=by
 have one:∀ x,(s.app [.slot i x]).sl.length=s.sl.length∧(s.app [.slot i x]).ro.length=s.ro.length∧(∀ t,t≠i→(s.app [.slot i x]).slot t=s.slot t∧(s.app [.slot i x]).root t=s.root t) ∧
   (s.app [.slot i x]).slot i=x∧(s.app [.slot i x]).root i=s.root i:=by
  intro x
  refine ⟨(Cs s _).1,(Cs s _).2,fun t ht=>⟨?_,rfl⟩, ?_,rfl⟩
  ·show (s.AG (.slot i x)).slot t=_
   rw [BR,if_neg (fun hh=>ht hh.1.symm)]
  ·show (s.AG (.slot i x)).slot i=_
   rw [BR,if_pos ⟨rfl,h1⟩]
 have two:∀ y x,(s.app [.root i y, .slot i x]).sl.length=s.sl.length∧(s.app [.root i y, .slot i x]).ro.length=s.ro.length∧(∀ t,t≠i→(s.app [.root i y, .slot i x]).slot t=s.slot t∧(s.app [.root i y, .slot i x]).root t=s.root t) ∧
   (s.app [.root i y, .slot i x]).slot i=x∧(s.app [.root i y, .slot i x]).root i=y:=by
  intro y x
  have hsl:(s.AG (.root i y)).sl=s.sl:=rfl
  refine ⟨(Cs (s.AG (.root i y)) (.slot i x)).1.trans (Cs s _).1,(Cs (s.AG (.root i y)) (.slot i x)).2.trans (Cs s _).2,fun t ht=>⟨?_, ?_⟩, ?_, ?_⟩
  ·show ((s.AG (.root i y)).AG (.slot i x)).slot t=_
   rw [BR,if_neg (fun hh=>ht hh.1.symm)];rfl
  ·show (s.AG (.root i y)).root t=_
   rw [Av,if_neg (fun hh=>ht hh.1.symm)]
  ·show ((s.AG (.root i y)).AG (.slot i x)).slot i=_
   rw [BR,if_pos ⟨rfl,h1⟩]
  ·show (s.AG (.root i y)).root i=_
   rw [Av,if_pos ⟨rfl,h2⟩]
 cases pm with
 | val g ls=>exact one _
 | fn f=>exact one _
 | box ls=>exact two _ _
 | row g ls=>exact two _ _
theorem Hp:∀ (ps:List PM) (vss:List (List Lv)) (i:Nat) {ws:List Wr} (s:St),vss.length=ps.length→(∀ (j:Nat) (pm:PM) (vs:List Lv),ps[j]? = some pm→vss[j]? = some vs→vs.length=pm.ins.length) →
  C6 i ps vss.flatten=some ws→i+ps.length≤s.sl.length→i+ps.length≤s.ro.length →
  (s.app ws).sl.length=s.sl.length∧(s.app ws).ro.length=s.ro.length∧(∀ t,(t<i∨i+ps.length≤t)→(s.app ws).slot t=s.slot t∧(s.app ws).root t=s.root t) ∧
   ∀ (j:Nat) (pm:PM) (vs:List Lv),ps[j]? = some pm→vss[j]? = some vs→(s.app ws).slot (i+j)=Dd (i+j) pm vs∧(s.app ws).root (i+j)=CD pm vs (s.root (i+j))
 | [],[],i,ws,s,hlen,hv,h,h1,h2=>by
  have:ws=[]:=by simpa [C6] using h.symm
  subst this
  exact ⟨rfl,rfl,fun t ht=>⟨rfl,rfl⟩,fun j pm vs hj=>by simp at hj⟩
 | [],_::_,i,ws,s,hlen,hv,h,h1,h2=>by simp at hlen
 | _::_,[],i,ws,s,hlen,hv,h,h1,h2=>by simp at hlen
 | pm::ps,vs::vss,i,ws,s,hlen,hv,h,h1,h2=>by
  have hl0:vs.length=pm.ins.length:=hv 0 pm vs rfl rfl
  have hex:∃ ws',C6 (i+1) ps vss.flatten=some ws'∧ws=GY i pm vs++ws':=by
   cases pm with
   | val g ls =>
    simp only [List.flatten_cons,C6] at h
    have hl1:vs.length=ls.length:=hl0
    rw [← hl1,List.drop_left,List.take_left] at h
    split at h
    ·rename_i ws' hq
     injection h with h
     exact ⟨ws',hq,h.symm⟩
    ·cases h
   | fn f =>
    have hl1:vs=[]:=List.eq_nil_of_length_eq_zero hl0
    subst hl1
    simp only [List.flatten_cons,C6,List.nil_append] at h
    split at h
    ·rename_i ws' hq
     injection h with h
     exact ⟨ws',hq,h.symm⟩
    ·cases h
   | box ls =>
    simp only [List.flatten_cons,C6] at h
    have hl1:vs.length=ls.length:=by simpa [PM.ins] using hl0
    have hd:(vs++vss.flatten).drop ls.length=vss.flatten:=by rw [← hl1,List.drop_left]
    rw [hd,CO 1 ls vs _ hl1] at h
    split at h
    ·rename_i ws' hq
     injection h with h
     exact ⟨ws',hq,h.symm⟩
    ·cases h
   | row g ls =>
    simp only [List.flatten_cons,C6] at h
    have hl1:vs.length=ls.length:=by simpa [PM.ins] using hl0
    have hd:(vs++vss.flatten).drop ls.length=vss.flatten:=by rw [← hl1,List.drop_left]
    rw [hd,CO 1 ls vs _ hl1,Fp i 0 ls vs _ hl1] at h
    split at h
    ·rename_i ws' hq
     injection h with h
     exact ⟨ws',hq,h.symm⟩
    ·cases h
  obtain ⟨ws',hq,rfl⟩:=hex
  simp only [List.length_cons] at h1 h2
  obtain ⟨a1,a2,a3,a4,a5⟩:=MC i pm vs s (by omega) (by omega)
  obtain ⟨b1,b2,b3,b4⟩:=Hp ps vss (i+1) (s.app (GY i pm vs)) (by simpa using hlen) (fun j pm' vs' hj hv'=>hv (j+1) pm' vs' (by simpa using hj) (by simpa using hv')) hq (by rw [a1];omega) (by rw [a2];omega)
  rw [BD]
  refine ⟨b1.trans a1,b2.trans a2,fun t ht => ?_,fun j pm' vs' hj hv' => ?_⟩
  ·simp only [List.length_cons] at ht
   obtain ⟨c1,c2⟩:=b3 t (by omega)
   obtain ⟨d1,d2⟩:=a3 t (by omega)
   exact ⟨c1.trans d1,c2.trans d2⟩
  ·cases j with
   | zero =>
    simp at hj hv';subst hj;subst hv'
    obtain ⟨c1,c2⟩:=b3 i (by omega)
    exact ⟨c1.trans a4,c2.trans a5⟩
   | succ j =>
    obtain ⟨c1,c2⟩:=b4 j pm' vs' (by simpa using hj) (by simpa using hv')
    rw [show i+1+j=i+(j+1) by omega] at c1 c2
    rw [(a3 (i+(j+1)) (by omega)).2] at c2
    exact ⟨c1,c2⟩
section
variable {P:Program} {w:World} {fz:Nat→Prop} {ps:List PM} {args:List Value} {vss:List (List Lv)} {bk:Nat→Nat} {om:Key→List Nat} {N:Nat} {ws:List Wr}
open Classical in
noncomputable def Gm (ps:List PM) (w:World) (args:List Value) (bk:Nat→Nat) (r j:Nat):Option Value:=match ps[r]? with
 | some (.box _)=>w.cell? ⟨bk r,j,none⟩
 | some (.row g _)=>(args[r]?).bind fun u=>A7 g u j
 | _=>none
noncomputable def Hf (T:List (String×Array Value)) (ps:List PM) (w:World) (fz:Nat→Prop) (args:List Value) (bk:Nat→Nat) (om:Key→List Nat):Cq :=
 {base:=w.heap.size,io:=fun b=>∃ k,b∈om k,fa:=fz,w0:=w,OP:=Gm ps w args bk,O0:=bk,NY:=T }
noncomputable def Lo (ps:List PM) (w:World) (fz:Nat→Prop) (args:List Value) (bk:Nat→Nat) (om:Key→List Nat):Wd :=
 {w:=w,fz:=fz,cv:=Gm ps w args bk,bk:=bk,om:=om }
theorem Mx.kinds {pm:PM} {u:Value} {vs:List Lv} {b:Nat} {own:Nat→List Nat} (h:Mx w fz pm u vs b own):vs.length=pm.ins.length:=by
 cases pm with
 | val g ls=>have:=congrArg List.length h.1;simpa [PM.ins] using this
 | box ls=>have:=congrArg List.length h.2.1;simpa [PM.ins] using this
 | row g ls=>have:=congrArg List.length h.1;simpa [PM.ins] using this
 | fn f=>rw [h.2];rfl
theorem HV (n t:Nat):(blank n).slot t=one .bad:=by
 show nth _ (List.replicate n (one .bad)) t=_
 rw [Ah,List.getElem?_replicate]
 split <;> rfl
theorem Dy (n t:Nat):(blank n).root t=dead:=by
 show nth _ (List.replicate n dead) t=_
 rw [Ah,List.getElem?_replicate]
 split <;> rfl
theorem MD (hin:EC ps w fz args vss bk om) (hp:C6 0 ps vss.flatten=some ws) (hN:ps.length≤N):Inv N ((blank N).app ws):=by
 obtain ⟨b1,b2,b3,b4⟩:=Hp ps vss 0 (blank N) hin.Bx (fun j pm vs hj hv=>by
  obtain ⟨u,hu⟩:∃ u,args[j]? = some u:=⟨_,List.getElem?_eq_getElem (by rw [hin.len];exact (List.getElem?_eq_some_iff.1 hj).1)⟩
  exact (hin.each j pm u vs hj hu hv).kinds) hp (by simp [blank];exact hN) (by simp [blank];exact hN)
 simp only [Nat.zero_add] at b3 b4
 have hctr:((blank N).app ws).Bv=2:=I4 ws _
 have get:∀ t,(∃ pm vs,ps[t]? = some pm∧vss[t]? = some vs∧((blank N).app ws).slot t=Dd t pm vs∧((blank N).app ws).root t=CD pm vs dead)∨(((blank N).app ws).slot t=one .bad∧((blank N).app ws).root t=dead):=by
  intro t
  rcases Nat.lt_or_ge t ps.length with hlt | hge
  ·left
   have h1:=List.getElem?_eq_getElem hlt
   have h2:=List.getElem?_eq_getElem (show t<vss.length by rw [hin.Bx];exact hlt)
   obtain ⟨c1,c2⟩:=b4 t _ _ h1 h2
   rw [Dy] at c2
   exact ⟨_,_,h1,h2,c1,c2⟩
  ·right
   obtain ⟨c1,c2⟩:=b3 t (.inr hge)
   rw [HV] at c1
   rw [Dy] at c2
   exact ⟨c1,c2⟩
 have nl:∀ (ls:List (L×Nat)) (vs:List Lv),∀ a∈AM 1 ls vs,(∀ n∈a.AH,n=1)∧a.Ca=true:=by
  intro ls
  induction ls with
  | nil=>intro vs a ha;simp [AM] at ha
  | cons p ls ih =>
   intro vs a ha
   cases vs with
   | nil=>simp [AM] at ha
   | cons x vs =>
    rcases List.mem_cons.1 (show a∈BT 1 p.2 x::AM 1 ls vs from ha) with rfl | ha
    ·exact Gd 1 _ _
    ·exact ih vs a ha
 have rt:∀ (pm:PM) (vs:List Lv),((CD pm vs dead).AA<2)∧∀ a∈(CD pm vs dead).ls,(∀ n∈a.AH,n=1)∧a.Ca=true:=by
  intro pm vs
  cases pm with
  | val g ls=>exact ⟨by simp [CD,dead],fun a ha=>by simp [CD,dead] at ha⟩
  | fn f=>exact ⟨by simp [CD,dead],fun a ha=>by simp [CD,dead] at ha⟩
  | box ls=>exact ⟨by simp [CD],fun a ha=>nl ls vs a ha⟩
  | row g ls=>exact ⟨by simp [CD],fun a ha=>nl ls vs a ha⟩
 refine ⟨⟨fun t n hn => ?_,fun r n hn => ?_⟩,by rw [hctr];exact Nat.le_refl _,by rw [b1];simp [blank],by rw [b2];simp [blank],fun r a ha => ?_⟩
 ·rw [hctr]
  rcases get t with ⟨pm,vs,_,_,h1,_⟩ | ⟨h1,_⟩
  ·rw [h1] at hn
   cases pm with
   | val g ls =>
    exfalso
    simp only [Dd,AV.AH,List.mem_flatMap,List.mem_map] at hn
    obtain ⟨a,⟨x,_,rfl⟩,hn⟩:=hn
    cases hn
   | fn f=>simp [Dd,one,AV.AH,LA.AH] at hn
   | box ls=>simp [Dd,one,AV.AH,LA.AH] at hn;omega
   | row g ls =>
    obtain ⟨a,ha,hn⟩:=List.mem_flatMap.1 (show n∈(BC t 0 ls vs).flatMap LA.AH from hn)
    have:=Fq t 0 ls vs a ha n hn
    omega
  ·rw [h1] at hn;simp [one,AV.AH,LA.AH] at hn
 ·rw [hctr]
  rcases get r with ⟨pm,vs,_,_,_,h1⟩ | ⟨_,h1⟩
  ·rw [h1] at hn
   rcases List.mem_cons.1 (show n∈(CD pm vs dead).AA::(CD pm vs dead).ls.flatMap LA.AH from hn) with rfl | hn
   ·exact (rt pm vs).1
   ·obtain ⟨a,ha,hn⟩:=List.mem_flatMap.1 hn
    have:=((rt pm vs).2 a ha).1 n hn
    omega
  ·rw [h1] at hn;simp [dead,Bo.AH] at hn;omega
 ·rcases get r with ⟨pm,vs,_,_,_,h1⟩ | ⟨_,h1⟩
  ·rw [h1] at ha;exact ((rt pm vs).2 a ha).2
  ·rw [h1] at ha;simp [dead] at ha
theorem ME {T:List (String×Array Value)} (hin:EC ps w fz args vss bk om) (hp:C6 0 ps vss.flatten=some ws) (hN:ps.length≤N) :
  AW (Hf T ps w fz args bk om) ((blank N).app ws) (args.toArray++Array.replicate (N - args.toArray.size) undef) (Lo ps w fz args bk om):=by
 obtain ⟨b1,b2,b3,b4⟩:=Hp ps vss 0 (blank N) hin.Bx (fun j pm vs hj hv=>by
  obtain ⟨u,hu⟩:∃ u,args[j]? = some u:=⟨_,List.getElem?_eq_getElem (by rw [hin.len];exact (List.getElem?_eq_some_iff.1 hj).1)⟩
  exact (hin.each j pm u vs hj hu hv).kinds) hp (by simp [blank];exact hN) (by simp [blank];exact hN)
 simp only [Nat.zero_add] at b3 b4
 have hsz:(args.toArray++Array.replicate (N - args.toArray.size) undef).size=N:=by
  have:=hin.len
  simp
  omega
 have get:∀ t,(∃ pm u vs,ps[t]? = some pm∧args[t]? = some u∧vss[t]? = some vs∧((blank N).app ws).slot t=Dd t pm vs∧((blank N).app ws).root t=CD pm vs dead∧(args.toArray++Array.replicate (N - args.toArray.size) undef).getD t Go.undef=u) ∨
   (ps[t]? = none∧((blank N).app ws).slot t=one .bad∧((blank N).app ws).root t=dead):=by
  intro t
  rcases Nat.lt_or_ge t ps.length with hlt | hge
  ·left
   have h1:=List.getElem?_eq_getElem hlt
   have hlt2:t<args.length:=by rw [hin.len];exact hlt
   have h0:=List.getElem?_eq_getElem hlt2
   have h2:=List.getElem?_eq_getElem (show t<vss.length by rw [hin.Bx];exact hlt)
   obtain ⟨c1,c2⟩:=b4 t _ _ h1 h2
   rw [Dy] at c2
   refine ⟨_,_,_,h1,h0,h2,c1,c2, ?_⟩
   rw [Array.getD_eq_getD_getElem?,Array.getElem?_append_left (by simpa using hlt2)]
   simp [hlt2]
  ·right
   obtain ⟨c1,c2⟩:=b3 t (.inr hge)
   rw [HV] at c1
   rw [Dy] at c2
   exact ⟨List.getElem?_eq_none hge,c1,c2⟩
 refine ⟨by rw [b1,hsz];simp [blank],by rw [b2,hsz];simp [blank],fun t => ?_,fun r => ?_, ?_,⟨fun _ _ _ _ _ _ _ _=>rfl,fun _ _ _=>rfl⟩⟩
 ·rcases get t with ⟨pm,u,vs,h1,h2,h3,h4,h5,h6⟩ | ⟨_,h4,_⟩
  ·rw [h4,h6]
   have ha:=hin.each t pm u vs h1 h2 h3
   cases pm with
   | val g ls =>
    obtain ⟨a1,a2,a3⟩:=ha
    have hlen:vs.length=ls.length:=by have:=congrArg List.length a1;simpa using this
    have hrd:∀ (j:Nat) (lv:Lv),vs[j]? = some lv→∃ y,A7 g u j=some y∧lv.l.rd 0 w fz y lv.x []:=by
     intro j lv hj
     have hlt:j<ls.length:=by rw [← hlen];exact (List.getElem?_eq_some_iff.1 hj).1
     exact a3 j (ls[j],0) lv (by simp [hlt]) hj
    cases g with
    | false =>
     have hl1:vs.length=1:=by rw [hlen];simpa using a2
     obtain ⟨lv,rfl⟩:∃ lv,vs=[lv]:=by
      match vs,hl1 with
      | [x],_=>exact ⟨x,rfl⟩
     obtain ⟨y,hy,hr⟩:=hrd 0 lv rfl
     simp [A7] at hy
     subst hy
     exact hr
    | true =>
     obtain ⟨cs,rfl,hcs⟩:=a2
     refine ⟨cs,rfl,by rw [hcs];simp [hlen],fun j a hj => ?_⟩
     simp only [List.getElem?_map] at hj
     cases hq:vs[j]? with
     | none=>rw [hq] at hj;cases hj
     | some lv =>
      rw [hq] at hj;injection hj with hj;subst hj
      obtain ⟨y,hy,hr⟩:=hrd j lv hq
      exact ⟨y,hy,hr⟩
   | box ls=>exact fun _ _=>ha.1
   | row g ls =>
    obtain ⟨a1,a2,a3⟩:=ha
    have hlen:vs.length=ls.length:=by have:=congrArg List.length a1;simpa using this
    have hleaf:∀ (j:Nat) (p:L×Nat) (lv:Lv),ls[j]? = some p→vs[j]? = some lv→((blank N).app ws).leaf t j=BT 1 p.2 lv:=by
     intro j p lv p1 p2
     show nth LA.bad (((blank N).app ws).root t).ls j=_
     rw [h5]
     show nth LA.bad (AM 1 ls vs) j=_
     rw [Ah,BJ 1 ls vs j _ _ p1 p2]
     rfl
    have hok:∀ (j:Nat) (a:LA),(BC t 0 ls vs)[j]? = some a→∃ y,A7 g u j=some y∧AR ((blank N).app ws) (Lo ps w fz args bk om) a y:=by
     intro j a hj
     have hlt:j<ls.length:=by rw [← DQ t 0 ls vs hlen];exact (List.getElem?_eq_some_iff.1 hj).1
     have p1:=List.getElem?_eq_getElem hlt
     have p2:=List.getElem?_eq_getElem (show j<vs.length by omega)
     obtain ⟨y,hy,hr⟩:=a3 j _ _ p1 p2
     refine ⟨y,hy, ?_⟩
     rw [Gj t 0 ls vs j _ _ p1 p2] at hj
     injection hj with hj
     subst hj
     have hl1:vs[j].l=ls[j].1:=by
      have:=congrArg (fun x=>x[j]?) a1
      simpa [p1,p2] using this
     split
     ·intro gen t2 e2 xs2 d2 hl _
      have hl:((blank N).app ws).leaf t (0+j)=_:=hl
      rw [Nat.zero_add,hleaf j _ _ p1 p2] at hl
      refine ⟨y,e2, ?_,rfl,rfl⟩
      show Gm ps w args bk t (0+j)=some y
      simp [Gm,h1,h2,hy]
     ·rename_i hs
      have:=(L.AZ (d':=0) (w':=w) (fz':=fz) vs[j].l (by rw [hl1];simpa using hs) hr)
      have h7:=this.1
      rw [show (fun j=>om (Key.lf t j)) j=[] from this.2] at h7
      exact h7
    cases g with
    | false =>
     obtain ⟨a,ha2⟩:∃ a,BC t 0 ls vs=[a]:=by
      have:=(DQ t 0 ls vs hlen).trans a2
      match h:BC t 0 ls vs,this with
      | [x],_=>exact ⟨x,rfl⟩
     show Ex _ _ false (BC t 0 ls vs) u
     obtain ⟨y,hy,hr⟩:=hok 0 a (by rw [ha2];rfl)
     simp [A7] at hy
     subst hy
     rw [ha2]
     exact hr
    | true =>
     obtain ⟨cs,rfl,hcs⟩:=a2
     exact ⟨cs,rfl,by rw [hcs,DQ t 0 ls vs hlen],fun j a hj=>hok j a hj⟩
   | fn f=>exact ha.1
  ·rw [h4];trivial
 ·have hnone:(∀ ls,ps[r]? ≠ some (.box ls))→(∀ g ls,ps[r]? ≠ some (.row g ls))→EF ((blank N).app ws) (Lo ps w fz args bk om) r dead:=by
   intro q1 q2
   refine ⟨fun j => ?_, ?_⟩
   ·have:nth LA.bad dead.ls j = .bad:=by simp [dead,nth]
    rw [this]
    exact ⟨hin.none r q1 q2 j,fun _ _=>trivial⟩
   ·show om (.AX r)=[]
    rw [hin.AX]
    split
    ·rename_i ls hq;exact absurd hq (q1 ls)
    ·rfl
  rcases get r with ⟨pm,u,vs,h1,h2,h3,h4,h5,h6⟩ | ⟨h1,_,h5⟩
  ·rw [h5]
   have ha:=hin.each r pm u vs h1 h2 h3
   cases pm with
   | val g ls=>exact hnone (fun ls' hq=>by rw [h1] at hq;cases hq) (fun g ls hq=>by rw [h1] at hq;cases hq)
   | fn f=>exact hnone (fun ls' hq=>by rw [h1] at hq;cases hq) (fun g ls hq=>by rw [h1] at hq;cases hq)
   | box ls =>
    obtain ⟨a1,a2,arr,T,fr,a3,a4,a5,a6⟩:=ha
    have hlen:vs.length=ls.length:=by have:=congrArg List.length a2;simpa using this
    have hcv:∀ j,Gm ps w args bk r j=arr[j]? := by
     intro j
     simp [Gm,h1,World.cell?,a3]
    refine ⟨fun j => ?_, ?_⟩
    ·show Aa _ _ (nth .bad (AM 1 ls vs) j) (Gm ps w args bk r j) (om (.lf r j))
     rcases Nat.lt_or_ge j ls.length with hlt | hge
     ·have p1:=List.getElem?_eq_getElem hlt
      have p2:=List.getElem?_eq_getElem (show j<vs.length by omega)
      obtain ⟨y,hy,hr⟩:=a6 j _ _ p1 p2
      rw [Ah,BJ 1 ls vs j _ _ p1 p2,hcv,hy]
      exact FN (W':=Lo ps w fz args bk om) hr
     ·rw [A3 _ (by rw [BK 1 ls vs hlen];exact hge)]
      exact ⟨hin.box r ls h1 j hge,fun _ _=>trivial⟩
    ·show (if true=true then _ else _)
     rw [if_pos rfl]
     refine ⟨?_,arr,T,fr,a3,a4, ?_,fun j=>hcv j⟩
     ·show om (.AX r)=[bk r]
      rw [hin.AX,h1]
     ·show arr.size=(AM 1 ls vs).length
      rw [BK 1 ls vs hlen,a5]
   | row g ls =>
    obtain ⟨a1,a2,a3⟩:=ha
    have hlen:vs.length=ls.length:=by have:=congrArg List.length a1;simpa using this
    refine ⟨fun j => ?_, ?_⟩
    ·show Aa _ _ (nth .bad (AM 1 ls vs) j) (Gm ps w args bk r j) (om (.lf r j))
     rcases Nat.lt_or_ge j ls.length with hlt | hge
     ·have p1:=List.getElem?_eq_getElem hlt
      have p2:=List.getElem?_eq_getElem (show j<vs.length by omega)
      obtain ⟨y,hy,hr⟩:=a3 j _ _ p1 p2
      rw [Ah,BJ 1 ls vs j _ _ p1 p2,show Gm ps w args bk r j=some y by simp [Gm,h1,h2,hy]]
      exact FN (W':=Lo ps w fz args bk om) hr
     ·rw [A3 _ (by rw [BK 1 ls vs hlen];exact hge)]
      exact ⟨hin.row r g ls h1 j hge,fun _ _=>trivial⟩
    ·show om (.AX r)=[]
     rw [hin.AX,h1]
  ·rw [h5]
   exact hnone (fun ls' hq=>by rw [h1] at hq;cases hq) (fun g ls hq=>by rw [h1] at hq;cases hq)
 ·exact {
   nodup:=hin.nodup
   A6:=hin.A6
   own:=fun k b hb=>⟨(hin.own k b hb).1,(hin.own k b hb).2, .inr ⟨k,hb⟩⟩
   fz:=fun b hb=>⟨hin.fz b hb, .inl hb⟩
   frame:=fun _ _ _=>rfl
   size:=Nat.le_refl _
   rest:=⟨rfl,rfl,rfl⟩ }
end
end Go.Ev
namespace Go.Ev
set_option linter.unusedVariables false
set_option linter.unusedSimpArgs false
theorem Gi {P:Program} {fn:Func} {tm:Array Value} {w:World} {vals:List Value} (h:Ja P w tm fn.results.toList vals):(results fn tm).run P w = .ok (Kg vals) w:=by
 have key:∀ (g:ResultVar→Sem Value),(∀ t,g (.tmp t)=pure (tm.getD t undef))→(∀ t T,g (.cell t T)=(do loadVar T (← asAddr (tm.getD t undef))))→∀ (l:List ResultVar) (vals:List Value),Ja P w tm l vals→(l.mapM g).run P w = .ok vals w:=by
  intro g hg hg2 l
  induction l with
  | nil =>
   intro vals hl
   cases vals with
   | nil=>rfl
   | cons v vs=>exact hl.elim
  | cons v l ih =>
   intro vals hl
   cases vals with
   | nil=>cases v <;> exact hl.elim
   | cons u us =>
    rw [List.mapM_cons,Sem.run_bind]
    cases v with
    | tmp t =>
     obtain ⟨rfl,hl⟩:=hl
     rw [hg]
     simp [Sem.run_bind,ih us hl]
    | cell a t =>
     obtain ⟨h1,hl⟩:=hl
     rw [hg2,h1]
     simp [Sem.run_bind,ih us hl]
 unfold results
 rw [Array.mapM_eq_mapM_toList]
 simp only [map_eq_pure_bind,bind_assoc,pure_bind]
 rw [Sem.run_bind,key _ ?h1 ?h2 _ vals h]
 case h1=>intro t;rfl
 case h2=>intro t T;rfl
 show Result.ok _ w=_
 congr 1
 match vals with
 | []=>rfl
 | [u]=>rfl
 | u::v::l=>simp [Kg]
section
variable {P:Program} {ty:TypeId→Option Ty} {env:Env} {an:An} {n:Nat} {sm:Sm} {fn:Func} {f:FuncId} {c:Code}
theorem NS {T:List (String×Array Value)} {w:World} {fz:Nat→Prop} {args:List Value} {vss:List (List Lv)} {bk:Nat→Nat} {om:Key→List Nat} {s:St} {W:Wd} {tm:Array Value} {z:sm.outs.D}
  (hin:EC sm.ps w fz args vss bk om) (h:AW (Hf T sm.ps w fz args bk om) s tm W) (hty:∀ t x,ty t=some x→Nc P t x) (hz:IB ty sm fn.results.toList vss.flatten s=some z) :
  ∃ r om' rv vsR vsP,(results fn tm).run P W.w = .ok r W.w∧FR sm w fz args bk om z r W.w W.fz om' rv vsR vsP:=by
 unfold IB at hz
 obtain ⟨tt,hl,hpk⟩:=Step.Cw _ hz
 obtain ⟨vals,vsR,us1,osR,hl,hb1,hrv,hro⟩:=HQ hty h sm.rs fn.results.toList hl
 obtain ⟨vsP,us2,osP,hl,hlp,hlo,hb2,hps⟩:=IX h 0 sm.ps vss hin.Bx (fun j pm vs hj hv=>by
  obtain ⟨u,hu⟩:∃ u,args[j]? = some u:=⟨_,List.getElem?_eq_getElem (by rw [hin.len];exact (List.getElem?_eq_some_iff.1 hj).1)⟩
  exact (hin.each j pm u vs hj hu hv).kinds) hl
 have hl:vsR.flatten++vsP.flatten=tt:=hl
 subst hl
 have hbl:=hb1.append hb2
 have hpair:=hbl.pair h.sep.A6
 have hnd:=hbl.nodup
 have hmem:=hbl.mem
 rw [List.pairwise_append] at hpair
 obtain ⟨hp1,hp2,hp12⟩:=hpair
 rw [List.pairwise_flatten] at hp2
 obtain ⟨hp2,hp3⟩:=hp2
 let om':Key→List Nat
  | .fl k=>(osR[k]?).getD []
  | .lf i j=>(((osP[i]?).getD [])[j]?).getD []
  | .AX i=>om (.AX i)
 have inR:∀ k,∀ b∈om' (.fl k),∃ o,osR[k]? = some o∧b∈o:=by
  intro k b hb
  have hb:b∈(osR[k]?).getD []:=hb
  cases hq:osR[k]? with
  | none=>rw [hq] at hb;cases hb
  | some o=>rw [hq] at hb;exact ⟨o,rfl,hb⟩
 have inP:∀ i j,∀ b∈om' (.lf i j),∃ os o,osP[i]? = some os∧os[j]? = some o∧b∈o:=by
  intro i j b hb
  have hb:b∈(((osP[i]?).getD [])[j]?).getD []:=hb
  cases hq:osP[i]? with
  | none=>rw [hq] at hb;cases hb
  | some os =>
   rw [hq] at hb
   simp only [Option.getD_some] at hb
   cases hq2:os[j]? with
   | none=>rw [hq2] at hb;cases hb
   | some o=>rw [hq2] at hb;exact ⟨os,o,rfl,hq2,hb⟩
 have memP:∀ {i j:Nat} {os:List (List Nat)} {o:List Nat},osP[i]? = some os→os[j]? = some o→o∈osP.flatten:=fun h1 h2=>List.mem_flatten.2 ⟨_,List.mem_of_getElem? h1,List.mem_of_getElem? h2⟩
 have blkW:∀ i,∀ b∈om (.AX i),W.om (.AX i)=om (.AX i):=by
  intro i b hb
  have hk:=hin.AX i
  cases hq:sm.ps[i]? with
  | none=>rw [hq] at hk;rw [hk] at hb;cases hb
  | some pm =>
   rw [hq] at hk
   cases pm with
   | box ls =>
    have hlt:i<sm.ps.length:=(List.getElem?_eq_some_iff.1 hq).1
    have hpb:=hps i (.box ls) _ _ _ hq (List.getElem?_eq_getElem (by rw [hin.Bx];exact hlt)) (List.getElem?_eq_getElem (by omega)) (List.getElem?_eq_getElem (by omega))
    rw [Nat.zero_add] at hpb
    obtain ⟨b1,b2,_⟩:=hpb
    have h2:=(h.roots i).2
    rw [if_pos b1] at h2
    rw [h2.1,h.init.2 i b1 b2,hk]
    rfl
   | val g ls=>have hk:om (.AX i)=[]:=hk;rw [hk] at hb;cases hb
   | row g ls=>have hk:om (.AX i)=[]:=hk;rw [hk] at hb;cases hb
   | fn f=>have hk:om (.AX i)=[]:=hk;rw [hk] at hb;cases hb
 have from':∀ k,∀ b∈om' k,∃ k0,b∈W.om k0∧((∃ i,k0 = .AX i∧k = .AX i)∨∃ r j,k0 = .lf r j):=by
  intro k b hb
  cases k with
  | fl k =>
   obtain ⟨o,ho,hb⟩:=inR k b hb
   obtain ⟨u,_,hu⟩:=hmem o (List.mem_append_left _ (List.mem_of_getElem? ho)) b hb
   exact ⟨_,hu, .inr ⟨_,_,rfl⟩⟩
  | lf i j =>
   obtain ⟨os,o,h1,h2,hb⟩:=inP i j b hb
   obtain ⟨u,_,hu⟩:=hmem o (List.mem_append_right _ (memP h1 h2)) b hb
   exact ⟨_,hu, .inr ⟨_,_,rfl⟩⟩
  | AX i =>
   have hb:b∈om (.AX i):=hb
   exact ⟨.AX i,by rw [blkW i b hb];exact hb, .inl ⟨i,rfl,rfl⟩⟩
 have hrx:=Gi hrv
 refine ⟨_,om',vals,vsR,vsP,hrx, ?_⟩
 refine {
  outs:=Ax _ _ _ hpk
  res:=rfl
  Mf:=hro 0 _ fun j hj=>by rw [Nat.zero_add]
  len:=hlp
  each := ?_
  AX:=fun _=>rfl
  nodup := ?_
  A6 := ?_
  own := ?_
  fz:=fun b hb=>h.sep.fz b hb |>.imp id fun hh=>hh.imp id id
  frame:=fun b hb hk=>h.sep.frame b hb fun ⟨k,hh⟩=>hk k hh
  size:=h.sep.size
  rest:=h.sep.rest }
 ·intro i pm u vs h1 h2 h3
  have hlt:i<osP.length:=by rw [hlo];exact (List.getElem?_eq_some_iff.1 h1).1
  have hos:=List.getElem?_eq_getElem hlt
  obtain ⟨vs0,hv0⟩:∃ vs0,vss[i]? = some vs0:=⟨_,List.getElem?_eq_getElem (by rw [hin.Bx];exact (List.getElem?_eq_some_iff.1 h1).1)⟩
  have hpb:=hps i pm vs0 vs _ h1 hv0 h3 hos
  rw [Nat.zero_add] at hpb
  have ha:=hin.each i pm u vs0 h1 h2 hv0
  have hom:∀ j,om' (.lf i j)=(osP[i][j]?).getD []:=by
   intro j
   show (((osP[i]?).getD [])[j]?).getD []=_
   rw [hos];rfl
  cases pm with
  | val g ls=>exact hpb.1
  | fn f=>exact hpb.1
  | box ls =>
   obtain ⟨b1,b2,b3,b4,b5,b6⟩:=hpb
   have h2':=(h.roots i).2
   rw [if_pos b1] at h2'
   obtain ⟨q1,arr,T,fr,q2,q3,q4,q5⟩:=h2'
   have hbk:W.bk i=bk i:=h.init.2 i b1 b2
   rw [hbk] at q2
   refine ⟨ha.1,b4,arr,T,fr,q2,q3,by rw [q4,b3],fun j p lv hj hv => ?_⟩
   obtain ⟨y,hy,hr⟩:=b6 j p lv hj hv
   refine ⟨y, ?_, ?_⟩
   ·rw [hbk] at hy
    simpa [World.cell?,q2] using hy
   ·show lv.l.rd p.2 W.w W.fz y lv.x (om' (.lf i j))
    rw [hom];exact hr
  | row g ls =>
   obtain ⟨a1,a2,a3⟩:=ha
   obtain ⟨b1,b2,b3⟩:=hpb
   have hlen0:vs0.length=ls.length:=by have:=congrArg List.length a1;simpa using this
   have hkey:∀ (j:Nat) (p:L×Nat) (lv:Lv),ls[j]? = some p→vs[j]? = some lv→lv.l=p.1∧∃ y,A7 g u j=some y∧lv.l.rd p.2 W.w W.fz y lv.x (om' (.lf i j)):=by
    intro j p lv hj hv
    rw [hom]
    rcases b3 j p lv hj hv with ⟨_,c2,y,hy,hr⟩ | ⟨c1,c2,c3⟩
    ·refine ⟨c2,y, ?_,hr⟩
     have hy:Gm sm.ps w args bk i j=some y:=hy
     simpa [Gm,h1,h2] using hy
    ·obtain ⟨y,hy,hr⟩:=a3 j p lv hj c2
     have hl:lv.l=p.1:=by
      have:=congrArg (fun x=>x[j]?) a1
      simpa [hj,c2] using this
     have hfl:=L.AZ (d':=p.2) (w':=W.w) (fz':=W.fz) lv.l (by rw [hl];exact c1) hr
     have h7:=hfl.1
     rw [show (fun j=>om (Key.lf i j)) j=[] from hfl.2] at h7
     refine ⟨hl,y,hy, ?_⟩
     rw [c3]
     exact h7
   refine ⟨?_,a2,fun j p lv hj hv=>(hkey j p lv hj hv).2⟩
   apply List.ext_getElem?
   intro j
   rcases Nat.lt_or_ge j ls.length with hlt | hge
   ·have p1:=List.getElem?_eq_getElem hlt
    have p2:=List.getElem?_eq_getElem (show j<vs.length by omega)
    rw [List.getElem?_map,List.getElem?_map,p1,p2]
    exact congrArg some (hkey j _ _ p1 p2).1
   ·rw [List.getElem?_eq_none (by simp;omega),List.getElem?_eq_none (by simp;omega)]
 ·intro k
  cases k with
  | fl k =>
   show ((osR[k]?).getD []).Nodup
   cases hq:osR[k]? with
   | none=>exact List.nodup_nil
   | some o=>exact hnd o (List.mem_append_left _ (List.mem_of_getElem? hq))
  | lf i j =>
   show ((((osP[i]?).getD [])[j]?).getD []).Nodup
   cases hq:osP[i]? with
   | none=>exact List.nodup_nil
   | some os =>
    simp only [Option.getD_some]
    cases hq2:os[j]? with
    | none=>exact List.nodup_nil
    | some o=>exact hnd o (List.mem_append_right _ (memP hq hq2))
  | AX i=>exact hin.nodup _
 ·intro k k' hne b hb hb'
  have cross:∀ i (k0:Key),(∀ i,k0 ≠ .AX i)→b∈om' (.AX i)→b∈om' k0→False:=by
   intro i k0 hk h1 h2
   have h1:b∈om (.AX i):=h1
   have h3:b∈W.om (.AX i):=by rw [blkW i b h1];exact h1
   obtain ⟨k1,h4,h5⟩:=from' k0 b h2
   rcases h5 with ⟨i',_,h5⟩ | ⟨r,j,rfl⟩
   ·exact hk i' h5
   ·exact h.sep.A6 _ _ (by simp) b h3 h4
  cases k with
  | AX i=>cases k' with
   | AX i'=>exact hin.A6 _ _ hne b hb hb'
   | lf i' j'=>exact cross i (.lf i' j') (by simp) hb hb'
   | fl k'=>exact cross i (.fl k') (by simp) hb hb'
  | lf i j=>cases k' with
   | AX i'=>exact cross i' (.lf i j) (by simp) hb' hb
   | lf i' j' =>
    obtain ⟨os,o,h1,h2,hb⟩:=inP i j b hb
    obtain ⟨os',o',h1',h2',hc⟩:=inP i' j' b hb'
    by_cases hi:i=i'
    ·subst hi
     rw [h1] at h1';injection h1' with h1';subst h1'
     have hj:j≠j':=fun e=>hne (by rw [e])
     exact JO (fun _ _=>E8.symm) (hp2 os (List.mem_of_getElem? h1)) hj h2 h2' b hb hc
    ·have:=JO (R:=fun l₁ l₂=>∀ x,x∈l₁→∀ y,y∈l₂→E8 x y) (fun a c hh x hx y hy=>(hh y hy x hx).symm) hp3 hi h1 h1'
     exact this o (List.mem_of_getElem? h2) o' (List.mem_of_getElem? h2') b hb hc
   | fl k' =>
    obtain ⟨os,o,h1,h2,hb⟩:=inP i j b hb
    obtain ⟨o',h1',hb'⟩:=inR k' b hb'
    exact hp12 o' (List.mem_of_getElem? h1') o (memP h1 h2) b hb' hb
  | fl k=>cases k' with
   | AX i'=>exact cross i' (.fl k) (by simp) hb' hb
   | lf i' j' =>
    obtain ⟨os,o,h1,h2,hb'⟩:=inP i' j' b hb'
    obtain ⟨o',h1',hb⟩:=inR k b hb
    exact hp12 o' (List.mem_of_getElem? h1') o (memP h1 h2) b hb hb'
   | fl k' =>
    obtain ⟨o,h1,hb⟩:=inR k b hb
    obtain ⟨o',h1',hb'⟩:=inR k' b hb'
    exact JO (fun _ _=>E8.symm) hp1 (fun e=>hne (by rw [e])) h1 h1' b hb hb'
 ·intro k b hb
  obtain ⟨k0,h1,_⟩:=from' k b hb
  exact h.sep.own k0 b h1
theorem N8 {T:List (String×Array Value)} {w:World} {fz:Nat→Prop} {args:List Value} {vss:List (List Lv)} {bk:Nat→Nat} {om:Key→List Nat} {s:St} {W:Wd} {tm:Array Value} {z:sm.outs.D} {v:Nat}
  (hin:EC sm.ps w fz args vss bk om) (h:AW (Hf T sm.ps w fz args bk om) s tm W) (hv:Ae s v) (hty:∀ t x,ty t=some x→Nc P t x) (hmk:sm.mk? = false) (hz:DP ty sm fn.results.toList vss.flatten s=some z) :
  ∃ r fz' om' rv vsR vsP,(results fn tm).run P W.w = .ok r W.w∧FR sm w fz args bk om z r W.w fz' om' rv vsR vsP:=by
 unfold DP at hz
 rw [hmk] at hz
 simp only [Bool.false_eq_true,if_false] at hz
 split at hz
 ·rename_i fs hfs
  obtain ⟨W1,h1,fr,_⟩:=Em h hv hfs
  obtain ⟨r,om',rv,vsR,vsP,q1,q2⟩:=NS (P:=P) (fn:=fn) hin h1 hty hz
  rw [fr.w] at q1 q2
  exact ⟨r,W1.fz,om',rv,vsR,vsP,q1,q2⟩
 ·cases hz
theorem H7:∀ (ls:List L) (as:List LA) {vs:List Lv},DO ls as=some vs→vs.map (·.l)=ls∧as.length=ls.length∧∀ (j:Nat) (lv:Lv),vs[j]? = some lv→as[j]? = some (.sc lv.l lv.x)
 | [],[],vs,h=>by
  simp only [DO,Option.some.injEq] at h
  subst h
  exact ⟨rfl,rfl,fun j lv hj=>by simp at hj⟩
 | l::ls,a::as,vs,h=>by
  cases a with
  | sc m x =>
   simp only [DO] at h
   split at h
   ·rename_i y ys hc hr
    injection h with h
    subst h
    obtain ⟨h1,h2,h3⟩:=H7 ls as hr
    obtain ⟨rfl,hxy⟩:=L.AI hc
    cases hxy
    refine ⟨by simp [h1],by simp [h2],fun j lv hj => ?_⟩
    cases j with
    | zero=>simp at hj;subst hj;rfl
    | succ j=>simpa using h3 j lv (by simpa using hj)
   ·cases h
  | _=>simp [DO] at h
 | [],_::_,vs,h=>by simp [DO] at h
 | _::_,[],vs,h=>by simp [DO] at h
theorem N7 {T:List (String×Array Value)} {w:World} {fz:Nat→Prop} {args:List Value} {vss:List (List Lv)} {bk:Nat→Nat} {om:Key→List Nat} {s:St} {W:Wd} {tm:Array Value} {z:sm.outs.D}
  (hin:EC sm.ps w fz args vss bk om) (h:AW (Hf T sm.ps w fz args bk om) s tm W) (hmk:sm.mk? = true) (hz:DP ty sm fn.results.toList vss.flatten s=some z) :
  ∃ r b,(results fn tm).run P W.w = .ok r W.w∧Lu sm w fz z r W.w W.fz b:=by
 unfold DP at hz
 rw [hmk,if_pos rfl] at hz
 unfold Nf at hz
 split at hz
 ·rename_i t hrv
  split at hz
  ·rename_i r AA hslot
   split at hz
   ·rename_i hc
    simp only [Bool.and_eq_true,beq_iff_eq] at hc
    obtain ⟨⟨hpl,hbox⟩,hver⟩:=hc
    split at hz
    ·rename_i vs hvs
     have hu:=h.AP t
     rw [hslot] at hu
     have hu:tm.getD t Go.undef = .pointer (some ⟨W.bk r,0,none⟩):=hu hbox hver
     obtain ⟨p1,p2,p3⟩:=H7 _ _ hvs
     have hroot:=h.roots r
     obtain ⟨hl,hb⟩:=hroot
     rw [if_pos hbox] at hb
     obtain ⟨hblk,arr,T0,fr,hcell,hfr,hsz,hcv⟩:=hb
     unfold Sm.plain at hpl
     simp only [Bool.and_eq_true] at hpl
     have hval:∀ pm∈sm.ps,∃ g ls,pm = .val g ls:=fun pm hpm=>by
      have:=List.all_eq_true.1 hpl.1 pm hpm
      cases pm with
      | val g ls=>exact ⟨g,ls,rfl⟩
      | _=>cases this
     have hnone:∀ k,om k=[]:=by
      intro k
      cases k with
      | fl n=>exact hin.fl n
      | AX i =>
       rw [hin.AX i]
       cases hq:sm.ps[i]? with
       | none=>rfl
       | some pm=>obtain ⟨g,ls,rfl⟩:=hval pm (List.mem_of_getElem? hq);rfl
      | lf i j =>
       refine hin.none i (fun ls hq => ?_) (fun g ls hq => ?_) j
       ·obtain ⟨g,ls,hh⟩:=hval _ (List.mem_of_getElem? hq);cases hh
       ·obtain ⟨g,ls,hh⟩:=hval _ (List.mem_of_getElem? hq);cases hh
     have hio:∀ b,¬ (∃ k,b∈om k):=fun b ⟨k,hb⟩=>by rw [hnone k] at hb;cases hb
     have hown:=h.sep.own (.AX r) (W.bk r) (by rw [hblk];simp)
     have hrun:=Gi (fn:=fn) (P:=P) (w:=W.w) (tm:=tm) (vals:=[tm.getD t Go.undef]) (by rw [hrv];exact ⟨rfl,trivial⟩)
     refine ⟨_,W.bk r,hrun, ?_⟩
     have hout:unpack sm.outs z=vs:=Ax _ _ _ hz
     exact {
      box:=by
       rw [hout]
       refine ⟨hu,p1,arr,T0,fr,hcell,hfr,by rw [hsz,p2];simp,fun j p lv hj hlv => ?_⟩
       have hlf:=p3 j lv hlv
       have hlj:=hl j
       rw [Ah,hlf] at hlj
       have hjl:j<arr.size:=by rw [hsz];exact (List.getElem?_eq_some_iff.1 hlf).1
       have harr:arr[j]? = some arr[j]:=Array.getElem?_eq_getElem hjl
       refine ⟨arr[j],harr, ?_⟩
       have hp:p.2=0:=by simpa using List.all_eq_true.1 hpl.2 p (List.mem_of_getElem? hj)
       rw [hp]
       exact hlj.2 _ (by rw [hcv j,harr])
      new:=⟨hown.2.2.elim id fun h=>(hio _ h).elim,hown.2.1,hown.1⟩
      fz:=fun x hx=>by
       obtain ⟨a1,a2⟩:=h.sep.fz x hx
       refine ⟨a1, ?_⟩
       rcases a2 with a2 | a2 | a2
       ·exact .inl a2
       ·exact .inr a2
       ·exact (hio _ a2).elim
      frame:=fun x hx=>h.sep.frame x hx (hio x)
      size:=h.sep.size
      rest:=h.sep.rest }
    ·cases hz
   ·cases hz
  ·cases hz
 ·cases hz
theorem OS {T:List (String×Array Value)} (hf:P.funcs[f]? = some fn) (hb:fn.body=some c) (hlen:sm.ps.length≤fn.ntmps) (hty:∀ t x,ty t=some x→Nc P t x) (henv:Km P T env) (hm:P.follows .mixedOrders=true) :
  K6 P T f ⟨sm,L9 ty env an n fn sm⟩:=by
 intro args w fz vss bk om x z hgnd hin hx hz
 have hz:L9 ty env an n fn sm x=some z:=hz
 have hu:unpack sm.ins x=vss.flatten:=Ax _ _ _ hx
 simp only [L9,hb,hu] at hz
 cases hp:C6 0 sm.ps vss.flatten with
 | none=>rw [hp] at hz;cases hz
 | some ws =>
  rw [hp] at hz
  dsimp only at hz
  split at hz
  ·cases hz
  ·rename_i hcode
   have hcode:codeOk fn.ntmps c=true:=by simpa using hcode
   refine calls_of_wp hf hb ?_
   have hrep:=ME (T:=T) hin hp hlen
   have hinv:=MD (N:=fn.ntmps) hin hp hlen
   have hcl:Claim P (Hf T sm.ps w fz args bk om) fn.ntmps an n (DP ty sm fn.results.toList vss.flatten) c:=(NB hm c).1
   have fin:∀ {s':St} {a':Act} {W':Wd} {z':sm.outs.D},a'.defers=[]→AW (Hf T sm.ps w fz args bk om) s' a'.tmps W'→Inv fn.ntmps s'→DP ty sm fn.results.toList vss.flatten s'=some z'→bodyPost P fn (fun en w'=>match sm.mk? with
     | false=>∃ r fz' om' rv vsR vsP,en = .returned r∧FR sm w fz args bk om z' r w' fz' om' rv vsR vsP
     | true=>∃ r fz' b,en = .returned r∧Lu sm w fz z' r w' fz' b) .ret a' W'.w:=by
    intro s' a' W' z' hd hr hi hq
    cases hmk:sm.mk? with
    | false =>
     obtain ⟨r,fz',om',rv,vsR,vsP,h1,h2⟩:=N8 (P:=P) (fn:=fn) hin hr (hi.AH.Hy (v:=s'.Bv) (Nat.lt_irrefl _) (by have:=hi.two;omega)) hty hmk hq
     exact ⟨hd,r,h1,r,fz',om',rv,vsR,vsP,rfl,h2⟩
    | true =>
     obtain ⟨r,b,h1,h2⟩:=N7 (P:=P) (fn:=fn) hin hr hmk hq
     exact ⟨hd,r,h1,r,W'.fz,b,rfl,h2⟩
   refine hcl (W:=Lo sm.ps w fz args bk om) (a:=⟨_,[]⟩) (Q:=bodyPost P fn _) ?_ (show DD P (Hf T sm.ps w fz args bk om) env from ⟨henv,hgnd⟩) hcode (fun _ _=>⟨rfl,rfl⟩) hrep hinv hz ?_ ?_ ?_
   ·exact hty
   ·intro s' a' W' hd hr hi hk hq
    exact fin hd hr hi hq
   ·intro id s' a' W' hd hr hi hk hq
    cases hq
   ·intro y s' a' W' hd hr hi hq hq2
    injection hq2 with hq2
    subst hq2
    exact fin hd hr hi hq
end
end Go.Ev
namespace Go.Ev
set_option linter.unusedVariables false
set_option linter.unusedSimpArgs false
mutual
def L.fit:(l:L)→l.D→Prop
 | .int k,x=>k.min≤(show Int from x)∧(show Int from x)≤k.max
 | .bool,_=>True
 | .str,x=>List.length (α:=UInt8) x≤maxLen
 | .sl _ e,x=>List.length (α:=e.D) x≤maxLen∧∀ y,List.Mem (α:=e.D) y x→e.fit y
def Ls.fit:(ls:Ls)→ls.D→Prop
 | .nil,_=>True
 | .one l,x=>l.fit x
 | .cons l ls,x=>l.fit x.1∧ls.fit x.2
end
theorem ML:∀ ls:List L,(Eu ls).n=ls.length
 | []=>rfl
 | [_]=>rfl
 | _::m::r=>by simp only [Eu,Ls.n,ML (m::r),List.length_cons]
theorem FK:∀ ls:List L,(Eu ls).kinds=ls
 | []=>rfl
 | [_]=>rfl
 | _::m::r=>by simp only [Eu,Ls.kinds,FK (m::r)]
mutual
theorem L.C4:∀ l:L,L.eq? l l=true
 | .int _=>by simp [L.eq?]
 | .bool=>rfl
 | .str=>rfl
 | .sl t e=>by simp [L.eq?,Ls.C4 e]
theorem Ls.C4:∀ e:Ls,Ls.eq? e e=true
 | .nil=>rfl
 | .one l=>by simp [Ls.eq?,L.C4 l]
 | .cons l ls=>by simp [Ls.eq?,L.C4 l,Ls.C4 ls]
end
theorem JN:∀ (e:Ls) (vs:List Lv),vs.map (·.l)=e.kinds→∃ x:e.D,pack e vs=some x∧((∀ (j:Nat) (lv:Lv),vs[j]? = some lv→lv.l.fit lv.x)→e.fit x)
 | .nil,[],_=>⟨(),rfl,fun _=>trivial⟩
 | .nil,_::_,h=>by simp [Ls.kinds] at h
 | .one l,[],h=>by simp [Ls.kinds] at h
 | .one l,[v],h=>by
  simp [Ls.kinds] at h
  subst h
  refine ⟨v.x, ?_,fun hf=>hf 0 v rfl⟩
  have he:L.eq? v.l v.l=true:=L.C4 v.l
  simp only [pack,L.cast,he,dif_pos]
  rfl
 | .one l,_::_::_,h=>by simp [Ls.kinds] at h
 | .cons l ls,[],h=>by simp [Ls.kinds] at h
 | .cons l ls,v::vs,h=>by
  simp only [Ls.kinds,List.map_cons,List.cons.injEq] at h
  obtain ⟨h1,h2⟩:=h
  subst h1
  obtain ⟨xs,hx,hf⟩:=JN ls vs h2
  have he:L.eq? v.l v.l=true:=L.C4 v.l
  refine ⟨(v.x,xs), ?_,fun hh=>⟨hh 0 v rfl,hf fun j lv hj=>hh (j+1) lv (by simpa using hj)⟩⟩
  simp only [pack,L.cast,he,dif_pos,hx]
def Jx (P:Program) (r:TypeId→Option (List L)):Nat→List Field→Option (List L)
 | _,[]=>some []
 | off,f::fs=>match f.offset==off,r f.type with
  | true,some ls=>match P.cellsOf f.type==ls.length,Jx P r (off+ls.length) fs with
   | true,some ms=>some (ls++ms)
   | _,_=>none
  | _,_=>none
def lay (P:Program):Nat→TypeId→Option (List L)
 | 0,_=>none
 | k+1,t=>match P.underlying t with
  | some .bool=>some [.bool]
  | some (.int k)=>some [.int k]
  | some .string=>some [.str]
  | some (.slice e)=>match lay P k e with
   | some ls=>match P.cellsOf e==ls.length,ls with
    | true,l::ls=>some [.sl e (Eu (l::ls))]
    | _,_=>none
   | none=>none
  | some (.struct fs)=>match Jx P (lay P k) 0 fs.toList with
   | some ls=>match P.cellsOf t==ls.length with
    | true=>some ls
    | false=>none
   | none=>none
  | _=>none
def Old (w:World) (b:Nat):Prop:=b<w.heap.size
section
variable {H:Type} {enc:TypeId×Value→H} {P:Program} {w:World} {base:Nat} {held:Bool}
def Holds (w:World) (ls:List L) (cs:List Value):Prop:=cs.length=ls.length∧∃ vs:List Lv,vs.map (·.l)=ls∧∀ (j:Nat) (lv:Lv),vs[j]? = some lv→∃ v,cs[j]? = some v∧lv.l.rd 0 w (Old w) v lv.x []∧lv.l.fit lv.x
theorem Holds.append {ls ms:List L} {cs ds:List Value} (h1:Holds w ls cs) (h2:Holds w ms ds):Holds w (ls++ms) (cs++ds):=by
 obtain ⟨a1,vs,a2,a3⟩:=h1
 obtain ⟨b1,us,b2,b3⟩:=h2
 have hl:vs.length=cs.length:=by have:=congrArg List.length a2;simp at this;omega
 refine ⟨by simp [a1,b1],vs++us,by simp [a2,b2],fun j lv hj => ?_⟩
 rcases Nat.lt_or_ge j vs.length with hlt | hge
 ·rw [List.getElem?_append_left hlt] at hj
  obtain ⟨v,hv,hr⟩:=a3 j lv hj
  exact ⟨v,by rw [List.getElem?_append_left (by omega)];exact hv,hr⟩
 ·rw [List.getElem?_append_right hge] at hj
  obtain ⟨v,hv,hr⟩:=b3 _ lv hj
  exact ⟨v,by rw [List.getElem?_append_right (by omega), ← hl];exact hv,hr⟩
theorem Holds.elem {e:Ls} {cs:List Value} (h:Holds w e.kinds cs):∃ x:e.D,e.rd 0 w (Old w) (fun j=>cs[j]?) x []∧e.fit x:=by
 obtain ⟨_,vs,h1,h2⟩:=h
 obtain ⟨x,hx,hf⟩:=JN e vs h1
 refine ⟨x,Bi e fun j lv hj => ?_,hf fun j lv hj => ?_⟩
 ·rw [Ax e vs x hx] at hj
  obtain ⟨v,hv,hr,_⟩:=h2 j lv hj
  exact ⟨v,hv,hr⟩
 ·obtain ⟨v,_,_,hf⟩:=h2 j lv hj
  exact hf
theorem Jy {r:TypeId→Option (List L)} {cs:List Value}:∀ (fs:List Field) (off:Nat) {ls:List L},Jx P r off fs=some ls→off+ls.length=cs.length →
  (∀ (i:Nat) (f:Field) (ms:List L),fs[i]? = some f→r f.type=some ms→Holds w ms ((cs.drop f.offset).take (P.cellsOf f.type)))→Holds w ls (cs.drop off)
 | [],off,ls,h,hl,hf=>by
  simp only [Jx,Option.some.injEq] at h
  subst h
  have:cs.drop off=[]:=by simp at hl;simp;omega
  rw [this]
  exact ⟨rfl,[],rfl,fun j lv hj=>by simp at hj⟩
 | f::fs,off,ls,h,hl,hf=>by
  simp only [Jx] at h
  split at h
  ·rename_i ls1 hoff hr
   have hoff:f.offset=off:=by simpa using hoff
   split at h
   ·rename_i ms hc hrest
    injection h with h
    subst h
    have hc:P.cellsOf f.type=ls1.length:=by simpa using hc
    have h1:=hf 0 f ls1 rfl hr
    rw [hoff,hc] at h1
    have h2:=Jy fs (off+ls1.length) hrest (by simp at hl ⊢;omega) fun i f' ms' hi hr'=>hf (i+1) f' ms' (by simpa using hi) hr'
    have:=h1.append h2
    rw [← List.drop_drop,List.take_append_drop] at this
    exact this
   ·cases h
  ·cases h
theorem Jj {a:Addr} {n i:Nat} {cs:List Value} (hn:0<n) (hs:a.spot=none) (h:w.cells? base (a.add (i * n)) n=some cs):cs.length=n∧∀ j,j<n→w.cell? ⟨a.block,a.off+(i * n+j),none⟩=cs[j]? := by
 obtain ⟨_,h1,h2⟩:=World.cells?_some h
 refine ⟨h1,fun j hj => ?_⟩
 rw [← h2 j hj,EH hs]
 have:(at_ a (i * n)).spot=none:=rfl
 rw [EH this]
 simp [at_,Nat.add_assoc]
theorem Li {a:Addr} {n:Nat} {cs:List Value} (hn:0<n) (h:w.cells? base (a.add (0 * n)) n=some cs):a.spot=none:=by
 obtain ⟨_,h1,h2⟩:=World.cells?_some h
 have:=h2 0 hn
 rw [show cs[0]? = some (cs[0]'(by omega)) from List.getElem?_eq_getElem _] at this
 simp only [Nat.zero_mul,Addr.add,if_pos] at this
 unfold World.cell? at this
 split at this
 ·cases hq:a.spot with
  | none=>rfl
  | some s=>simp [hq] at this
 ·cases this
theorem IJ:∀ (k:Nat) {t:TypeId} {ls:List L} {fuel:Nat} {cs:List Value} {x:DataW H×List MemPlace},lay P k t=some ls→DataW.trod enc P w base (fun _=>true) held fuel t cs=some x→Holds w ls cs
 | 0,t,ls,fuel,cs,x,h,hx=>by simp [lay] at h
 | k+1,t,ls,fuel,cs,x,h,hx=>by
  simp only [lay] at h
  split at h
  ·rename_i hu
   injection h with h;subst h
   obtain ⟨b,rfl,_⟩:=DataW.trod_bool hu hx
   refine ⟨rfl,[⟨.bool,show Bool from b⟩],rfl,fun j lv hj => ?_⟩
   cases j with
   | zero=>simp at hj;subst hj;exact ⟨_,rfl,⟨rfl,rfl⟩,trivial⟩
   | succ j=>simp at hj
  ·rename_i kk hu
   injection h with h;subst h
   obtain ⟨n,rfl,_,hw⟩:=DataW.trod_int hu hx
   refine ⟨rfl,[⟨.int kk,show Int from n⟩],rfl,fun j lv hj => ?_⟩
   cases j with
   | zero=>simp at hj;subst hj;exact ⟨_,rfl,⟨rfl,rfl⟩,by simpa [Lit.wf,L.fit] using hw⟩
   | succ j=>simp at hj
  ·rename_i hu
   injection h with h;subst h
   obtain ⟨s,rfl,_,hs⟩:=DataW.trod_string hu hx
   refine ⟨rfl,[⟨.str,show List UInt8 from s.data.toList⟩],rfl,fun j lv hj => ?_⟩
   cases j with
   | zero=>simp at hj;subst hj;exact ⟨_,rfl,⟨by simp,rfl⟩,by simpa [L.fit] using hs⟩
   | succ j=>simp at hj
  ·rename_i e hu
   split at h
   ·rename_i ls1 hl1
    split at h
    ·rename_i l ls2 hc
     injection h with h;subst h
     have hc:P.cellsOf e=(l::ls2).length:=by simpa using hc
     let E:Ls:=Eu (l::ls2)
     have hEn:E.n=P.cellsOf e:=by rw [hc];exact ML _
     have hEk:E.kinds=l::ls2:=FK _
     have hpos:0<P.cellsOf e:=by rw [hc];simp
     rcases DataW.trod_slice hu hx with ⟨rfl,_⟩ | ⟨a,len,cap,elems,rest,n,rfl,rfl,_,hb,hle,hcap,hel,h1,h2,_⟩
     ·refine ⟨rfl,[⟨.sl e E,([]:List E.D)⟩],rfl,fun j lv hj => ?_⟩
      cases j with
      | zero=>simp at hj;subst hj;exact ⟨_,rfl,Bz,by simp [L.fit],fun y hy=>by cases hy⟩
      | succ j=>simp at hj
     ·have all:∀ i,i<cap→∃ cs' y,w.cells? base (a.add (i * P.cellsOf e)) (P.cellsOf e)=some cs'∧DataW.trod enc P w base (fun _=>true) held n e cs'=some y:=by
       intro i hi
       obtain ⟨h3,h4⟩:=h2 rfl
       rcases Nat.lt_or_ge i len with hlt | hge
       ·have:=h1 i hlt
        rw [List.getElem?_eq_getElem (show i<elems.length by omega)] at this
        obtain ⟨cs',q1,q2⟩:=Option.bind_eq_some_iff.1 this
        exact ⟨cs',_,q1,q2⟩
       ·have:=h4 (i - len) (by omega)
        rw [List.getElem?_eq_getElem (show i - len<rest.length by omega),show len+(i - len)=i by omega] at this
        obtain ⟨cs',q1,q2⟩:=Option.bind_eq_some_iff.1 this
        exact ⟨cs',_,q1,q2⟩
      have elem:a.spot=none→∀ i,i<cap→∃ y:E.D,E.rd 0 w (Old w) (fun j=>w.cell? ⟨a.block,a.off+(i * E.n+j),none⟩) y []∧E.fit y:=by
       intro hs i hi
       obtain ⟨cs',y,q1,q2⟩:=all i hi
       have hh:=IJ k hl1 q2
       rw [← hEk] at hh
       obtain ⟨z,hz,hf⟩:=hh.elem
       obtain ⟨c1,c2⟩:=Jj hpos hs q1
       exact ⟨z,Ls.BE E hz fun j hj=>by rw [hEn];exact c2 j (by omega),hf⟩
      refine ⟨rfl, ?_⟩
      by_cases hc0:cap=0
      ·have hl0:len=0:=by omega
       subst hl0;subst hc0
       refine ⟨[⟨.sl e E,([]:List E.D)⟩],rfl,fun j lv hj => ?_⟩
       cases j with
       | zero=>simp at hj;subst hj;exact ⟨_,rfl,⟨some a,0,rfl,Nat.le_refl _, .inl ⟨rfl,rfl,rfl⟩⟩,by simp [L.fit],fun y hy=>by cases hy⟩
       | succ j=>simp at hj
      ·obtain ⟨cs0,y0,q0,_⟩:=all 0 (by omega)
       have hs:=Li hpos q0
       have hy:=elem hs
       let F:Nat→E.D:=fun i=>if hi:i<cap then (hy i hi).choose else FQ E
       have hF:∀ i,i<cap→E.rd 0 w (Old w) (fun j=>w.cell? ⟨a.block,a.off+(i * E.n+j),none⟩) (F i) []∧E.fit (F i):=by
        intro i hi
        simp only [F,dif_pos hi]
        exact (hy i hi).choose_spec
       obtain ⟨csl,yl,ql,_⟩:=all (cap - 1) (by omega)
       obtain ⟨l1,l2⟩:=Jj hpos hs ql
       have hlast:=l2 (P.cellsOf e - 1) (by omega)
       rw [List.getElem?_eq_getElem (show P.cellsOf e - 1<csl.length by omega)] at hlast
       have hoff:a.off+((cap - 1) * P.cellsOf e+(P.cellsOf e - 1))=a.off+cap * P.cellsOf e - 1:=by
        have:cap * P.cellsOf e=(cap - 1) * P.cellsOf e+P.cellsOf e:=by
         rw [← Nat.succ_mul];congr 1;omega
        omega
       rw [hoff] at hlast
       have hblk:∃ arr T fr,w.heap[a.block]? = some (.cells arr T fr)∧a.off+cap * P.cellsOf e≤arr.size:=by
        unfold World.cell? at hlast
        split at hlast
        ·rename_i arr T fr hh
         refine ⟨arr,T,fr,hh, ?_⟩
         simp only [Option.isSome_none,Bool.false_eq_true,if_false] at hlast
         have hlt:=(Array.getElem?_eq_some_iff.1 hlast).1
         have:0<cap * P.cellsOf e:=Nat.mul_pos (by omega) hpos
         omega
        ·cases hlast
       obtain ⟨arr,T,fr,hh,hsz⟩:=hblk
       let xs:List E.D:=(List.range len).map F
       have hxl:xs.length=len:=by simp [xs]
       have hxg:∀ i (hi:i<xs.length),xs[i]=F i:=fun i hi=>by simp [xs]
       refine ⟨[⟨.sl e E,xs⟩],rfl,fun j lv hj => ?_⟩
       cases j with
       | succ j=>simp at hj
       | zero =>
        simp at hj;subst hj
        refine ⟨_,rfl,⟨some a,cap,by rw [hxl],by show xs.length≤cap;omega, .inr ⟨fun j=>arr[a.off+j]?,fun _=>[],⟨hs,arr,T,fr,hh,by rw [hEn];exact hsz,fun h=>by simp at h,fun j=>rfl⟩,fun i hi => ?_, ?_⟩⟩, ?_,fun y hy => ?_⟩
        ·have hi:i<xs.length:=hi
         show E.rd 0 w (Old w) _ xs[i] []
         rw [hxg i hi]
         have:=(hF i (by omega)).1
         refine Ls.BE E this fun j hj => ?_
         simp [World.cell?,hh]
        ·exact ⟨(Array.getElem?_eq_some_iff.1 hh).1,rfl,fun _ _=>rfl⟩
        ·show xs.length≤maxLen
         omega
        ·have hy:y∈xs:=hy
         obtain ⟨i,hi,rfl⟩:=List.mem_map.1 hy
         exact (hF i (by have:=List.mem_range.1 hi;omega)).2
    ·cases h
   ·cases h
  ·rename_i fs hu
   split at h
   ·rename_i ls1 hl1
    split at h
    ·rename_i hc
     injection h with h;subst h
     have hc:P.cellsOf t=ls1.length:=by simpa using hc
     obtain ⟨xs,n,rfl,_,hlen,hxl,hget⟩:=DataW.trod_struct hu hx
     have:=Jy (w:=w) (cs:=cs) fs.toList 0 hl1 (by omega) fun i f ms hi hr=>by
      have hi':fs[i]? = some f:=by simpa using hi
      have hlt:i<xs.length:=by rw [hxl];exact (Array.getElem?_eq_some_iff.1 hi').1
      have hg:=hget i f hi'
      rw [List.getElem?_eq_getElem hlt] at hg
      exact IJ k hr hg
     simpa using this
    ·cases h
   ·cases h
  ·cases h
end
end Go.Ev
namespace Go.Ev
open Go.ChangeShapes Go.RowKit
set_option linter.unusedVariables false
set_option linter.unusedSimpArgs false
def G8 (P:Program) (t:TypeId):Bool:=match P.underlying t with
 | some (.struct _)=>true
 | _=>false
def IN (P:Program):List TypeId→Option (List PM)
 | []=>some []
 | t::ts=>match lay P 12 t,IN P ts with
  | some ls,some ps=>some (.val (G8 P t) ls::ps)
  | _,_=>none
def JQ (P:Program) (ts:List TypeId):Bool:=ts.all fun t=>P.readableRec t&&decide (t<P.types.size)
section
variable {H:Type} {enc:TypeId×Value→H} {P:Program} {w:World} {base base':Nat} {held:Bool}
theorem J7 {t:TypeId} {v:Value} {ls:List L} {r:Reach} (h:Value.okWide P w r base t v) (hl:lay P 12 t=some ls) (ha:G8 P t=false):v.cells = #[v]∧ls.length=1:=by
 unfold lay at hl
 unfold G8 at ha
 unfold Value.okWide Cell.okWide Cell.ok at h
 split at hl
 ·rename_i hu;rw [hu] at h;injection hl with hl;subst hl
  cases v <;> first | exact ⟨rfl,rfl⟩ | exact h.elim
 ·rename_i hu;rw [hu] at h;injection hl with hl;subst hl
  cases v <;> first | exact ⟨rfl,rfl⟩ | exact h.elim
 ·rename_i hu;rw [hu] at h;injection hl with hl;subst hl
  cases v <;> first | exact ⟨rfl,rfl⟩ | exact h.elim
 ·rename_i hu
  rw [hu] at h
  split at hl
  ·split at hl
   ·injection hl with hl;subst hl
    cases v <;> first | exact ⟨rfl,rfl⟩ | exact h.elim
   ·cases hl
  ·cases hl
 ·rename_i hu;rw [hu] at ha;cases ha
 ·cases hl
theorem K7 {t:TypeId} {v:Value} {r:Reach} (h:Value.okWide P w r base t v) (ha:G8 P t=true):∃ cs,v = .agg cs:=by
 unfold G8 at ha
 unfold Value.okWide at h
 split at ha
 ·rename_i hu;rw [hu] at h;obtain ⟨cs,h,_⟩:=h;exact ⟨cs,h⟩
 ·cases ha
theorem Kn:∀ {ts:List TypeId} {vs:List Value} {ds:List (DataW H)} {p:List MemPlace} {pms:List PM},DataW.TrodAll enc P w base (fun _=>true) held ts vs ds p →
  (∀ (j:Nat) t v,ts[j]? = some t→vs[j]? = some v→Value.okWide P w .any base' t v)→IN P ts=some pms →
  vs.length=pms.length∧ds.length=ts.length∧∃ vss:List (List Lv),vss.length=pms.length∧vss.flatten.map (·.l)=pms.flatMap PM.ins∧(∀ (j:Nat) (lv:Lv),vss.flatten[j]? = some lv→lv.l.fit lv.x) ∧
   ∀ (i:Nat) (pm:PM) (u:Value) (xs:List Lv),pms[i]? = some pm→vs[i]? = some u→vss[i]? = some xs→Mx w (Old w) pm u xs 0 (fun _=>[])∧∃ g ls,pm = .val g ls
 | [],[],[],p,pms,h,hv,hp=>by
  simp only [IN,Option.some.injEq] at hp
  subst hp
  exact ⟨rfl,rfl,[],rfl,rfl,(fun j lv hj=>by simp at hj),fun i pm u xs hi=>by simp at hi⟩
 | t::ts,v::vs,d::ds,p,pms,h,hv,hp=>by
  obtain ⟨p1,p2,⟨fuel,h1⟩,h2,_⟩:=h
  simp only [IN] at hp
  split at hp
  ·rename_i ls ps hl hps
   injection hp with hp;subst hp
   obtain ⟨a1,a2,vss,a3,a4,a5,a6⟩:=Kn h2 (fun j t v ht hv'=>hv (j+1) t v (by simpa using ht) (by simpa using hv')) hps
   have hok:=hv 0 t v rfl rfl
   obtain ⟨hlen,us,b1,b2⟩:=IJ 12 hl h1
   have hul:us.length=ls.length:=by have:=congrArg List.length b1;simpa using this
   refine ⟨by simp [a1],by simp [a2],us::vss,by simp [a3],by simp [a4,b1,PM.ins],fun j lv hj => ?_,fun i pm u xs hi hu hx => ?_⟩
   ·rw [List.flatten_cons] at hj
    rcases Nat.lt_or_ge j us.length with hlt | hge
    ·rw [List.getElem?_append_left hlt] at hj
     obtain ⟨_,_,_,hf⟩:=b2 j lv hj
     exact hf
    ·rw [List.getElem?_append_right hge] at hj
     exact a5 _ lv hj
   ·cases i with
    | succ i=>exact a6 i pm u xs (by simpa using hi) (by simpa using hu) (by simpa using hx)
    | zero =>
     simp at hi hu hx
     subst hi;subst hu;subst hx
     refine ⟨⟨by simp [b1,Function.comp_def], ?_,fun j p lv hj hlv => ?_⟩,_,_,rfl⟩
     ·cases hag:G8 P t with
      | true =>
       obtain ⟨cs,rfl⟩:=K7 hok hag
       exact ⟨cs,rfl,by simpa [Value.cells] using hlen⟩
      | false =>
       have:=(J7 hok hl hag).2
       simpa using this
     ·obtain ⟨y,hy,hr,_⟩:=b2 j lv hlv
      have hp2:p.2=0:=by
       simp only [List.getElem?_map] at hj
       cases hq:ls[j]? with
       | none=>rw [hq] at hj;cases hj
       | some l=>rw [hq] at hj;injection hj with hj;rw [← hj]
      rw [hp2]
      refine ⟨y, ?_,hr⟩
      cases hag:G8 P t with
      | true =>
       show v.cells[j]? = some y
       rw [← hy];simp
      | false =>
       obtain ⟨q1,q2⟩:=J7 hok hl hag
       rw [q1] at hy
       cases j with
       | zero=>simp at hy;subst hy;rfl
       | succ j=>simp at hy
  ·cases hp
 | [],_::_,_,_,_,h,_,_=>by cases h
 | [],[],_::_,_,_,h,_,_=>by cases h
 | _::_,[],_,_,_,h,_,_=>by cases h
 | _::_,_::_,[],_,_,h,_,_=>by cases h
theorem E7 (hl:laidOutB P=true) {W W':World} (hb:Below W.heap.size W W'):∀ {ts:List TypeId} {vs:List Value} {ds:List (DataW H)} {p:List MemPlace},JQ P ts=true →
  DataW.TrodAll enc P W 0 (fun _=>true) true ts vs ds p→(∀ x∈p,x.block<W.heap.size)→DataW.TrodAll enc P W' 0 (fun b=>decide (b<W.heap.size)) true ts vs ds p
 | [],[],[],p,hr,h,hlt=>h
 | t::ts,v::vs,d::ds,p,hr,h,hlt=>by
  obtain ⟨p1,p2,h1,h2,rfl⟩:=h
  simp only [JQ,List.all_cons,Bool.and_eq_true,decide_eq_true_eq] at hr
  exact ⟨p1,p2,Below.trod hl hr.1.1 hr.1.2 h1 hb (fun x hx=>hlt x (List.mem_append_left _ hx)),E7 hl hb (by simpa [JQ] using hr.2) h2 (fun x hx=>hlt x (List.mem_append_right _ hx)),rfl⟩
 | [],_::_,_,_,_,h,_=>by cases h
 | [],[],_::_,_,_,h,_=>by cases h
 | _::_,[],_,_,_,h,_=>by cases h
 | _::_,_::_,[],_,_,h,_=>by cases h
end
theorem Mh {w:World} {fz:Nat→Prop} {om:Nat→List Nat} {g:Bool} {ls:List (L×Nat)}:∀ {rv:List Value} {vsR:List (List Lv)} {off:Nat},EE w fz om [(g,ls)] rv vsR off→∃ u vs,rv=[u]∧vsR=[vs]∧Gl w fz g ls u vs (fun j=>om (off+j))
 | [u],[vs],_,h=>⟨u,vs,rfl,rfl,h.1⟩
 | [],_,_,h=>h.elim
 | _::_,[],_,h=>h.elim
 | [_],_::_::_,_,h=>h.2.elim
 | _::_::_,[_],_,h=>h.2.elim
 | _::_::_,_::_::_,_,h=>h.2.elim
theorem Ov {H:Type} {enc:TypeId×Value→H} {C:Checked} {os:Os} {f:FuncId} {fn:Func} {s:ChangeSpec} {conds:List PathCond}
  (own:ownKnob C.prog.godebug=none) (started:os.Started) (noInit:C.prog.inits.idxOf? f=none) (hfn:C.prog.funcs[f]? = some fn)
  (witness:∃ (w:World) (tape:Tape) (i:Input),w.os=os∧(w.forCall tape i).Shaped C.prog∧i.vars=[]∧Input.okWide C.prog (w.forCall tape i) .any w.heap.size f i ∧
   s.pre6 enc C.prog fn conds false (w.forCall tape i).memory i.args∧({}:Assume).holds C.prog (lone (Frame.enter C.prog f i.args .normal) [] (w.forCall tape i)))
  {sm:Sm} {F:Nat→sm.ins.D→Option sm.outs.D} (hok:∀ n,K6 C.prog [] f ⟨sm,F n⟩) (hps:IN C.prog fn.params.toList=some sm.ps) (hrs:sm.rs=[(false,[(.bool,0)])])
  {tb:TypeId} (hres:fn.resultTypes = #[tb]) (htb:C.prog.underlying tb=some .bool) (hvars:s.vars=[]) (hreads:JQ C.prog fn.params.toList=true) (hlaid:laidOutB C.prog=true)
  (hspec:∀ (ds:List (DataW H)),ds.length=fn.params.toList.length→s.fn H ds={results:=[.lit (.bool true)],args:=ds })
  (pure:∀ x:sm.ins.D,sm.ins.fit x→∃ n z,F n x=some z∧unpack sm.outs z=[⟨.bool,(show Bool from true)⟩]) :
  ReturnsInHanded {} C os f .any (s.pre6 enc C.prog fn conds false) (s.post enc C.prog fn false true false false):=by
 refine returnsInHanded_of_change_sized own started noInit hfn witness ?_
 intro W base args ds gs before hval hW _ _ _
 have hW':=hW
 obtain ⟨p,q,hA,hV,rfl,hfz,hnd⟩:=hW
 rw [hvars] at hV
 obtain ⟨rfl,rfl⟩:=trodVars_none hV
 obtain ⟨a1,a2,vss,a3,a4,a5,a6⟩:=Kn hA (fun j t v ht hv=>hval j t v (by simpa using ht) (by simpa using hv)) hps
 have hkin:vss.flatten.map (·.l)=sm.ins.kinds:=by rw [a4];exact (FK _).symm
 obtain ⟨x,hx,hfit⟩:=JN sm.ins vss.flatten hkin
 obtain ⟨n,z,hz,hzu⟩:=pure x (hfit a5)
 have hin:EC sm.ps W (Old W) args.toList vss (fun _=>0) (fun _=>[]):={
  len:=a1
  Bx:=a3
  each:=fun i pm u xs h1 h2 h3=>(a6 i pm u xs h1 h2 h3).1
  AX:=fun i=>by
   cases hq:sm.ps[i]? with
   | none=>rfl
   | some pm =>
    have hlt:=(List.getElem?_eq_some_iff.1 hq).1
    obtain ⟨_,g,ls,rfl⟩:=a6 i pm _ _ hq (List.getElem?_eq_getElem (by omega)) (List.getElem?_eq_getElem (by omega))
    rfl
  none:=fun i _ _ j=>rfl
  box:=fun i ls _ j _=>rfl
  row:=fun i g ls _ j _=>rfl
  fl:=fun k=>rfl
  nodup:=fun k=>List.nodup_nil
  A6:=fun k k' _ b hb=>by cases hb
  own:=fun k b hb=>by cases hb
  fz:=fun b hb=>hb }
 have hcall:=hok n args.toList W (Old W) vss _ _ x z (fun _ h=>by cases h) hin hx hz
 have hmk:sm.mk? = false:=by unfold Sm.mk?;rw [hrs]
 have hmk:(Mz.mk sm (F n)).s.mk? = false:=hmk
 rw [hmk] at hcall
 rw [Array.toArray_toList] at hcall
 refine hcall.mono ?_
 rintro en W' ⟨r,fz',om',rv,vsR,vsP,rfl,co⟩
 have hout:=co.outs
 have hres1:=co.Mf
 rw [hrs] at hres1
 obtain ⟨u,vs,rfl,rfl,b1,_,b2⟩:=Mh hres1
 have hvl:vs.length=1:=by have:=congrArg List.length b1;simpa using this
 obtain ⟨lv,rfl⟩:∃ lv,vs=[lv]:=by
  match vs,hvl with
  | [x],_=>exact ⟨x,rfl⟩
 obtain ⟨l0,x0⟩:=lv
 have hl0:l0 = .bool:=by simpa using b1
 subst hl0
 obtain ⟨y,hy,hr⟩:=b2 0 (.bool,0) ⟨.bool,x0⟩ rfl rfl
 have hyu:u=y:=by simpa [A7] using hy
 subst hyu
 have hzu:unpack sm.outs z=[⟨.bool,(show Bool from true)⟩]:=hzu
 have hout:unpack sm.outs z=_:=hout
 rw [hzu] at hout
 simp only [List.flatten_cons,List.flatten_nil,List.append_nil,List.cons_append,List.nil_append,List.cons.injEq] at hout
 have hx0:x0=(show Bool from true):=by
  have:=hout.1
  injection this with _ h2
  exact h2.symm
 subst hx0
 have hu:u = .bool true:=hr.1
 subst hu
 have hrr:r = .bool true:=co.res
 subst hrr
 have hbelow:Below W.heap.size W W':=⟨co.rest.1,co.rest.2.1,co.rest.2.2,co.size,fun k hk=>co.frame k hk fun _ hb=>by cases hb⟩
 have hlt:∀ y∈p,y.block<W.heap.size:=fun y hy=>hW'.lt y (by simpa using hy)
 refine ⟨_,rfl,ds,[],_,[],p,[],hW', ?_, ?_, ?_,hbelow.frame _,fun h=>by cases h⟩
 ·rw [List.append_nil,hspec ds a2,hres]
  exact trodAll_mk1 (shut_bool htb _)
 ·rw [List.append_nil,hspec ds a2]
  exact E7 hlaid hbelow hreads hA hlt
 ·rw [List.append_nil,hspec ds a2,hvars]
  rfl
end Go.Ev
namespace Go.Ev
set_option linter.unusedVariables false
set_option linter.unusedSimpArgs false
def find {α:Type}:List (Nat×α)→Nat→Option α
 | [],_=>none
 | (k,x)::r,t=>match Nat.beq k t with
  | true=>some x
  | false=>find r t
theorem Jp {α:Type}:∀ {l:List (Nat×α)} {t:Nat} {x:α},find l t=some x→(t,x)∈l
 | [],t,x,h=>by cases h
 | (k,y)::r,t,x,h=>by
  unfold find at h
  split at h
  ·rename_i hk
   have:k=t:=Nat.eq_of_beq_eq_true hk
   injection h with h;subst h;subst this;exact List.mem_cons_self
  ·exact List.mem_cons_of_mem _ (Jp h)
def Ot:L→Value→Bool
 | .int k, .int k' n=>IntKind.code k==IntKind.code k'&&n==0
 | .bool, .bool b => !b
 | .str, .string s=>s.size==0
 | .sl _ _, .slice none l c=>l==0&&c==0
 | _,_=>false
theorem Nw {l:L} {v:Value} (h:Ot l v=true):v=CJ l:=by
 unfold Ot at h
 split at h
 ·simp only [Bool.and_eq_true,beq_iff_eq] at h
  obtain ⟨h1,rfl⟩:=h
  rw [IntKind.EM h1];rfl
 ·simp at h;subst h;rfl
 ·rename_i s
  have:s = .empty:=ByteArray.size_eq_zero_iff.1 (by simpa using h)
  subst this;rfl
 ·simp only [Bool.and_eq_true,beq_iff_eq] at h
  obtain ⟨rfl,rfl⟩:=h;rfl
 ·cases h
def K8:List L→List Value→Bool
 | [],[]=>true
 | l::ls,v::vs=>Ot l v&&K8 ls vs
 | _,_=>false
theorem Gt:∀ {ls:List L} {vs:List Value},K8 ls vs=true→vs=ls.map CJ
 | [],[],_=>rfl
 | l::ls,v::vs,h=>by
  simp only [K8,Bool.and_eq_true] at h
  rw [Nw h.1,Gt h.2];rfl
 | [],_::_,h=>by cases h
 | _::_,[],h=>by cases h
def Om (P:Program) (t:TypeId) (e:Ls):Bool:=decide (0<e.n)&&match P.info? t with
 | some i=>i.size==e.n&&decide (i.bytes≤1024)&&match i.zero with
  | some z=>K8 e.kinds z.cells.toList
  | none=>false
 | none=>false
theorem Nr {P:Program} {t:TypeId} {e:Ls} (h:Om P t e=true):Lr P t e:=by
 unfold Om at h
 simp only [Bool.and_eq_true,decide_eq_true_eq] at h
 obtain ⟨hp,h⟩:=h
 split at h
 ·rename_i i hi
  simp only [Bool.and_eq_true,decide_eq_true_eq,beq_iff_eq] at h
  obtain ⟨⟨h1,h2⟩,h⟩:=h
  split at h
  ·rename_i z hz
   exact ⟨⟨i,hi,h1,h2,z,hz,by rw [← Gt h]⟩,hp⟩
  ·cases h
 ·cases h
def Io (P:Program) (t:TypeId):L→Bool
 | .int k=>match P.underlying t with
  | some (.int k')=>IntKind.code k==IntKind.code k'
  | _=>false
 | .bool=>match P.underlying t with
  | some .bool=>true
  | _=>false
 | .str=>match P.underlying t with
  | some .string=>true
  | _=>false
 | .sl t' e=>(match P.underlying t with
  | some (.slice t'')=>t'==t''
  | _=>false)&&Om P t' e
theorem MI {P:Program} {t:TypeId} {l:L} (h:Io P t l=true):GK P t l:=by
 cases l with
 | int k =>
  simp only [Io] at h
  split at h
  ·rename_i k' hk
   have:=IntKind.EM (by simpa using h:IntKind.code k=IntKind.code k')
   subst this;exact hk
  ·cases h
 | bool =>
  simp only [Io] at h
  split at h
  ·assumption
  ·cases h
 | str =>
  simp only [Io] at h
  split at h
  ·assumption
  ·cases h
 | sl t' e =>
  simp only [Io,Bool.and_eq_true] at h
  obtain ⟨h1,h2⟩:=h
  split at h1
  ·rename_i t'' ht
   have:t'=t'':=by simpa using h1
   subst this
   exact ⟨ht,Nr h2⟩
  ·cases h1
def Gw:List Field→List (Nat×TypeId)→Bool
 | [],[]=>true
 | f::fs,(o,t)::r=>f.offset==o&&f.type==t&&Gw fs r
 | _,_=>false
theorem Hh:∀ {fs:List Field} {r:List (Nat×TypeId)},Gw fs r=true→fs.map (fun f=>(f.offset,f.type))=r
 | [],[],_=>rfl
 | f::fs,(o,t)::r,h=>by
  simp only [Gw,Bool.and_eq_true,beq_iff_eq] at h
  rw [List.map_cons,h.1.1,h.1.2,Hh h.2]
 | [],_::_,h=>by cases h
 | _::_,[],h=>by cases h
def G3 (P:Program):List Field→Bool
 | []=>true
 | f::fs=>(P.info? f.type).isSome&&G3 P fs
theorem H5 {P:Program}:∀ {fs:List Field},G3 P fs=true→∃ pl,fs.mapM (fun f=>(P.info? f.type).map fun i=>(f.offset,i.size))=some pl
 | [],_=>⟨[],rfl⟩
 | f::fs,h=>by
  simp only [G3,Bool.and_eq_true] at h
  obtain ⟨pl,hpl⟩:=H5 h.2
  obtain ⟨i,hi⟩:=Option.isSome_iff_exists.1 h.1
  exact ⟨(f.offset,i.size)::pl,by simp [List.mapM_cons,hi,hpl]⟩
def H6 (P:Program) (t:TypeId):L→Bool
 | .int k=>match P.underlying t with
  | some (.int k')=>IntKind.code k==IntKind.code k'
  | _=>false
 | .bool=>match P.underlying t with
  | some .bool=>true
  | _=>false
 | .str=>match P.underlying t with
  | some .string=>true
  | _=>false
 | .sl _ _=>false
theorem La {P:Program} {t:TypeId} {l:L} (h:H6 P t l=true):I3 P t l:=by
 cases l with
 | int k =>
  simp only [H6] at h
  split at h
  ·rename_i k' hk
   have:=IntKind.EM (by simpa using h:IntKind.code k=IntKind.code k')
   subst this;exact hk
  ·cases h
 | bool =>
  simp only [H6] at h
  split at h
  ·assumption
  ·cases h
 | str =>
  simp only [H6] at h
  split at h
  ·assumption
  ·cases h
 | sl t' e=>cases h
def Ic (P:Program):Nat→List Field→List L→Bool
 | _,[],[]=>true
 | n, f :: fs, l :: ls => f.name != "_" && f.offset == n && H6 P f.type l && Ic P (n + 1) fs ls
 | _,_,_=>false
theorem Jl {P:Program}:∀ {n:Nat} {fs:List Field} {ls:List L},Ic P n fs ls=true→Gs P n fs ls
 | _,[],[],_=>trivial
 | n,f::fs,l::ls,h=>by
  simp only [Ic,Bool.and_eq_true,beq_iff_eq,bne_iff_ne,ne_eq] at h
  obtain ⟨⟨⟨h1,h2⟩,h3⟩,h4⟩:=h
  exact ⟨h1,h2,La h3,Jl h4⟩
 | _,[],_::_,h=>by simp [Ic] at h
 | _,_::_,[],h=>by simp [Ic] at h
def On (P:Program) (t:TypeId) (ls:List L):Bool := !P.stoodInHeld t && !P.eqGuardType P.depth t&&match P.underlying t with
 | some (.struct fs)=>Ic P 0 fs.toList ls
 | _=>false
theorem Nt {P:Program} {t:TypeId} {ls:List L} (h:On P t ls=true):Ox P t ls:=by
 unfold On at h
 simp only [Bool.and_eq_true,Bool.not_eq_true'] at h
 obtain ⟨⟨h1,h2⟩,h3⟩:=h
 split at h3
 ·rename_i fs hfs
  exact ⟨h1,h2,fs,hfs,Jl h3⟩
 ·cases h3
def Oi (P:Program) (t:TypeId) (ty:Ty):Bool:=(match ty.eq with
 | true=>On P t ty.ls.kinds
 | false=>true)&&((match P.info? t with
  | some i=>i.size==ty.ls.n&&match i.zero with
   | some z=>match ty.agg with
    | true=>match z with
     | .agg cs=>K8 ty.ls.kinds cs.toList
     | _=>false
    | false=>K8 ty.ls.kinds z.cells.toList
   | none=>false
  | none=>false) &&
 match ty.agg with
 | true=>match P.underlying t with
  | some (.struct fs)=>Gw fs.toList ty.fs&&G3 P fs.toList
  | _=>false
 | false=>match ty.ls with
  | .one l=>Io P t l
  | _=>false)
theorem OH {P:Program} {t:TypeId} {ty:Ty} (h:Oi P t ty=true):Nc P t ty:=by
 unfold Oi at h
 rw [Bool.and_eq_true] at h
 obtain ⟨h0,h⟩:=h
 simp only [Bool.and_eq_true] at h
 obtain ⟨h1,h2⟩:=h
 refine ⟨?_,fun ha => ?_,fun ha => ?_,fun he=>by rw [he] at h0;exact Nt h0⟩
 ·split at h1
  ·rename_i i hi
   simp only [Bool.and_eq_true,beq_iff_eq] at h1
   obtain ⟨hs,h1⟩:=h1
   split at h1
   ·rename_i z hz
    refine ⟨i,hi,hs,z,hz, ?_⟩
    split at h1
    ·rename_i ha
     split at h1
     ·rename_i cs
      have hc:cs=(ty.ls.kinds.map CJ).toArray:=by rw [← Gt h1]
      exact ⟨hc, .inl (by rw [hc])⟩
     ·cases h1
    ·rename_i ha
     exact ⟨by rw [← Gt h1], .inr ha⟩
   ·cases h1
  ·cases h1
 ·rw [ha] at h2
  dsimp only at h2
  split at h2
  ·rename_i fs hfs
   simp only [Bool.and_eq_true] at h2
   exact ⟨fs,hfs,Hh h2.1,H5 h2.2⟩
  ·cases h2
 ·rw [ha] at h2
  dsimp only at h2
  split at h2
  ·rename_i l hl;exact ⟨l,hl,MI h2⟩
  ·cases h2
theorem Mq {P:Program} {tbl:List (Nat×Ty)} (h:tbl.all (fun p=>Oi P p.1 p.2)=true):∀ t x,find tbl t=some x→Nc P t x :=
 fun t x hx=>OH (List.all_eq_true.1 h _ (Jp hx))
def Mw (P : Program) (f : FuncId) : Prop := ∃ (fn : Func) (c : Code), P.funcs[f]? = some fn ∧ fn.body = some c ∧ (fn.name == "runtime.NumGoroutine") = false
theorem Oc {P:Program} {T:List (String×Array Value)}:JX P T (find []):=fun f g h=>by cases h
theorem OQ {P:Program} {T:List (String×Array Value)} {f:FuncId} {g:Mz} {l:List (FuncId×Mz)} (h:K6 P T f g) (hb:Mw P f) (hl:JX P T (find l)):JX P T (find ((f,g)::l)):=by
 intro f' g' h'
 unfold find at h'
 split at h'
 ·rename_i hk
  have:f=f':=Nat.eq_of_beq_eq_true hk
  subst this
  injection h' with h';subst h'
  exact ⟨h,hb⟩
 ·exact hl f' g' h'
def plain (l:List (FuncId×Mz)):Env:=⟨find l,fun _ _=>none,fun _=>false⟩
theorem OI {P:Program} {T:List (String×Array Value)} {l:List (FuncId×Mz)} (h:JX P T (find l)):Km P T (plain l):=⟨h,(fun _ _ _ h=>by cases h),(fun _ h=>by cases h)⟩
def Oh (l:List (FuncId×Mz)) (f g:FuncId) (σ:ON) (ts:List TypeId):Env:=⟨find l,fun f' g'=>if f'==f&&g'==g then some σ else none,fun t=>has ts t⟩
theorem Oe {P:Program} {T:List (String×Array Value)} {f:FuncId} {sm:Sm}:K6 P T f ⟨sm,fun _=>none⟩:=by
 intro args w fz vss bk om x z hg hin hx hz
 cases hz
theorem OJ {P:Program} {T:List (String×Array Value)} {tbl:List (Nat×Ty)} {l:Env} {an:An} {n:Nat} {sm:Sm} {fn:Func} {f:FuncId} {c:Code} {F:sm.ins.D→Option sm.outs.D}
  (hf:P.funcs[f]? = some fn) (hb:fn.body=some c) (hlen:decide (sm.ps.length≤fn.ntmps)=true) (ht:tbl.all (fun p=>Oi P p.1 p.2)=true) (hl:Km P T l) (hm:P.follows .mixedOrders=true)
  (hF:∀ x,L9 (find tbl) l an n fn sm x=F x):K6 P T f ⟨sm,F⟩:=by
 have h:=OS (an:=an) (n:=n) (sm:=sm) hf hb (of_decide_eq_true hlen) (Mq ht) hl hm
 have:L9 (find tbl) l an n fn sm=F:=funext hF
 rw [this] at h
 exact h
end Go.Ev
