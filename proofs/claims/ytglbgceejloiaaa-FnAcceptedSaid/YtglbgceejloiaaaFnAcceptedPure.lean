/- FnAccepted,as a plain law aq native forms: what the program's function answers is what the reference's answers. Conditions: none but the lengths' and numbers' bounds. -/
import Derived.Test.YtglbgceejloiaaaFnAcceptedPureA
namespace Go.Ev.N
open Go Go.Ev
set_option linter.unusedVariables false
set_option linter.unusedSimpArgs false
theorem Wo (n:Nat) (hn:PY≤n) {b:List Int} {i q:Int} (hcu:Cu b i) (a:List PV) (ha:a.length≤1000) (hs:∀ p∈a,p.2.2.length≤1000):Ok (R7 n b i q a) fun x=>(x.1.length≤a.length+1∧∀ p∈x.1,p.2.2.length≤1001)∧Cu x.2.1 x.2.2.1:=by
 have hsm:Pc a:=⟨by show a.length≤_;clear hn;omega,fun y hy=>by show y.2.2.length≤_;have:=hs y hy;clear hn;omega⟩
 unfold R7
 rw [PO a hsm n hn,Option.bind_some]
 have keep:a.length≤a.length+1∧∀ p∈a,p.2.2.length≤1001:=⟨by clear hn;omega,fun p hp=>by have:=hs p hp;clear hn;omega⟩
 refine Ok.cond (fun _=>Ok.pure ⟨keep,hcu⟩) fun hne => ?_
 have h0:0<a.length:=by
  rcases Nat.eq_zero_or_pos a.length with e | e
  ·rw [e] at hne;simp at hne
  ·exact e
 refine (Se hcu _).bind fun r hr => ?_
 have hr2:=hr.2.2 (by clear hn;omega)
 have hi:=VJ (xs:=a) ⟨hr.2.1,hr2⟩
 obtain ⟨m,hm⟩:∃ m:Nat,r.1=(m:Int):=⟨r.1.toNat,by have:=hr.2.1;clear hn;omega⟩
 have hml:m<a.length:=by clear hn;omega
 rw [hm] at hi ⊢
 rw [Int.toNat_natCast]
 have modK:∀ (f:PV→PV),(∀ p∈a,(f p).2.2.length≤1001)→(a.modify m f).length≤a.length+1∧∀ p∈a.modify m f,p.2.2.length≤1001:=fun f hf=>by
  refine ⟨by simp,fun p hp => ?_⟩
  obtain ⟨j,hj,rfl⟩:=List.mem_iff_getElem.1 hp
  have hja:j<a.length:=by simpa using hj
  have:(a.modify m f)[j]? = some (if m=j then f a[j] else a[j]):=by
   rw [List.getElem?_modify,List.getElem?_eq_getElem hja];rfl
  rw [List.getElem?_eq_getElem hj] at this
  injection this with this
  rw [this]
  split
  ·exact hf _ (List.getElem_mem hja)
  ·exact keep.2 _ (List.getElem_mem hja)
 have row:∀ p∈a,∀ x:PB,decide (p.2.2.length+[x].length≤DZ)=true:=fun p hp x=>S0 (by have:=hs p hp;clear hn;omega)
 refine Ok.bind (P:=fun x=>(x.2.2.2.length≤a.length+1∧∀ p∈x.2.2.2,p.2.2.length≤1001)∧Cu x.1 x.2.1) ((Se hr.1 6).bind fun y hy=>Ok.cond (fun _=>(ok_int hy.1 (by simp)).bind fun v hv=>Ok.guard hi (Ok.pure ⟨modK (fun y=>(v.1,y.2.1,y.2.2)) fun p hp=>keep.2 p hp,hv.1⟩)) fun _=>Ok.cond (fun _=>(ok_int hy.1 (by simp)).bind fun v hv=>Ok.guard hi (Ok.pure ⟨modK (fun y=>(y.1,v.1,y.2.2)) fun p hp=>keep.2 p hp,hv.1⟩)) fun _=>Ok.cond (fun _=>Ok.guard hi ?_) fun _=>Ok.cond (fun _=>Ok.guard (VJ ⟨by omega,by clear hn;omega⟩) ?_) fun _=>Ok.pure ⟨keep,hy.1⟩) fun x hx=>Ok.pure hx
 ·refine (Ok.get hml).bind fun p0 hp0=>(ok_int hy.1 (by simp)).bind fun v hv=>(Se hv.1 3).bind fun u hu=>(Ok.get hml).bind fun p hp => ?_
  have hpm:p∈a:=List.mem_of_getElem? hp
  refine Ok.guard (row p hpm (9,v.1,u.1)) (Ok.guard hi (Ok.pure ⟨modK _ fun p' _ => ?_,hu.1⟩))
  show (p.2.2++[_]).length≤1001
  rw [List.length_append,List.length_singleton]
  have:=hs p hpm
  clear hn;omega
 ·rw [Int.toNat_zero]
  refine (Ok.get h0).bind fun p hp=>(Ok.get h0).bind fun p2 hp2=>Ok.guard (S0 (by clear hn;omega)) (Ok.pure ⟨⟨by rw [List.length_append,List.length_singleton];exact Nat.le_refl _,fun x hx => ?_⟩,hy.1⟩)
  rcases List.mem_append.1 hx with hx | hx
  ·exact keep.2 x hx
  ·rw [List.mem_singleton.1 hx]
   exact keep.2 p2 (List.mem_of_getElem? hp2)
theorem To (a:List PV) (ha:Pc a) (n:Nat) (hn:PY≤n):QQ n a a=some true:=by
 have hl:a.length≤1048576:=ha.1
 have h1:=SK (Qm n a a) a (fun _=>true) (fun i x hi hx=>by
  obtain ⟨_,rfl⟩:=List.getElem?_eq_some_iff.1 hx
  have hpl:a[i].2.2.length≤1048576:=ha.2 _ (List.getElem_mem hi)
  have h2:=SK (Qn a[i] a[i]) a[i].2.2 (fun _=>true) (fun j y hj hy=>by
   obtain ⟨_,rfl⟩:=List.getElem?_eq_some_iff.1 hy
   have hd:decide ((j:Int)<(a[i].2.2.length:Int))=true:=by rw [decide_eq_true_eq];clear hn;omega
   simp only [Qn,hd,cond_true,PD hj,Option.bind_some,beq_self_eq_true,Bool.and_self,Bool.not_true,cond_false,PF hj (show a[i].2.2.length≤9223372036854775807 by clear hn;omega)]) (by simp [Qn]) n (by unfold PY at hn;omega)
  have hall:a[i].2.2.all (fun _=>true)=true:=by simp
  rw [hall,cond_true] at h2
  have hd:decide ((i:Int)<(a.length:Int))=true:=by rw [decide_eq_true_eq];clear hn;omega
  simp only [Qm,hd,cond_true,PD hi,Option.bind_some,bne_self_eq_false,cond_false,h2,PF hi (show a.length≤9223372036854775807 by clear hn;omega)]) (by simp [Qm]) n (by unfold PY at hn;omega)
 unfold QQ
 have hall:a.all (fun _=>true)=true:=by simp
 rw [hall,cond_true] at h1
 simp only [bne_self_eq_false,cond_false,h1,Option.bind_some]
structure U9 (nx:Int) (l:List Ra):Prop where
 sm:Q1 (nx,l)
 len:l.length≤29
 XY:W9 l
 ja:UD nx l→∀ o∈l,o.2.2.2.1.length≤72
theorem U9.of {nx:Int} {l:List Ra} (h:Qi 29 nx l) (m:Int):U9 m l :=
 ⟨⟨h.sm.1,h.sm.2⟩,h.len,fun o ho=>(h.each o ho).2.2.2.1.2.2,fun _ o ho=>(h.each o ho).2.2.2.1.2.1⟩
theorem VL {β:Type} {l:List β} {i:Nat} {f:β→β} {o:β} (h:o∈l.modify i f):o∈l∨∃ z∈l,o=f z:=by
 obtain ⟨j,hj,rfl⟩:=List.mem_iff_getElem.1 h
 rw [List.length_modify] at hj
 rw [List.getElem_modify]
 split
 ·exact .inr ⟨_,List.getElem_mem hj,rfl⟩
 ·exact .inl (List.getElem_mem hj)
theorem U9.state {nx:Int} {l:List Ra} (h:Qi 29 nx l) (v:Int):U9 nx (l.modify 0 fun y=>(y.1,y.2.1,y.2.2.1,y.2.2.2.1,v)):=by
 have hq:=U9.of h nx
 refine ⟨⟨by show (l.modify 0 _).length≤_;rw [List.length_modify];exact h.sm.1,fun o ho => ?_⟩,by rw [List.length_modify];exact h.len,fun o ho => ?_,fun _ o ho => ?_⟩ <;> rcases VL ho with ho | ⟨z,hz,rfl⟩
 ·exact h.sm.2 o ho
 ·exact h.sm.2 z hz
 ·exact hq.XY o ho
 ·exact hq.XY z hz
 ·exact (h.each o ho).2.2.2.1.2.1
 ·exact (h.each z hz).2.2.2.1.2.1
theorem U9.more {nx:Int} {l:List Ra} (h:Qi 29 nx l) (h0:0<l.length):U9 nx (l.modify 0 fun y=>(y.1,y.2.1,y.2.2.1,l[0].2.2.2.1++[(10,1,1)],y.2.2.2.2)):=by
 have hq:=U9.of h nx
 have h00:=h.each _ (List.getElem_mem h0)
 have hl:(l[0].2.2.2.1++[((10:Int),(1:Int),(1:Int))]).length≤73:=by
  have:=h00.2.2.2.1.2.1
  rw [List.length_append,List.length_singleton];omega
 refine ⟨⟨by show (l.modify 0 _).length≤_;rw [List.length_modify];exact h.sm.1,fun o ho => ?_⟩,by rw [List.length_modify];exact h.len,fun o ho => ?_,fun hb => ?_⟩
 ·rcases VL ho with ho | ⟨z,hz,rfl⟩
  ·exact h.sm.2 o ho
  ·exact ⟨(h.sm.2 z hz).1,by show (l[0].2.2.2.1++[((10:Int),(1:Int),(1:Int))]).length≤_;omega⟩
 ·rcases VL ho with ho | ⟨z,hz,rfl⟩
  ·exact hq.XY o ho
  ·intro p hp
   rcases List.mem_append.1 hp with hp | hp
   ·exact h00.2.2.2.1.2.2 p hp
   ·rw [List.mem_singleton.1 hp]
    exact ⟨by show (1:Int)≤10;omega,by show (10:Int)≤999;omega⟩
 ·exfalso
  have hlm:0<(l.modify 0 fun y:Ra=>(y.1,y.2.1,y.2.2.1,l[0].2.2.2.1++[(10,1,1)],y.2.2.2.2)).length:=by rw [List.length_modify];exact h0
  have hm:=hb.2.2.2 _ (List.getElem_mem hlm)
  rw [List.getElem_modify,if_pos rfl] at hm
  have g:=hm.2.2.2.1
  have g0:=h00.2.2.2.1.1
  dsimp only at g
  obtain ⟨_,y,hy,e⟩:=g.1 _ (List.mem_append_right _ (List.mem_singleton.2 rfl))
  have t1:=g.2 y hy
  have t0:=g0.2 y hy
  rw [Sx,t0] at t1
  simp only [QO] at t1
  rw [show ((1:Int)==y.1)=true from beq_iff_eq.2 e.symm,cond_true] at t1
  omega
theorem U9.both {nx:Int} {l:List Ra} (h:U9 nx l) (n:Nat) (hn:PY≤n):∃ b,Py n nx l=some b∧Px n nx l=some b∧(b=true↔UD nx l):=by
 obtain ⟨b1,e1,i1⟩:=UL h.sm h.XY n hn
 obtain ⟨b2,e2,i2⟩:=SA h.sm n hn
 have:b1=b2:=by
  rw [Bool.eq_iff_iff,i1,i2]
  exact ⟨fun q=>q.1,fun q=>⟨q,h.ja q⟩⟩
 subst this
 exact ⟨b1,e1,e2,i2⟩
theorem Us (n:Nat) (hn:PY≤n) {a:List Int} {ci:Int} (hcu:Cu a ci) (ch M:Int) (hM:M≤29):Ok (Qe n a ci ch M) fun x=>Pc x.1∧U9 x.2.1 x.2.2.1∧Cu x.2.2.2.1 x.2.2.2.2.1:=by
 obtain ⟨s,nx,l,i',h',e,hi,hs,hl⟩:=V9 n hn a hcu.1 ci ch hcu.2 M hM
 unfold Qe
 rw [e,Option.bind_some]
 dsimp only
 have hq:=U9.of hl
 have hsm:=hs.sm
 have h12:=hs.1
 refine Ok.bind (P:=fun z=>Cu z.1 z.2.1∧Pc z.2.2.2.1∧U9 z.2.2.2.2.1 z.2.2.2.2.2) ((Se (b:=a) (i:=i') ⟨hcu.1,hi⟩ 12).bind fun r hr=>Ok.cond (fun _=>(ok_int hr.1 (by simp)).bind fun v hv=>Ok.pure ⟨hv.1,hsm,hq _⟩) fun _=>Ok.cond (fun _=>Ok.cond (fun hb => ?_) fun _=>Ok.pure ⟨hr.1,hsm,hq _⟩) fun _=>Ok.cond (fun _=>(Wo n hn hr.1 s (by clear hn;omega) (fun p hp=>by have:=(hs.2.2 p hp).2.2.2.2;clear hn;omega)).bind fun x hx=>Ok.pure ⟨hx.2, ?_,hq _⟩) fun _=>Ok.cond (fun _=>Ok.cond (fun hb=>(ok_int hr.1 (by simp)).bind fun v hv=>Ok.guard ?_ (Ok.pure ⟨hv.1,hsm,U9.state hl _⟩)) fun _=>Ok.pure ⟨hr.1,hsm,hq _⟩) fun _=>Ok.pure ⟨hr.1,hsm,hq _⟩) fun z hz=>Ok.pure ⟨hz.2.1,hz.2.2,hz.1⟩
 ·have h0:0<l.length:=by have:=of_decide_eq_true hb;clear hn;omega
  have hin:Of l 0=true:=VJ ⟨by omega,by clear hn;omega⟩
  have h72:=(hl.each _ (List.getElem_mem h0)).2.2.2.1.2.1
  refine Ok.guard hin ?_
  rw [show l[Int.toNat 0]? = some l[0] from List.getElem?_eq_getElem h0,Option.bind_some,Option.bind_some]
  exact Ok.guard (S0 (by clear hn;omega)) (Ok.guard hin (Ok.pure ⟨hr.1,hsm,U9.more hl h0⟩))
 ·exact ⟨by have:=hx.1.1;show x.1.length≤1048576;clear hn;omega,fun y hy=>by show y.2.2.length≤_;have:=hx.1.2 y hy;clear hn;omega⟩
 ·have h0:0<l.length:=by have:=of_decide_eq_true hb;clear hn;omega
  exact VJ ⟨by omega,by clear hn;omega⟩
theorem Ut (n:Nat) (hn:PY≤n) {b:List Int} {i q:Int} (hcu:Cu b i):Ok (Qg n b i q) fun x=>x.1.length≤7∧Cu x.2.1 x.2.2.1:=by
 obtain ⟨l,i',h',e,hi,hl⟩:=UY n hn b hcu.1 i q hcu.2
 have h6:=hl.2.2
 unfold Qg
 rw [e,Option.bind_some]
 dsimp only
 refine Ok.bind (P:=fun z=>z.1.length≤7∧Cu z.2.1 z.2.2.1) ((Se (b:=b) (i:=i') ⟨hcu.1,hi⟩ 10).bind fun r hr=>Ok.cond (fun _=>(ok_int hr.1 (by simp)).bind fun v hv=>(ok_int hv.1 (by simp)).bind fun w hw=>Ok.guard (S0 (by clear hn;omega)) (Ok.pure ⟨by show (l++[_]).length≤7;rw [List.length_append,List.length_singleton];clear hn;omega,hw.1⟩)) fun _=>Ok.pure ⟨by show l.length≤7;clear hn;omega,hr.1⟩) fun z hz=>Ok.pure hz
theorem Uk (n:Nat) (hn:PY≤n) (code:List Int) (hl:code.length≤1048576):Ok (Qd n code) fun x=>Pc x.1∧U9 x.2.1 x.2.2.1∧x.2.2.2.2.length≤7:=by
 unfold Qd
 obtain ⟨q,e⟩:=XN code hl n hn
 obtain ⟨r,e2,r0,r1⟩:=Wn code hl 10 (by omega)
 rw [e,Option.bind_some,e2,Option.bind_some]
 exact (Us n hn (a:=code) (ci:=0) ⟨hl,by omega⟩ q r (by omega)).bind fun x hx=>(ok_int hx.2.2 (by simp)).bind fun v hv=>(Ut n hn hv.1).bind fun w hw=>Ok.pure ⟨hx.1,hx.2.1,hw.1⟩
abbrev kA:=(List PV)×Int×(List Ra)×Int
structure WK (s:List PV) (nx:Int) (l:List Ra) (desk:Int) (it:List PH) (o:List PB):Prop where
 st:PE s
 im:Rd it
 ne:0<it.length
 dk:0≤desk∧desk≤99
 bk:UD nx l
 lt:nx<1000000
 fit:Fits s o
 pg:PG o it
 ja:o.length≤72
def YE (s:List PV) (nx:Int) (l:List Ra) (desk:Int) (it:List PH) (o:List PB):kA:=(PN s (tp o),nx+1,l++[(nx,desk,it,o,1)],nx)
def iQ (s:List PV) (nx:Int) (l:List Ra) (desk:Int) (it:List PH) (r:kA):Prop:=r=(s,nx,l,0)∨∃ o,WK s nx l desk it o∧r=YE s nx l desk it o
theorem T8 (s:List PV) (hs:Pc s) {nx:Int} {l:List Ra} (hq:U9 nx l) (desk:Int) (it:List PH) (hit:it.length≤1000) (n:Nat) (hn:PY≤n) (b:Bool) (eb:Py n nx l=some b) (o:List PB) (pb:Bool) (ep:P9 n s it=some (o,pb)) :
  QH n s nx l desk it=some (bif Pw s&&b&&Pp desk 0 99 && !((it.length:Int)==0) && !(nx==1000000)&&pb then ((Sz RV s o).1,Pe (nx+1),l++[(nx,desk,it,o,1)],nx) else (s,nx,l,0))∨1048576<o.length:=by
 by_cases ho:1048576<o.length
 ·exact .inr ho
 left
 have h29:=hq.len
 unfold QH
 rw [RP nx l hq.sm n hn,Option.bind_some,Pl s hs n hn,eb]
 simp only [Option.bind_some,Qc,PO s hs n hn,ep]
 rw [show ((l.length:Int)==30)=false by rw [beq_eq_false_iff_ne];clear hn;omega]
 have h1:decide (([]:List PH).length+it.length≤DZ)=true:=Tc (by simp;clear hn;omega)
 have h2:decide (l.length+1≤DZ)=true:=S0 (by clear hn;omega)
 cases Pw s with
 | false=>rfl
 | true =>
 cases b with
 | false=>rfl
 | true =>
 cases Pp desk 0 99 with
 | false=>rfl
 | true =>
 cases ((it.length:Int)==0) with
 | true=>rfl
 | false =>
 cases (nx==1000000) with
 | true=>rfl
 | false =>
 cases pb with
 | false=>rfl
 | true =>
  simp only [Bool.not_true,Bool.not_false,cond_false,cond_true,Option.bind_some,Bool.and_self,List.length_singleton,h1,h2,List.nil_append]
  rw [T9 s hs o (by clear hn;omega) n hn]
  rfl
theorem Tw (s:List PV) (hs:Pc s) {nx:Int} {l:List Ra} (hq:U9 nx l) (desk:Int) (it:List PH) (hit:it.length≤1000) (n:Nat) (hn:PY≤n) (b:Bool) (eb:Px n nx l=some b) (o:List PB) (ho:o.length≤1048576) (pb:Bool) (ep:QU n s it=some (o,pb)) :
  RW n s nx l desk it=some (bif Pw s&&b&&Pp desk 0 99 && !((it.length:Int)==0)&&Q7 it && !(decide (nx≥1000000))&&(pb&&(Sz RV s o).2) then ((Sz RV s o).1,Pe (nx+1),l++[(nx,desk,it,o,1)],nx) else (s,nx,l,0)):=by
 have h29:=hq.len
 unfold RW
 rw [Pz s hs n hn,eb]
 simp only [Option.bind_some,TU,Qc,Pa s hs n hn,Sc nx l hq.sm n hn,ep,Sb s hs o ho n hn,Qy it (show it.length≤1048576 by clear hn;omega) n hn]
 rw [show decide ((l.length:Int)≥30)=false by rw [decide_eq_false_iff_not];clear hn;omega]
 have h1:decide (it.length≤DZ)=true:=Tc (by clear hn;omega)
 have h2:decide (l.length+1≤DZ)=true:=S0 (by clear hn;omega)
 unfold Pj
 simp only [h1,List.length_singleton,h2,cond_true,Option.bind_some]
 cases Pw s with
 | false=>rfl
 | true =>
 cases b with
 | false=>rfl
 | true =>
 cases Pp desk 0 99 with
 | false=>rfl
 | true =>
 cases ((it.length:Int)==0) with
 | true=>rfl
 | false =>
 cases Q7 it with
 | false=>rfl
 | true =>
 cases decide (nx≥1000000) with
 | true=>rfl
 | false =>
 cases pb with
 | false=>rfl
 | true =>
  cases (Sz RV s o).2 <;> rfl
theorem VT (s:List PV) (hs:Pc s) {nx:Int} {l:List Ra} (hq:U9 nx l) (desk:Int) (it:List PH) (hit:it.length≤1000) (n:Nat) (hn:PY≤n):∃ r,QH n s nx l desk it=some r∧RW n s nx l desk it=some r∧iQ s nx l desk it r:=by
 obtain ⟨b,eb1,eb2,hb⟩:=hq.both n hn
 obtain ⟨o,pb,ep1,ep2,hp1,hp2⟩:=Wf s hs it (by clear hn;omega) n hn
 have ho:o.length≤72:=by
  cases pb with
  | true=>exact (hp1 rfl).2.2.2.2
  | false=>rw [hp2 rfl];simp
 have e1:=(T8 s hs hq desk it hit n hn b eb1 o pb ep1).resolve_right (by clear hn;omega)
 have e2:=Tw s hs hq desk it hit n hn b eb2 o (by clear hn;omega) pb ep2
 cases pb with
 | false =>
  refine ⟨(s,nx,l,0), ?_, ?_, .inl rfl⟩
  ·rw [e1,Bool.and_false,cond_false]
  ·rw [e2,Bool.false_and,Bool.and_false,cond_false]
 | true =>
  obtain ⟨hS,hI,hpg,hft,_⟩:=hp1 rfl
  have hH:=TG hS hft
  rw [hH.1] at e1 e2
  rw [Rs.2 hI] at e2
  by_cases hB:UD nx l
  ·have hnx:=hB.1
   rw [hb.2 hB] at e1 e2
   have hne:(!(nx==1000000)) = !(decide (nx≥1000000)):=by
    by_cases h:nx=1000000
    ·rw [h];rfl
    ·rw [show (nx==1000000)=false from beq_eq_false_iff_ne.2 h,decide_eq_false (show ¬ nx≥1000000 by clear hn;omega)]
   rw [hne] at e1
   by_cases hok:(Pp desk 0 99 && !((it.length:Int)==0) && !(decide (nx≥1000000)))=true
   ·have hfull:(Pw s&&true&&Pp desk 0 99 && !((it.length:Int)==0) && !(decide (nx≥1000000))&&true)=true:=by
     rw [QK.2 hS]
     simp only [Bool.and_true,Bool.true_and]
     exact hok
    have hfull2:(Pw s&&true&&Pp desk 0 99 && !((it.length:Int)==0)&&true && !(decide (nx≥1000000))&&(true&&true))=true:=by
     rw [QK.2 hS]
     simp only [Bool.and_true,Bool.true_and]
     exact hok
    rw [hfull,cond_true] at e1
    dsimp only at e2
    rw [hfull2,cond_true] at e2
    simp only [Bool.and_eq_true,Bool.not_eq_true',beq_eq_false_iff_ne,decide_eq_false_iff_not] at hok
    have hdk:0≤desk∧desk≤99:=by
     have:=hok.1.1
     unfold Pp at this
     simp only [Bool.and_eq_true,decide_eq_true_eq] at this
     exact this
    have hw:Pe (nx+1)=nx+1:=PS (by clear hn;omega) (by clear hn;omega)
    rw [hw] at e1 e2
    exact ⟨_,e1,e2, .inr ⟨o,⟨hS,hI,by have:=hok.1.2;clear hn;omega,hdk,hB,by have:=hok.2;clear hn;omega,hft,hpg,ho⟩,rfl⟩⟩
   ·have hno:(Pw s&&true&&Pp desk 0 99 && !((it.length:Int)==0) && !(decide (nx≥1000000))&&true)=false:=by
     rw [← Bool.not_eq_true,QK.2 hS]
     simp only [Bool.and_true,Bool.true_and]
     exact hok
    have hno2:(Pw s&&true&&Pp desk 0 99 && !((it.length:Int)==0)&&true && !(decide (nx≥1000000))&&(true&&true))=false:=by
     rw [← Bool.not_eq_true,QK.2 hS]
     simp only [Bool.and_true,Bool.true_and]
     exact hok
    rw [hno,cond_false] at e1
    dsimp only at e2
    rw [hno2,cond_false] at e2
    exact ⟨_,e1,e2, .inl rfl⟩
  ·have hbf:b=false:=by
    cases b with
    | true=>exact (hB (hb.1 rfl)).elim
    | false=>rfl
   rw [hbf,Bool.and_false,Bool.false_and,Bool.false_and,Bool.false_and,Bool.false_and,cond_false] at e1
   rw [hbf,Bool.and_false,Bool.false_and,Bool.false_and,Bool.false_and,Bool.false_and,Bool.false_and,cond_false] at e2
   exact ⟨_,e1,e2, .inl rfl⟩
theorem UK {nx:Int} {l:List Ra} (h:Q1 (nx,l)) (hp:l.Pairwise fun a b=>a.1<b.1) {i:Nat} (hi:i<l.length) {b:Bool} (n:Nat) (hn:PY≤n) (eb:Px n nx l=some b) (st:Int) :
  Qq n nx l l[i].1 st=some (bif b&&l[i].2.2.2.2==1 then (nx,l.modify i fun y=>(y.1,y.2.1,y.2.2.1,y.2.2.2.1,st),true) else (nx,l,false)):=by
 unfold Qq
 rw [Sc nx l h n hn,Option.bind_some,UF nx l h.1 hp i hi n hn,Option.bind_some,eb]
 simp only [Option.bind_some,Qr hi,Int.toNat_natCast,PD hi,bne]
 rw [show decide ((i:Int)<0)=false by rw [decide_eq_false_iff_not];clear hn;omega]
 cases b with
 | false=>rfl
 | true=>cases (l[i].2.2.2.2==1) <;> rfl
theorem US (k:Int):∀ a:List PV,(∀ p∈a,R3 p.2.2)→0≤QT a k∧QT a k≤1000 * (a.length:Int)
 | [],_=>by simp [QT]
 | p::r,h=>by
  have h1:=US k r fun q hq=>h q (List.mem_cons_of_mem _ hq)
  have h2:=SG p (h p List.mem_cons_self) k
  simp only [QT,List.length_cons]
  omega
theorem TQ {a:List PV} (ha:PE a) (k:Int) (n:Nat) (hn:PY≤n):SH n a k=some (QT a k):=by
 have h12:=ha.1
 have hc:=Pm (σ:=Int) (SD n a k) (fun i s=>(s,(i:Int))) a (fun r s=>(s+QT r k,(a.length:Int))) (fun i s=>0≤s∧s≤1000 * (i:Int))
  (fun s hs=>by unfold SD;simp [QT])
  (fun i p r s g1 g2 g3 g4 g5=>by
   left
   have hp:a[i]=p:=by rw [List.getElem?_eq_getElem g1] at g2;exact Option.some.inj g2
   have hst:=(ha.2.2 p (by rw [← hp];exact List.getElem_mem g1)).2.2
   have hfr:=SG p hst k
   obtain ⟨j,b,e,e1,e2⟩:=TD hst p.1 p.2.1 k n hn
   refine ⟨s+PC p k, ?_,⟨by clear hn;omega,by clear hn;omega⟩,by simp only [QT,Int.add_assoc]⟩
   unfold SD
   dsimp only
   rw [show decide ((i:Int)<(a.length:Int))=true by rw [decide_eq_true_eq];clear hn;omega,cond_true,PD g1,hp,Option.bind_some,e,Option.bind_some,PF g1 (show a.length≤9223372036854775807 by clear hn;omega)]
   dsimp only
   cases b with
   | false =>
    have hz:PC p k=0:=by unfold PC;rw [(e2 rfl).2];rfl
    rw [hz,Int.add_zero];rfl
   | true =>
    obtain ⟨hj,_,ej⟩:=e1 rfl
    have hw:Pe (p.2.2[j].2.1 - p.2.2[j].2.2)=PC p k:=by
     unfold PC at hfr ⊢
     rw [ej] at hfr ⊢
     rw [PS (by clear hn;omega) (by clear hn;omega)]
    simp only [cond_true,PD hj,Option.bind_some,hw]
    rw [PS (n:=s+PC p k) (by clear hn;omega) (by clear hn;omega)])
  n (by unfold PY at hn;omega) 0 ⟨by omega,by omega⟩
 unfold SH
 rw [Pz a ha.sm n hn,ha.ok,Option.bind_some]
 rw [show ((0:Nat):Int)=0 from rfl] at hc
 rw [Bool.not_true,cond_false,hc,Option.bind_some,Int.zero_add]
theorem WK.book {s:List PV} {nx:Int} {l:List Ra} {desk:Int} {it:List PH} {o:List PB} (h:WK s nx l desk it o) (h29:l.length≤29):UD (nx+1) (l++[(nx,desk,it,o,1)]):=by
 have hb:=h.bk
 have hlt:=h.lt
 refine ⟨⟨by have:=hb.1;omega,by omega⟩,by rw [List.length_append,List.length_singleton];omega, ?_,fun q hq => ?_⟩
 ·refine List.pairwise_append.2 ⟨hb.2.2.1,List.pairwise_singleton _ _,fun x hx y hy => ?_⟩
  rw [List.mem_singleton.1 hy]
  have:=(hb.2.2.2 x hx).1
  show x.1<nx
  omega
 ·rcases List.mem_append.1 hq with hq | hq
  ·obtain ⟨⟨q1,q2⟩,q3⟩:=hb.2.2.2 q hq
   exact ⟨⟨q1,by omega⟩,q3⟩
  ·rw [List.mem_singleton.1 hq]
   exact ⟨⟨by show 1≤nx;have:=hb.1;omega,by show nx≤nx+1 - 1;omega⟩,h.dk,⟨h.im,h.ne⟩,h.pg,⟨by show (1:Int)≤1;omega,by show (1:Int)≤3;omega⟩⟩
theorem UG {nx m:Int} {l:List Ra} (h:Q1 (nx,l)) (hl:l.length≤1000) (x:Ra) (hi:x.2.2.1.length≤1000) (hp:x.2.2.2.1.length≤1000):Q1 (m,l++[x]):=by
 refine ⟨by show (l++[x]).length≤_;rw [List.length_append,List.length_singleton];omega,fun o ho => ?_⟩
 rcases List.mem_append.1 ho with ho | ho
 ·exact h.2 o ho
 ·rw [List.mem_singleton.1 ho]
  exact ⟨by show x.2.2.1.length≤_;omega,by show x.2.2.2.1.length≤_;omega⟩
theorem XC {l:List Ra} {x:Ra} (h:l.Pairwise fun a b=>a.1<b.1) (hx:∀ y∈l,y.1<x.1):(l++[x]).Pairwise fun a b=>a.1<b.1 :=
 List.pairwise_append.2 ⟨h,List.pairwise_singleton _ _,fun y hy z hz=>by rw [List.mem_singleton.1 hz];exact hx y hy⟩
theorem YI (l:List Ra) (x:Ra) (f:Ra→Ra):(l++[x]).modify l.length f=l++[f x]:=by
 apply List.ext_getElem?
 intro k
 rw [List.getElem?_modify,List.getElem?_append,List.getElem?_append]
 by_cases h:k<l.length
 ·rw [if_pos h,if_pos h,Option.map_eq_map]
  cases l[k]? with
  | none=>rfl
  | some y=>rw [Option.map_some,if_neg (by omega)]
 ·rw [if_neg h,if_neg h,Option.map_eq_map]
  by_cases e:k=l.length
  ·subst e
   rw [Nat.sub_self]
   show Option.map _ (some x)=some (f x)
   rw [Option.map_some,if_pos rfl]
  ·rw [List.getElem?_eq_none (by simp;omega),List.getElem?_eq_none (by simp;omega)]
   rfl
theorem UC {m:Int} {l:List Ra} {x:Ra} (h:Q1 (m,l++[x])) (hp:(l++[x]).Pairwise fun a b=>a.1<b.1) {b:Bool} (n:Nat) (hn:PY≤n) (eb:Px n m (l++[x])=some b) (st:Int) :
  Qq n m (l++[x]) x.1 st=some (bif b&&x.2.2.2.2==1 then (m,l++[(x.1,x.2.1,x.2.2.1,x.2.2.2.1,st)],true) else (m,l++[x],false))∧Pv n m (l++[x]) x.1=some (l.length:Int):=by
 have hi:l.length<(l++[x]).length:=by rw [List.length_append,List.length_singleton];omega
 have hat:(l++[x])[l.length]=x:=by simp
 have h1:=UK h hp hi n hn eb st
 have h2:=UF m (l++[x]) h.1 hp l.length hi n hn
 rw [hat] at h1 h2
 rw [YI] at h1
 exact ⟨h1,h2⟩
theorem XB {s:List PV} {nx:Int} {l:List Ra} {desk:Int} {it:List PH} {o:List PB} (h:WK s nx l desk it o) (n:Nat) (hn:PY≤n):iter n (P7 n (s,nx,l,desk,it) (YE s nx l desk it o)) 0=some (.inl (it.length:Int)):=by
 have h6:=h.im.2.2
 have hS:=(TG h.st h.fit).2
 have h1:=SK (P7 n (s,nx,l,desk,it) (YE s nx l desk it o)) it (fun _=>true) (fun i x hi hx=>by
  obtain ⟨_,rfl⟩:=List.getElem?_eq_some_iff.1 hx
  have hb:=US it[i].1 s fun p hp=>(h.st.2.2 p hp).2.2
  have h12:=h.st.1
  have hy:=h.im.2.1 _ (List.getElem_mem hi)
  have ht:=h.pg.2 _ (List.getElem_mem hi)
  unfold P7 YE
  dsimp only
  rw [show decide ((i:Int)<(it.length:Int))=true by rw [decide_eq_true_eq];clear hn;omega,cond_true,Qr hi,cond_true,Int.toNat_natCast,List.getElem?_eq_getElem hi,Option.bind_some,TQ hS _ n hn,Option.bind_some,cond_true,Option.bind_some,TQ h.st _ n hn,Option.bind_some,cond_true,Option.bind_some,Wk h.st h.fit,ht,PF hi (show it.length≤9223372036854775807 by clear hn;omega),PS (n:=QT s it[i].1 - it[i].2) (by clear hn;omega) (by clear hn;omega),bne_self_eq_false]
  rfl) (by unfold P7;simp) n (by unfold PY at hn;omega)
 rw [show it.all (fun _=>true)=true by simp,cond_true] at h1
 exact h1
theorem S9 (code:List Int) (hx:(jW kp) code):∃ n,RL n code=some true:=by
 refine ⟨PY, ?_⟩
 have hB:PY≤PY:=Nat.le_refl _
 unfold RL Tk
 rw [Option.bind_some]
 by_cases hbig:(code.length:Int)>1048576
 ·rw [decide_eq_true hbig];rfl
 rw [decide_eq_false hbig,cond_false]
 obtain ⟨⟨s,nx,l,desk,it⟩,e0,hs,hq,hit⟩:=Uk PY hB code (by omega)
 dsimp only at hs hq hit
 rw [e0,Option.bind_some]
 dsimp only
 obtain ⟨r,e1,e2,hr⟩:=VT s hs hq desk it (by omega) PY hB
 rw [e2,e1,Option.bind_some,Option.bind_some,bne_self_eq_false,cond_false]
 rcases hr with rfl | ⟨o,hT,rfl⟩
 ·dsimp only
  rw [To s hs PY hB]
  simp only [beq_self_eq_true,cond_true,Option.bind_some]
 ·have h29:=hq.len
  have hnx:=hT.bk.1
  have h6:=hT.im.2.2
  have h72:=hT.ja
  have hlt:=hT.lt
  have hH:=TG hT.st hT.fit
  have hloop:=XB hT PY hB
  have hids:∀ y∈l,y.1<nx:=fun y hy=>by have:=(hT.bk.2.2.2 y hy).1;omega
  have sm1:Q1 (nx+1,l++[(nx,desk,it,o,1)]):=UG hq.sm (by omega) _ (by show it.length≤1000;omega) (by show o.length≤1000;omega)
  have sm3:Q1 (nx+1,l++[(nx,desk,it,o,3)]):=UG hq.sm (by omega) _ (by show it.length≤1000;omega) (by show o.length≤1000;omega)
  have pw1:(l++[((nx,desk,it,o,1):Ra)]).Pairwise fun a b=>a.1<b.1:=XC hT.bk.2.2.1 hids
  have pw3:(l++[((nx,desk,it,o,3):Ra)]).Pairwise fun a b=>a.1<b.1:=XC hT.bk.2.2.1 hids
  obtain ⟨b1,eb1,ib1⟩:=SA sm1 PY hB
  rw [ib1.2 (hT.book h29)] at eb1
  obtain ⟨b3,eb3,_⟩:=SA sm3 PY hB
  obtain ⟨t1,a1⟩:=UC sm1 pw1 PY hB eb1 3
  obtain ⟨t3,a3⟩:=UC sm3 pw3 PY hB eb3 3
  obtain ⟨t2,_⟩:=UC sm3 pw3 PY hB eb3 2
  dsimp only at t1 t2 t3 a1 a3
  rw [show (true&&(1:Int)==1)=true from rfl,cond_true] at t1
  rw [show (b3&&(3:Int)==1)=false by cases b3 <;> rfl,cond_false] at t2 t3
  have hgi:ND (l++[((nx,desk,it,o,1):Ra)]) (l.length:Int)=some (nx,desk,it,o,1):=by
   rw [UU];simp
  have hof:Rh PY (nx+1) (l++[(nx,desk,it,o,1)]) nx=some (nx,desk,it,o,1,true):=by
   unfold Rh
   rw [a1,Option.bind_some,show decide ((l.length:Int)<0)=false by rw [decide_eq_false_iff_not];omega,cond_false,hgi,Option.bind_some]
   rw [SV (nx,desk,it,o,1) ⟨by show it.length≤_;omega,by show o.length≤_;omega⟩]
   rfl
  have hrel:=TK (PN s (tp o)) hH.2.sm o (by omega) PY hB
  rw [Xb hT.st hT.fit] at hrel
  have hw1:P3 PY (PN s (tp o)) (nx+1) (l++[(nx,desk,it,o,1)]) nx=some (s,nx+1,l++[(nx,desk,it,o,3)],true):=by
   unfold P3
   rw [t1,Option.bind_some]
   simp only [Bool.not_true,cond_false]
   rw [a1,Option.bind_some,hgi,Option.bind_some]
   dsimp only
   rw [hrel,Option.bind_some]
   rfl
  have hw2:P3 PY s (nx+1) (l++[(nx,desk,it,o,3)]) nx=some (s,nx+1,l++[(nx,desk,it,o,3)],false):=by
   unfold P3
   rw [t3,Option.bind_some]
   simp only [Bool.not_false,cond_true]
   rw [Pa s hT.st.sm PY hB,Option.bind_some]
  have hf:R4 PY (nx+1) (l++[(nx,desk,it,o,3)]) nx=some (nx+1,l++[(nx,desk,it,o,3)],false):=by
   unfold R4
   rw [t2,Option.bind_some]
  rw [hloop]
  unfold YE
  dsimp only
  rw [hof]
  simp only [Option.bind_some]
  rw [show (nx==0)=false from beq_eq_false_iff_ne.2 (by omega),cond_false,PS (n:=nx+1) (by omega) (by omega),eb1,Pz _ hH.2.sm PY hB,hH.2.ok]
  simp only [bne_self_eq_false,Bool.not_true,cond_false,Option.bind_some]
  rw [hw1]
  simp only [Option.bind_some]
  rw [hw2,hf,To s hs PY hB]
  rfl
end Go.Ev.N
