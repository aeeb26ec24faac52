/- FnRestocked,as a plain law ot native forms: what the program's function answers is what the reference's answers. Conditions: none but the lengths' and numbers' bounds. -/
import Derived.Test.YthlchdmdanagkaaGreatFnRestockedPureB
set_option linter.all false
namespace Go.Ev.N
open Go Go.Ev
variable {w h nx B i k q nw:Int}{c ou far next st:By}{a:It}{l:ADY}{crew:ADX}{ts:AAH}{r:Int×Int×By×It×Int×ADY×ADX×AAH×By×By×Int×Int}
structure DK(a:It)(nx:Int)(l:ADY)(crew:ADX)(ts:AAH):Prop where
 sk:Py a
 bk:XL nx l
 n20:crew.length<=20
 ids:crew.Pairwise λr s=>r.1<s.1
 XJ:TP ts
 tk:∀t∈ts,Ua a l crew t
theorem DI.ym(d:DI w h c a nx l crew ts):DK a nx l crew ts:=⟨d.st,d.bk,d.cw.n20,d.cw.ids,d.XJ,d.tk⟩
theorem jc(h:crew.Pairwise λr s=>r.1<s.1){id:Int}{f:P9->P9}(hf:∀r,(f r).1=r.1):(XK crew id f).Pairwise λr s=>r.1<s.1:=by
 have key:∀r,(bif r.1==id then f r else r:P9).1=r.1:=λr=>No
 unfold XK;rw[ABk];exact h.imp fun {r s} hrs=>No
theorem DK.nD{a:It}{nx:Int}{l:ADY}{crew:ADX}{x y:AAH}{t:P6}(d:DK a nx l crew (x++t::y))(ht:t.2.2.2≠1){b:It}(hb:Py b)(hsp:Xs a b){s:Int}(hs:2<=s/\s<=4){f:P9->P9}(hf:∀r,(f r).1=r.1)
  (zt:∀r,Tb crew t.2.2.1=some r->(f r).2.2.1=Uc b l (t.1,t.2.1,t.2.2.1,s)/\(f r).2.2.2.1=decide (2<s)):DK b nx l (XK crew t.2.2.1 f) (x++(t.1,t.2.1,t.2.2.1,s)::y):=by
 have hT:=d.tk t (AAS _ AAg);obtain⟨o,ho,hst,hpk⟩:=hT.ord;obtain⟨r0,hr0,_,_⟩:=hT.ea ht;obtain⟨q,hq⟩:=(hT.same hsp (k:=l) rfl).Pu;refine {sk:=hb,bk:=d.bk,n20:=by rw[fL];exact d.n20,ids:=jc d.ids hf,XJ:=d.XJ.pZ ht hs,tk:=λu hu=>?_ }
 have hoth:∀u,u∈x\/u∈y->Ua b l (XK crew t.2.2.1 f) u:=λu hu=>(d.tk u (by
  grind)).other hsp hf λe=>d.XJ.two ht hu e
 rcases ABL.1 hu with hu|hu
 ·grind
 ·rcases AAd.1 hu with rfl|hu
  ·refine⟨⟨o,ho,hst,hpk⟩,⟨q,hq⟩,λ_=>⟨f r0,?_,(zt r0 hr0).1,(zt r0 hr0).2⟩⟩;rw[cG hf];show(Tb crew t.2.2.1).map _=_;rw[hr0,AA6,show(r0.1==t.2.2.1)=true from AAT.2 (QK hr0).2,ABU]
  grind
theorem DK.gone{x y:AAH}{t:P6}(d:DK a nx l crew (x++t::y))(ht:t.2.2.2≠1){f:P9->P9}(hf:∀r,(f r).1=r.1):DK a nx l (XK crew t.2.2.1 f) (x++y):=by
 refine {sk:=d.sk,bk:=d.bk,n20:=by rw[fL];exact d.n20,ids:=jc d.ids hf,XJ:=d.XJ.sub ((List.Sublist.refl x).append (List.sublist_cons_self t y)),tk:=λu hu=>?_ };have hu2:=ABL.1 hu
 exact(d.tk u (by
  grind)).other (λ_=>rfl) hf λe=>d.XJ.two ht hu2 e
theorem DK.jr{x y:AAH}{t:P6}(d:DK a nx l crew (x++t::y))(ht:t.2.2.2≠1)(ou:By):
  DK (Qk a ou l crew t).1 nx l (Qk a ou l crew t).2.2.1 (x++(dN (Qk a ou l crew t).2.2.2++y)):=by
 have hT:=d.tk t (AAS _ AAg);unfold Qk;by_cases h2:t.2.2.2=2
 ·rw[AAP h2];exact d.nD ht d.sk (λ_=>rfl) (s:=3) ⟨J,J⟩ (λr=>rfl) λr hr=>⟨rfl,rfl⟩
 ·rw[AAQ h2];by_cases h3:t.2.2.2=3
  ·rw[AAP h3];obtain⟨g1,g2,g3⟩:=ZN d.sk (P5 l t);refine d.nD ht g1 g2 (s:=4) ⟨J,J⟩ (λr=>rfl) λr hr=>⟨rfl,?_⟩;obtain⟨r',q1,_,q3⟩:=hT.ea ht;grind
  ·rw[AAQ h3];exact d.gone ht λr=>rfl
theorem DK.Ds(d:DK a nx l crew ts){id st:Int}(hst:1<=st/\st<=3)(hno:∀t∈ts,t.1≠id):DK a nx (RW l id st) crew ts:=by
 have mem:∀q∈RW l id st,∃o∈l,q=(bif o.1==id then(o.1,o.2.1,o.2.2.1,o.2.2.2.1,st)else o:QH):=λq hq=>by unfold RW at hq;grind
 have key:∀o:QH,(bif o.1==id then(o.1,o.2.1,o.2.2.1,o.2.2.2.1,st)else o:QH).1=o.1/\(bif o.1==id then(o.1,o.2.1,o.2.2.1,o.2.2.2.1,st)else o:QH).2.1=o.2.1/\(bif o.1==id then(o.1,o.2.1,o.2.2.1,o.2.2.2.1,st)else o:QH).2.2.1=o.2.2.1/\(bif o.1==id then(o.1,o.2.1,o.2.2.1,o.2.2.2.1,st)else o:QH).2.2.2.1=o.2.2.2.1:=λo=>No
 obtain⟨b1,b2,b3,b4⟩:=d.bk;refine { d with bk:=⟨b1,by unfold RW;grind,?_,λq hq=>?_⟩,tk:=λt ht=>(d.tk t ht).same (λ_=>rfl) (eX l id st t.1 (hno t ht)) }
 ·unfold RW;rw[ABk];exact b3.imp fun {x y} hxy=>No
 ·obtain⟨o,ho,rfl⟩:=mem q hq;obtain⟨k1,k2,k3,k4⟩:=key o;obtain⟨g1,g2,g3,g4,g5⟩:=b4 o ho;unfold jg;rw[k1,k2,k3,k4];refine⟨g1,g2,g3,g4,?_⟩;cases(o.1==id)
  all_goals grind
def jJ(ou:By)(ps:AAB):By:=ps.foldl (λou p=>ou.set p.2.1.toNat (ou.getD p.2.1.toNat 0+p.2.2)) ou
def OB(B:Int)(ou:By):Prop:=ou.length=51/\∀x∈ou,0<=x/\x<=B
theorem OB.getD(h:OB B ou)(hB:0<=B)(i:Nat):0<=ou.getD i 0/\ou.getD i 0<=B:=by
 rw[List.getD];cases hq:ou[i]? with
 |none=>grind
 |some x=>exact h.2 x (AAN hq)
theorem OB.set{C:Int}(h:OB B ou)(hBC:B<=C)(i:Nat){x:Int}(hx:0<=x/\x<=C):OB C (ou.set i x):=by
 refine⟨by rw[ACC];exact h.1,λy hy=>?_⟩;rcases AA9 hy with hy|rfl
 ·have:=h.2 y hy;omega
 ·exact hx
theorem OB.more{C:Int}(h:OB B ou)(hBC:B<=C):OB C ou:=⟨h.1,λx hx=>by have:=h.2 x hx;omega⟩
theorem Ti.ob(h:Ti ou):OB 1000000 ou:=⟨h.1,h.2.1⟩
theorem ky:∀(ps:AAB)(ou:By)(B:Int),0<=B->(∀p∈ps,1<=p.2.2/\p.2.2<=1000)->OB B ou->OB (B+1000*ps.length) (jJ ou ps)
 | [],ou,B,_,_,h=>by simp;exact h
 |p::ps,ou,B,hB,hp,h=>by have h1:=hp p AAg;have h2:=h.getD hB p.2.1.toNat;have:=ky ps (ou.set p.2.1.toNat (ou.getD p.2.1.toNat 0+p.2.2)) (B+1000) J (λq hq=>hp q (AAM _ hq)) (h.set J _ ⟨J,J⟩);have hun2:jJ ou (p::ps)=jJ (ou.set p.2.1.toNat (ou.getD p.2.1.toNat 0+p.2.2)) ps:=rfl;grind
def pz(a:It)(ou:By)(l:ADY)(t:P6):By:=if t.2.2.2=2 then ou else if t.2.2.2=3 then(bif(RT V5 a (P5 l t)).2 then jJ ou (P5 l t)else ou)else ou
def idx(N:Nat):By:=(List.range N).map λi:Nat=>(i:Int)
theorem qB{N i:Nat}(h:i<N):(idx N)[i]?=some (i:Int):=by simp[idx,h]
theorem Z0(N:Nat):(idx N).length=N:=by simp[idx]
theorem Z1{N:Nat}{x:Int}:x∈idx N↔0<=x/\x<(N:Int):=by
 simp only[idx,AAt,AAX];constructor
 ·omega
 ·rintro ⟨h1,h2⟩;exact⟨x.toNat,J,J⟩
theorem gP(N:Nat):(idx N).Nodup:=by unfold idx List.Nodup;rw[ABk];exact AB7.imp fun {a b} h e=>h J
theorem nH(N:Nat):idx (N+1)=idx N++[(N:Int)]:=by simp[idx,AB3]
abbrev Rb:=Int×Int×Int×Bool×Int
abbrev ADk:=List Rb
def QF(crew:ADk)(i:Int):Rb:=crew.getD i.toNat (0,0,0,false,0)
theorem bC{crew:ADk}(h:0<=i/\i<(crew.length:Int)):JQ crew i=some (QF crew i):=by obtain⟨m,rfl⟩:∃m:Nat,i=m:=⟨i.toNat,J⟩;rw[Pk J];simp[QF,List.getD,AAI (show m<crew.length by omega)]
theorem Sc{crew:ADk}{i:Nat}(h:i<crew.length):QF crew (i:Int)=crew[i]:=by simp[QF,List.getD,AAI h]
def qS(crew:ADk):Prop:=∀a b:Int,0<=a->a<b->b<(crew.length:Int)->(QF crew a).1<(QF crew b).1
def Yh(crew:ADk)(a b:Int):Bool:=decide ((QF crew a).2.2.2.2>(QF crew b).2.2.2.2)||(decide ((QF crew a).2.2.2.2=(QF crew b).2.2.2.2)&&decide ((QF crew a).1<(QF crew b).1))
theorem fJ{crew:ADk}(h:qS crew){xs:By}(hx:∀x∈xs,0<=x/\x<(crew.length:Int)):Ord (Yh crew) xs:=by
 refine⟨λx=>by simp[Yh],λx y z h1 h2=>?_,λx hx1 y hy1 zD=>?_⟩
 ·simp only[Yh,AAe,AAJ,AAf]at h1 h2 ⊢;omega
 ·simp only[Yh,AAe,AAJ,AAf];have q1:=hx x hx1;have q2:=hx y hy1;rcases Int.lt_or_gt_of_ne zD with hl|hl
  ·have:=h x y q1.1 hl q2.2;omega
  ·have:=h y x q2.1 hl q1.2;omega
theorem aa{crew:ADk}{a b:Int}(ha:0<=a/\a<(crew.length:Int))(hb:0<=b/\b<(crew.length:Int)):O5 crew a b=some (Yh crew a b):=by unfold O5 Yh;rw[bC ha,bC hb];rfl
theorem jU{lt:Int->Int->Option Bool}{lb:Int->Int->Bool}{xs:By}(hx:∀x∈xs,∀y∈xs,lt x y=some (lb x y))(hno:∀x y,(lt x y).isSome=true->lt x y=some (lb x y))(h20:xs.length<=20)(hnd:xs.Nodup)(ho:Ord lb xs)(htr:∀x y z,lt x y=some true->lt y z=some true->(lt x z).isSome=true):
  ∃l,M5 lt xs=some l/\l.Perm xs/\l.Pairwise λx y=>lb x y=true:=by
 have hb:∀x y,Ou lt x y=true↔lt x y=some true:=λx y=>by
  unfold Ou;cases lt x y with
  |none=>simp
  |some b=>simp
 have hord:Ord (Ou lt) xs:=by
  refine⟨λx=>?_,λx y z h1 h2=>?_,λx hx1 y hy1 zD=>?_⟩
  ·cases h:Ou lt x x with
   |false=>rfl
   |true=>
    have h:=(hb x x).1 h;have:=hno x x (by rw[h];rfl);rw[h,ho.wi]at this;cases this
  ·rw[hb]at h1 h2 ⊢;have e1:=hno x y (by rw[h1];rfl);have e2:=hno y z (by rw[h2];rfl);rw[h1]at e1;rw[h2]at e2;injection e1 with e1;injection e2 with e2
   rw[hno x z (htr x y z h1 h2),ho.tr x y z e1.symm e2.symm]
  ·rw[hb,hb,hx x hx1 y hy1,hx y hy1 x hx1];rcases ho.Tf x hx1 y hy1 zD with h|h
   ·exact .inl (by rw[h])
   ·exact .inr (by rw[h])
 obtain⟨l,h1,h2,h3⟩:=oD (lt:=lt) (xs:=xs) (λx h y h'=>by rw[hx x h y h'];rfl) h20 hnd hord;refine⟨l,h1,h2,ACN (fun {a b} ha zJ h=>?_) h3⟩;grind
theorem fR{crew:ADk}(h:qS crew)(h20:crew.length<=20)(n:Nat)(hn:Ps<=n):∃l,Xx n crew=some l/\l.Perm (idx crew.length)/\l.Pairwise λx y=>Yh crew x y=true:=by
 have hB:1048576<=n:=AAv ADj hn
 have hit:iter n (Ue crew) (0,[])=some ((crew.length:Int),idx crew.length):=by
  have:=P8 (Ue crew) (λi=>((i:Int),idx i)) crew.length ((crew.length:Int),idx crew.length) (λi hi=>by
   have hm:decide ((idx i).length+[(i:Int)].length<=Dj)=true:=by rw[AAf,Z0];simp[Dj];omega
   simp only[Ue,hm,Pj hi J,nH];rw[show decide ((i:Int)<(crew.length:Int))=true by simpa using hi];rfl) (by simp[Ue]) n J
  simpa[idx]using this
 have hm:∀x∈idx crew.length,0<=x/\x<(crew.length:Int):=λx hx=>Z1.1 hx
 have hv:∀x y,(O5 crew x y).isSome=true->(0<=x/\x<(crew.length:Int))/\(0<=y/\y<(crew.length:Int)):=λx y h=>by
  unfold O5 at h;cases hx:JQ crew x with
  |none=>rw[hx]at h;cases h
  |some p=>
   cases hy:JQ crew y with
   |none=>rw[hx,hy]at h;cases h
   |some q=>
    obtain⟨k,rfl,hk,_⟩:=NU hx;obtain⟨k',rfl,hk',_⟩:=NU hy;omega
 obtain⟨l,h1,h2,h3⟩:=jU (lt:=O5 crew) (lb:=Yh crew) (xs:=idx crew.length) (λx hx y hy=>aa (hm x hx) (hm y hy)) (λx y h=>aa (hv x y h).1 (hv x y h).2) (by rw[Z0];exact h20) (gP _) (fJ h hm)
  (λx y z h1 h2=>by rw[aa (hv x y (by rw[h1];rfl)).1 (hv y z (by rw[h2];rfl)).2];rfl)
 refine⟨l,?_,h2,h3⟩;unfold Xx;grind
theorem fv{crew:ADk}(h:qS crew)(h20:crew.length<=20)(n:Nat)(hn:Ps<=n):∃l,YD n crew=some l/\l.Perm (idx crew.length)/\l.Pairwise λx y=>Yh crew x y=true:=by
 have hB:1048576<=n:=AAv ADj hn;have hm:∀x∈idx crew.length,0<=x/\x<(crew.length:Int):=λx hx=>Z1.1 hx
 obtain⟨l,h1,h2,h3⟩:=eM (Wm n crew) (Yh crew) (idx crew.length) (gP _) (fJ h hm) (λi x l hx hl zA hmem=>by
   rw[Z0]at zA;rw[qB J]at hx;injection hx with hx
   subst hx;have hi:i<crew.length:=J
   have hir:=bC (crew:=crew) (i:=(i:Int)) ⟨J,J⟩
   have step:∀k y z,l[k]?=some y->Uo crew (l,(i:Int)) (((k+1:Nat):Int),hole l (k+1) z)=some (bif Yh crew (i:Int) y then .inl ((k:Int),hole l k y)else .inr (((k+1:Nat):Int),hole l (k+1) z)):=by
    intro k y z hk;have hkl:k<l.length:=(AAK.1 hk).1;have hyr:=bC (hm y (hmem y (AAN hk)));have hw:Pn (((k+1:Nat):Int)-1)=(k:Int):=by rw[Pr J J];omega
    have hi1:O3 (hole l (k+1) z) (k:Int)=true:=Po (by rw[TB J];omega);have hi2:O3 (hole l (k+1) z) ((k+1:Nat):Int)=true:=Po (by rw[TB J];omega);simp only[Uo,hw,hi1,hi2,ABX,dc hk,ABT,hyr,hir,QX,eA hk,ABU];rw[show decide (((k+1:Nat):Int)>0)=true by rw[AAf];omega]
    have e:Yh crew (i:Int) y=(decide ((QF crew y).2.2.2.2<(QF crew (i:Int)).2.2.2.2)||(((QF crew y).2.2.2.2==(QF crew (i:Int)).2.2.2.2)&&decide ((QF crew y).1>(QF crew (i:Int)).1))):=by unfold Yh;rw[ABy];simp only[AAe,AAJ,AAf,AAT];omega
    rw[e];generalize decide ((QF crew y).2.2.2.2<(QF crew (i:Int)).2.2.2.2)=b1;generalize ((QF crew y).2.2.2.2==(QF crew (i:Int)).2.2.2.2)=b2;generalize decide ((QF crew y).1>(QF crew (i:Int)).1)=b3;cases b1<;>cases b2<;>cases b3<;>rfl
   obtain⟨k,z,e,hk,q1,q2⟩:=ij (Uo crew (l,(i:Int))) (Yh crew (i:Int)) l (λk y z hk hy=>by rw[step k y z hk,hy];rfl) (λk y z hk hy=>by rw[step k y z hk,hy];rfl) (λz=>by simp[Uo]) n J (i:Int);refine⟨k,hk,?_,q1,q2⟩;have hmr:decide (l.length+[(i:Int)].length<=Dj)=true:=by rw[AAf];simp[Dj];omega
   simp only[Wm,hmr,e,ABT,Po (show k<(hole l k z).length by rw[TB hk];omega),ABX,QX,bX hk,Pj hi J,ABU];grind) (λl=>by simp[Wm,Z0]) n (by rw[Z0];omega)
 refine⟨l,?_,h2,h3⟩;unfold YD;rw[h1];rfl
theorem oK{crew:ADk}(h:qS crew)(h20:crew.length<=20)(n:Nat)(hn:Ps<=n):∃l,Xx n crew=some l/\YD n crew=some l/\l.Perm (idx crew.length):=by obtain⟨a,a1,a2,a3⟩:=fR h h20 n hn;obtain⟨b,b1,b2,b3⟩:=fv h h20 n hn;have:a=b:=ae (fJ h λx hx=>Z1.1 hx) a3 b3 a2 b2;grind
theorem VN(r ka kb a b:Int):Na r ka kb a b=true↔ka<kb\/(ka=kb/\((a≠r/\b=r)\/((a=r↔b=r)/\a<b))):=by unfold Na;grind
theorem YP(r:Int)(key:Int->Int)(xs:By):Ord (λa b=>Na r (key a) (key b) a b) xs:=by
 refine⟨λx=>?_,λx y z h1 h2=>?_,λx _ y _ zD=>?_⟩
 ·cases h:Na r (key x) (key x) x x with
  |false=>rfl
  |true=>rw[VN]at h;omega
 ·rw[VN]at h1 h2 ⊢;omega
 ·rw[VN,VN];omega
theorem gz{r k1 k2 l1 l2 a b:Int}(h1:k1<k2↔l1<l2)(h2:k1=k2↔l1=l2):Na r k1 k2 a b=Na r l1 l2 a b:=by rw[ABy,VN,VN,h1,h2]
def WJ(c far:By)(v:Int):Int:=bif decide (Pq far v<0)then(c.length:Int)+1 else Pq far v
theorem ZE(hc:c.length<=100){r a b:Int}(ha:0<=a/\a<(far.length:Int))(hb:0<=b/\b<(far.length:Int)):Og far c r a b=some (Na r (WJ c far a) (WJ c far b) a b):=by unfold Og NX;rw[X1 ha,X1 hb,show IntKind.wrap .i64 ((c.length:Int)+1)=(c.length:Int)+1 from Pr J J];rfl
theorem XW{r x y:Int}(h:(Og far c r x y).isSome=true):(0<=x/\x<(far.length:Int))/\(0<=y/\y<(far.length:Int)):=by
 unfold Og at h;cases hx:NX c far x with
 |none=>grind
 |some p=>
  cases hy:NX c far y with
  |none=>grind
  |some q=>
   obtain⟨k,_,rfl,hk,_⟩:=Of hx;obtain⟨k',_,rfl,hk',_⟩:=Of hy;omega
structure Std(c:By)(r:Rb):Prop where
 gp:0<=r.2.1/\r.2.1<(c.length:Int)
 tQ:Pq c r.2.1≠0
 goal:r.2.2.1 = -1\/((0<=r.2.2.1/\r.2.2.1<(c.length:Int))/\Pq c r.2.2.1≠0)
def VE(w h:Int)(c:By)(r:Rb):By:=((Sb w h c r.2.1 false).filter λk => !r.2.2.2.1||(Pq c k != 2||k==r.2.2.1))++[r.2.1]
def XD(w h:Int)(c:By)(r:Rb):By:=(Sb w h c r.2.1 r.2.2.2.1++[r.2.1])++(bif decide (r.2.2.1>=0)&&(!((Sb w h c r.2.1 r.2.2.2.1++[r.2.1]).any λx=>x==r.2.2.1)&&(RA w h r.2.1).any λx=>x==r.2.2.1)then [r.2.2.1]else [])
theorem aN(f:lR w h c){r:Rb}(s:Std c r):(XD w h c r).Perm (VE w h c r)/\(VE w h c r).Nodup/\(∀v∈VE w h c r,(0<=v/\v<(c.length:Int))/\Pq c v≠0)/\(VE w h c r).length<=5:=by
 obtain⟨n1,n2,n3⟩:=az f s.gp false;obtain⟨m1,m2,m3⟩:=az f s.gp r.2.2.2.1
 have ndS:(VE w h c r).Nodup:=by unfold VE;rw[AAZ];refine⟨n2.filter _,OF,λa ha b hb=>?_⟩;rw[AA5.1 hb];exact(n1 a (ABm.1 ha).1).2
 have ndI:(XD w h c r).Nodup:=by
  unfold XD
  have nd1:(Sb w h c r.2.1 r.2.2.2.1++[r.2.1]).Nodup:=by rw[AAZ];refine⟨m2,OF,λa ha b hb=>?_⟩;rw[AA5.1 hb];exact(m1 a ha).2
  cases hb:(decide (r.2.2.1>=0)&&(!((Sb w h c r.2.1 r.2.2.2.1++[r.2.1]).any λx=>x==r.2.2.1)&&(RA w h r.2.1).any λx=>x==r.2.2.1))with
  |false=>grind
  |true=>
   grind
 have memN:∀a v,v∈Sb w h c r.2.1 a↔v∈RA w h r.2.1/\Pq c v≠0/\¬(a=true/\Pq c v=2):=by
  intro a v;unfold Sb;rw[ABm];simp only[AAJ,AB2,ne_eq,AAU,ACR,ABa];constructor
  ·grind
  ·grind
 have memS:∀v,v∈VE w h c r↔v=r.2.1\/(v∈RA w h r.2.1/\Pq c v≠0/\(r.2.2.2.1=false\/Pq c v≠2\/v=r.2.2.1)):=by
  intro v;unfold VE;rw[ABL,ABm,memN];simp only[AA5,AAe,AAU,AB2,ne_eq,AAT];constructor
  ·grind
  ·grind
 have memI:∀v,v∈XD w h c r↔v=r.2.1\/(v∈RA w h r.2.1/\Pq c v≠0/\¬(r.2.2.2.1=true/\Pq c v=2))\/(r.2.2.1>=0/\r.2.2.1∈RA w h r.2.1/\v=r.2.2.1):=by
  intro v;unfold XD;rw[ABL,ABL,memN];cases hb:(decide (r.2.2.1>=0)&&(!((Sb w h c r.2.1 r.2.2.2.1++[r.2.1]).any λx=>x==r.2.2.1)&&(RA w h r.2.1).any λx=>x==r.2.2.1))with
  |false=>
   grind
  |true=>
   grind
 refine⟨(List.perm_ext_iff_of_nodup ndI ndS).2 λv=>?_,ndS,λv hv=>?_,?_⟩
 ·rw[memI,memS];constructor
  ·rintro (h|⟨h1,h2,h3⟩|⟨h1,h2,rfl⟩)
   ·exact .inl h
   ·refine .inr ⟨h1,h2,?_⟩;cases hl:r.2.2.2.1 with
    |false=>exact .inl rfl
    |true=>exact .inr (.inl λh=>h3 ⟨hl,h⟩)
   ·refine .inr ⟨h2,?_,.inr (.inr rfl)⟩;rcases s.goal with hg|hg
    ·omega
    ·exact hg.2
  grind
 ·rcases(memS v).1 hv with rfl|⟨h1,h2,_⟩
  ·exact⟨s.gp,s.tQ⟩
  ·have:=(Yk (f.cell s.gp)).1 _ h1;grind
 ·unfold VE;grind
theorem kp(h:0<=i/\i<(c.length:Int))(hk:Pq c i≠0):Qy c i=true:=by unfold Qy Qg;rw[ABZ h.1,ABZ (show i<=(c.length:Int)-1 by omega)];simpa[Pq]using hk
structure qW(w h:Int)(c:By)(r:Rb)(far F:By):Prop where
 len:far.length=c.length
 NC:∀x∈far, -1<=x/\x<=(c.length:Int)
 neg:r.2.2.1<0->F=[]/\far=(List.replicate c.length 1).set r.2.1.toNat 0
 pos:0<=r.2.2.1->F=far/\∀n,Ps<=n->VH n w h c r.2.2.1 r.2.2.2.1=some far
 spec:∀n,Ps<=n->UW n w h c r.1 r.2.1 r.2.2.1 r.2.2.2.1 r.2.2.2.2=some F
theorem px(f:lR w h c){r:Rb}(s:Std c r):∃far F,qW w h c r far F:=by
 have hN:=f.le;by_cases hg:r.2.2.1<0
 ·refine⟨(List.replicate c.length 1).set r.2.1.toNat 0,[],OF,λx hx=>?_,λ_=>⟨rfl,rfl⟩,λh=>absurd h J,λn hn=>?_⟩
  ·grind
  ·unfold UW;grind
 ·have hgr:(0<=r.2.2.1/\r.2.2.1<(c.length:Int)):=by
   rcases s.goal with h|h
   ·omega
   ·exact h.1
  obtain⟨F,h12,h3,h4⟩:=iZ f hgr r.2.2.2.1;refine⟨F,F,h3,λx hx=>?_,λh=>absurd h hg,λ_=>⟨rfl,λn hn=>(h12 n hn).2⟩,λn hn=>?_⟩
  ·grind
  ·unfold UW;grind
theorem ar(c:By)(hl:c.length<=100)(n:Nat)(hn:Ps<=n):iter n (Us c) (0,List.replicate (Int.toNat (c.length:Int)) 0)=some ((c.length:Int),List.replicate c.length 1):=by have hB:1048576<=n:=AAv ADj hn;rw[ABX];refine jP _ c.length 1 (λi out hi ho=>?_) (λout ho=>by simp[Us]) n J;simp only[Us,Po (ho▸hi),Pj hi J,QX,ABX,ABU,List.length_replicate];grind
theorem dD(hf:P3 w h c=true){r:Rb}(s:Std c r)(n:Nat)(hn:Ps<=n){F:By}(hfar:qW w h c r far F):
  ∃C,UA n w h c r.1 r.2.1 r.2.2.1 r.2.2.2.1 r.2.2.2.2=some C/\C.Perm (XD w h c r)/\C.Pairwise λa b=>Na r.2.1 (WJ c far a) (WJ c far b) a b=true:=by
 have f:=WC hf;have hN:=f.le;have hB:1048576<=n:=AAv ADj hn;obtain⟨pm,nd,rng,l5⟩:=aN f s
 have hst:SM n w h c r.1 r.2.1 r.2.2.1 r.2.2.2.1 r.2.2.2.2=some true:=by
  rw[Yr w h c J hf r n hn,kp s.gp s.tQ];rcases s.goal with hg|⟨g1,g2⟩
  ·rw[hg];rfl
  ·rw[kp g1 g2];simp
 obtain⟨m1,m2,m3⟩:=az f s.gp r.2.2.2.1;have hb4:=(Yk (f.cell s.gp)).2.2;have hm1:decide ((Sb w h c r.2.1 r.2.2.2.1).length+[r.2.1].length<=Dj)=true:=by rw[AAf];simp[Dj];omega
 have hm2:decide ((Sb w h c r.2.1 r.2.2.2.1++[r.2.1]).length+[r.2.2.1].length<=Dj)=true:=by rw[AAf];simp[Dj];omega
 have hmA:decide ((0:Int)<=(c.length:Int))=true:=OF
 have hmB:decide ((c.length:Int)<=(Dj:Int))=true:=by rw[AAf];unfold Dj;omega
 have yt:O3 (List.replicate c.length (1:Int)) r.2.1=true:=(Ub (by simpa using s.gp)).1;have hI1:Q7 n (Sb w h c r.2.1 r.2.2.2.1++[r.2.1]) r.2.2.1=some ((Sb w h c r.2.1 r.2.2.2.1++[r.2.1]).any λx=>x==r.2.2.1):=by rw[VL];exact QU _ ADg _ n hn
 have hI2:Q7 n (RA w h r.2.1) r.2.2.1=some ((RA w h r.2.1).any λx=>x==r.2.2.1):=by rw[VL];exact QU _ J _ n hn
 have hrI:∀x∈XD w h c r,0<=x/\x<(far.length:Int):=λx hx=>by rw[hfar.len];grind
 obtain⟨C,e1,e2,e3⟩:=jU (lt:=Og far c r.2.1) (lb:=λa b=>Na r.2.1 (WJ c far a) (WJ c far b) a b) (xs:=XD w h c r) (λx hx y hy=>ZE hN (hrI x hx) (hrI y hy)) (λx y hxy=>ZE hN (XW hxy).1 (XW hxy).2) (by rw[pm.length_eq];omega) (pm.nodup_iff.2 nd) (YP _ _ _)
  (λx y z h1 h2=>by rw[ZE hN (XW (by rw[h1];rfl)).1 (XW (by rw[h2];rfl)).2];rfl)
 refine⟨C,?_,e2,e3⟩;unfold UA;simp only[Yn,QT w h c J n hn,hf,hst,ABT,ABc,ABV,aw f s.gp r.2.2.2.1 n hn,hm1,ABU,hI1,gD,bR (f.cell s.gp),hI2,hm2,hmA,hmB,decide_true,ACD,ar c hN n hn,yt,QX];by_cases hg:r.2.2.1<0
 ·obtain⟨_,zt⟩:=hfar.neg hg;have hd:decide (r.2.2.1>=0)=false:=by rw[AAl];omega
  have hc0:XD w h c r=Sb w h c r.2.1 r.2.2.2.1++[r.2.1]:=by unfold XD;rw[hd];simp
  grind
 ·obtain⟨_,zt⟩:=hfar.pos J;have hd:decide (r.2.2.1>=0)=true:=by rw[AAf];omega
  have hc0:XD w h c r=(Sb w h c r.2.1 r.2.2.2.1++[r.2.1])++(bif !((Sb w h c r.2.1 r.2.2.2.1++[r.2.1]).any λx=>x==r.2.2.1)&&(RA w h r.2.1).any λx=>x==r.2.2.1 then [r.2.2.1]else []):=by unfold XD;rw[hd];rfl
  rw[hd,zt n hn]
  revert hc0
  generalize ((Sb w h c r.2.1 r.2.2.2.1++[r.2.1]).any λx=>x==r.2.2.1)=b1;generalize ((RA w h r.2.1).any λx=>x==r.2.2.1)=b2;intro hc0;cases b1<;>cases b2<;>simp only[ABc,ABu,ABx,ACA,ABU,ABV,ABn,ABT]at hc0 ⊢ <;> rw[<-hc0,e1]<;>rfl
theorem ov(hN:c.length<=100){r:Rb}(s:Std c r){F:By}(hfar:qW w h c r far F):
  ∃rk:Int->Int,(∀v,0<=v/\v<(c.length:Int)->VT r.1 r.2.1 r.2.2.1 r.2.2.2.1 r.2.2.2.2 F v=some (rk v))/\
   ∀a b,(0<=a/\a<(c.length:Int))->(0<=b/\b<(c.length:Int))->(rk a<rk b↔WJ c far a<WJ c far b)/\(rk a=rk b↔WJ c far a=WJ c far b):=by
 by_cases hg:r.2.2.1<0
 ·obtain⟨_,zt⟩:=hfar.neg hg
  have hk:∀v,0<=v/\v<(c.length:Int)->WJ c far v=bif v==r.2.1 then 0 else 1:=λv hv=>by
   have:Pq far v=bif v==r.2.1 then 0 else 1:=by
    rw[zt];unfold Pq;rw[List.getD_eq_getElem?_getD,ACJ];by_cases he:v=r.2.1
    ·subst he;rw[AAP rfl,AAP ADg];simp
    ·have zD:¬r.2.1.toNat=v.toNat:=λe=>he (by have:=s.gp;omega);rw[AAQ zD,List.getElem?_replicate,AAP J,show(v==r.2.1)=false by simpa using he];rfl
   unfold WJ;rw[this];cases(v==r.2.1)<;>rfl
  refine⟨λv=>bif v==r.2.1 then 0 else 1,λv hv=>?_,λa b ha hb=>?_⟩
  ·unfold VT;rw[ABZ hg];show _=some (bif v==r.2.1 then 0 else 1);cases(v==r.2.1)<;>rfl
  grind
 ·obtain⟨hF,_⟩:=hfar.pos J;have hb:∀v,0<=v/\v<(c.length:Int) -> -1<=Pq far v/\Pq far v<=(c.length:Int):=λv hv=>hfar.NC _ (Ub (by rw[hfar.len];exact hv)).2.2;refine⟨λv=>bif decide (Pq far v<0)then 1000 else Pq far v,λv hv=>?_,λa b ha zJ=>?_⟩
  ·unfold VT;rw[ABd hg,hF];simp only[ABV,X1 (c:=far) (i:=v) (by rw[hfar.len];exact hv),ABT];grind
  ·have q1:=hb a ha;have q2:=hb b zJ;unfold WJ;grind
theorem lV(hN:c.length<=100){r:Rb}(s:Std c r){F:By}(hfar:qW w h c r far F){a b:Int}(ha:0<=a/\a<(c.length:Int))(hb:0<=b/\b<(c.length:Int)):
  Wt r.1 r.2.1 r.2.2.1 r.2.2.2.1 r.2.2.2.2 F a b=some (Na r.2.1 (WJ c far a) (WJ c far b) a b):=by
 obtain⟨rk,h1,h2⟩:=ov hN s hfar;obtain⟨q1,q2⟩:=h2 a b ha hb;rw[<-gz q1 q2];unfold Wt Na;grind
theorem ZS(f:lR w h c){r:Rb}(s:Std c r)(n:Nat)(hn:Ps<=n){F:By}(hfar:qW w h c r far F):
  ∃C,Ss n w h c r.1 r.2.1 r.2.2.1 r.2.2.2.1 r.2.2.2.2 F=some C/\C.Perm (VE w h c r)/\C.Pairwise λa b=>Na r.2.1 (WJ c far a) (WJ c far b) a b=true:=by
 have hN:=f.le;have hB:1048576<=n:=AAv ADj hn;obtain⟨pm,nd,rng,l5⟩:=aN f s;obtain⟨m1,m2,m3⟩:=az f s.gp false
 have hfl:=Zc (Td c r.2.2.1 r.2.2.2.1 (Sb w h c r.2.1 false)) (Sb w h c r.2.1 false) (λk => !r.2.2.2.1||(Pq c k != 2||k==r.2.2.1)) (λj x out hx hj ho=>by
  have hxm:=m1 x (AAN hx);have hm:decide (out.length+[x].length<=Dj)=true:=by rw[AAf];simp[Dj];omega
  simp only[Td,Po hj,ABX,hx,ABT,X1 (c:=c) (i:=x) hxm.1,Pj hj J,ABU,hm];grind) (λout=>by simp[Td]) n J
 have hcS:(Sb w h c r.2.1 false).filter (λk => !r.2.2.2.1||(Pq c k != 2||k==r.2.2.1))++[r.2.1]=VE w h c r:=rfl;generalize hx9:(Sb w h c r.2.1 false).filter (λk => !r.2.2.2.1||(Pq c k != 2||k==r.2.2.1))=x9 at hfl hcS;have hx9l:x9.length<=4:=by rw[<-hx9];exact AAv (ABs _ _) m3
 generalize hj9:((Sb w h c r.2.1 false).length:Int)=j9 at hfl
 obtain⟨l,h1,h2,h3⟩:=eM (Te n r.1 r.2.1 r.2.2.1 r.2.2.2.1 r.2.2.2.2 F (x9,j9)) (λa b=>Na r.2.1 (WJ c far a) (WJ c far b) a b) (VE w h c r) nd (YP _ _ _) (λi x l hx hl zA hmem=>by
   have hi:i<(VE w h c r).length:=J
   have hxr:=(rng x (AAN hx)).1
   have step:∀k y z,l[k]?=some y->SH r.1 r.2.1 r.2.2.1 r.2.2.2.1 r.2.2.2.2 F (x9,j9) (l,(i:Int)) (((k+1:Nat):Int),hole l (k+1) z)=some (bif Na r.2.1 (WJ c far x) (WJ c far y) x y then .inl ((k:Int),hole l k y)else .inr (((k+1:Nat):Int),hole l (k+1) z)):=by
    intro k y z hk;have hkl:k<l.length:=(AAK.1 hk).1;have hyr:=(rng y (hmem y (AAN hk))).1;have hw:Pn (((k+1:Nat):Int)-1)=(k:Int):=by rw[Pr J J];omega
    have hi1:O3 (hole l (k+1) z) (k:Int)=true:=Po (by rw[TB J];omega);have hi2:O3 (hole l (k+1) z) ((k+1:Nat):Int)=true:=Po (by rw[TB J];omega);simp only[SH,hcS,hw,hi1,hi2,Po hi,hx,ABX,dc hk,ABT,lV hN s hfar hxr hyr,QX,eA hk,ABU];rw[show decide (((k+1:Nat):Int)>0)=true by rw[AAf];omega];cases Na r.2.1 (WJ c far x) (WJ c far y) x y<;>rfl
   obtain⟨k,z,e,hk,q1,q2⟩:=ij (SH r.1 r.2.1 r.2.2.1 r.2.2.2.1 r.2.2.2.2 F (x9,j9) (l,(i:Int))) (λy=>Na r.2.1 (WJ c far x) (WJ c far y) x y) l (λk y z hk hy=>by rw[step k y z hk,hy];rfl) (λk y z hk hy=>by rw[step k y z hk,hy];rfl) (λz=>by simp[SH]) n J x;refine⟨k,hk,?_,q1,q2⟩;have hmr:decide (l.length+[x].length<=Dj)=true:=by rw[AAf];simp[Dj];omega
   simp only[Te,hcS,hmr,e,Po hi,hx,ABT,Po (show k<(hole l k z).length by rw[TB hk];omega),ABX,QX,bX hk,Pj hi J,ABU];grind) (λl=>by simp[Te,hcS]) n J
 refine⟨l,?_,h2,h3⟩;have hm:decide (x9.length+[r.2.1].length<=Dj)=true:=by rw[AAf];simp[Dj];omega
 unfold Ss;simp only[bK f s.gp false n hn,ABT,hfl,hm,ABU,h1]
theorem Y2(hf:P3 w h c=true){r:Rb}(s:Std c r):
  ∃F C,(∀n,Ps<=n->UW n w h c r.1 r.2.1 r.2.2.1 r.2.2.2.1 r.2.2.2.2=some F/\Ss n w h c r.1 r.2.1 r.2.2.1 r.2.2.2.1 r.2.2.2.2 F=some C/\UA n w h c r.1 r.2.1 r.2.2.1 r.2.2.2.1 r.2.2.2.2=some C)/\
   (∀v∈C,(0<=v/\v<(c.length:Int))/\Pq c v≠0)/\C.Nodup/\C.length<=5:=by
 have f:=WC hf;obtain⟨far,F,hfar⟩:=px f s;obtain⟨B,b1,b2,b3⟩:=ZS f s Ps (AAc _) hfar;obtain⟨pm,nd,rng,l5⟩:=aN f s;refine⟨F,B,λn hn=>⟨hfar.spec n hn,?_,?_⟩,λv hv=>rng v (b2.mem_iff.1 hv),b2.nodup_iff.2 nd,by rw[b2.length_eq];exact l5⟩
 ·obtain⟨A,a1,a2,a3⟩:=ZS f s n hn hfar;rw[a1,ae (YP r.2.1 (WJ c far) (VE w h c r)) a3 b3 a2 b2]
 ·obtain⟨A,a1,a2,a3⟩:=dD hf s n hn hfar;rw[a1,ae (YP r.2.1 (WJ c far) (VE w h c r)) a3 b3 (a2.trans pm) b2]
theorem Zl{l:By}{v:Int}(hi:0<=i/\i<(l.length:Int))(hk:0<=k):Pq (l.set i.toNat v) k=if k=i then v else Pq l k:=by unfold Pq;grind
theorem kH{l:By}{v:Int}:v∈l↔∃k:Int,(0<=k/\k<(l.length:Int))/\Pq l k=v:=by
 constructor
 ·intro h;obtain⟨j,hj,e⟩:=ABY.1 h;exact⟨j,⟨J,J⟩,by rw[<-e];simp[Pq,List.getD,AAI hj]⟩
 ·rintro ⟨k,hk,rfl⟩
  exact(Ub hk).2.2
def Zk(l:By):Nat:=l.countP λx=>decide (x<0)
theorem a7{l:By}{v:Int}(hi:0<=i/\i<(l.length:Int)):Zk (l.set i.toNat v)+(if Pq l i<0 then 1 else 0)=Zk l+(if v<0 then 1 else 0):=by obtain⟨_,e1,m⟩:=Ub hi;obtain⟨hil,e2⟩:=AAK.1 e1;unfold Zk;grind
structure oO(c:By)(crew:ADk):Prop where
 n20:crew.length<=20
 mb:∀i,0<=i->i<(crew.length:Int)->Std c (QF crew i)
 fN:∀i j,0<=i->i<(crew.length:Int)->0<=j->j<(crew.length:Int)->(QF crew i).2.1=(QF crew j).2.1->i=j
def lQ(c:By)(v:Int):Prop:=(0<=v/\v<(c.length:Int))/\Pq c v≠0
structure tP(c:By)(crew:ADk)(next:By)(i p:Int):Prop where
 len:next.length=crew.length
 ir:0<=i/\i<(crew.length:Int)
 neg:Pq next i<0
 vals:∀k,0<=k->k<(crew.length:Int)->Pq next k = -1\/lQ c (Pq next k)
 D:∀a b,0<=a->a<(crew.length:Int)->0<=b->b<(crew.length:Int)->0<=Pq next a->Pq next a=Pq next b->a=b
 U:∀j k,0<=j->j<(crew.length:Int)->0<=k->k<(crew.length:Int)->Pq next j<0->j≠i->Pq next k≠(QF crew j).2.1
 T:∀k,0<=k->k<(crew.length:Int)->Pq next k=(QF crew i).2.1->k=p
 wh:p = -1\/((0<=p/\p<(crew.length:Int))/\p≠i)
structure Kept(c:By)(crew:ADk)(next next':By):Prop where
 len:next'.length=crew.length
 vals:∀k,0<=k->k<(crew.length:Int)->Pq next' k = -1\/lQ c (Pq next' k)
 Wz:∀k,0<=k->k<(crew.length:Int)->0<=Pq next k->Pq next' k=Pq next k
structure Good(c:By)(crew:ADk)(next':By):Prop where
 D:∀a b,0<=a->a<(crew.length:Int)->0<=b->b<(crew.length:Int)->0<=Pq next' a->Pq next' a=Pq next' b->a=b
 U:∀j k,0<=j->j<(crew.length:Int)->0<=k->k<(crew.length:Int)->Pq next' j<0->Pq next' k≠(QF crew j).2.1
structure iR(c:By)(crew:ADk)(next:By)(i:Int)(b:Bool)(next':By):Prop where
 kept:Kept c crew next next'
 pL:Zk next'+1<=Zk next
 yes:b=true->Good c crew next'/\0<=Pq next' i
 no:b=false->Pq next' i=(QF crew i).2.1/\∀k,0<=k->k<(crew.length:Int)->Pq next k<0->Pq next' k<0\/Pq next' k=(QF crew k).2.1
theorem qQ(w h:Int)(c:By)(crew:ADk)(hl:crew.length<=20)(fields:List By)(next:By)(hn1:next.length=crew.length)(v i:Int)(hi:0<=Pq next i)(n:Nat)(hn:Ps<=n):
  ∃o,Sa n w h c crew next v i=some (o,w,h,c,crew,next)/\YG n w h c crew fields next v=some (o,w,h,c,crew,fields,next)/\
   ((o = -1/\∀j,0<=j->j<(crew.length:Int)->(QF crew j).2.1=v->0<=Pq next j)\/((0<=o/\o<(crew.length:Int))/\(QF crew o).2.1=v/\Pq next o<0)):=by
 have hB:1048576<=n:=AAv ADj hn
 obtain⟨z,w',hS,h3,h4⟩:=Zj (f:=SR w h c crew next v i) (g:=Wu w h c crew fields next v)
  (λx y=>∃k:Nat,x=(k:Int)/\y=(k:Int)/\k<=crew.length/\∀j,0<=j->j<(k:Int)->(QF crew j).2.1=v->0<=Pq next j)
  (λz y=>((∃a b,z=.inl a/\y=.inl b)/\∀j,0<=j->j<(crew.length:Int)->(QF crew j).2.1=v->0<=Pq next j)\/∃o,z=.inr (o,w,h,c,crew,next)/\y=.inr (o,w,h,c,crew,fields,next)/\(0<=o/\o<(crew.length:Int))/\(QF crew o).2.1=v/\Pq next o<0)
  (λx=>crew.length-x.toNat) (λx y hR=>by
   obtain⟨k,rfl,rfl,hk,zq⟩:=hR;by_cases hk2:k=crew.length
   ·subst hk2;exact .inl ⟨.inl (crew.length:Int),.inl (crew.length:Int),by simp[SR],by simp[Wu],.inl ⟨⟨_,_,rfl,rfl⟩,zq⟩⟩
   ·have hk':k<crew.length:=J
    have hr:=bC (crew:=crew) (i:=(k:Int)) ⟨J,J⟩;obtain⟨i1,i2,i3⟩:=Ub (out:=next) (v:=(k:Int)) ⟨J,J⟩;have hd:decide ((k:Int)<(crew.length:Int))=true:=by simpa using hk'
    simp only[SR,Wu,hd,hr,ABT,i1,i2,ABU,Pj hk' J];by_cases hv:(QF crew (k:Int)).2.1=v
    ·by_cases hneg:Pq next (k:Int)<0
     ·have zD:((k:Int) != i)=true:=by rw[AB2];intro e;rw[e]at hneg;omega
      refine .inl ⟨.inr ((k:Int),w,h,c,crew,next),.inr ((k:Int),w,h,c,crew,fields,next),?_,?_,.inr ⟨_,rfl,rfl,⟨J,J⟩,hv,hneg⟩⟩
      all_goals grind
     ·refine .inr ⟨((k+1:Nat):Int),((k+1:Nat):Int),?_,?_,⟨k+1,rfl,rfl,J,λj h0 h1 h2=>?_⟩,J⟩
      all_goals grind
    ·have hvb:((QF crew (k:Int)).2.1==v)=false:=by simpa using hv
     refine .inr ⟨((k+1:Nat):Int),((k+1:Nat):Int),?_,?_,⟨k+1,rfl,rfl,J,λj h0 h1 h2=>?_⟩,J⟩
     all_goals grind) n 0 0 ⟨0,rfl,rfl,J,λj h0 h1=>J⟩ J
 rcases hS with⟨⟨a,b,rfl,rfl⟩,zq⟩|⟨o,rfl,rfl,q1,q2,q3⟩
 ·exact⟨-1,by unfold Sa;rw[h3];rfl,by unfold YG;rw[h4];rfl,.inl ⟨rfl,zq⟩⟩
 ·exact⟨o,by unfold Sa;rw[h3];rfl,by unfold YG;rw[h4];rfl,.inr ⟨q1,q2,q3⟩⟩
theorem oB{α:Type}{l:List α}{k:Nat}{v:α}(h:l[k]?=some v):l.set k v=l:=by obtain⟨hk,e⟩:=AAK.1 h;subst e;exact List.set_getElem_self hk
def Oe(crew:ADk)(p:Int):Int:=if 0<=p then(QF crew p).2.1 else -1
structure pe(w h:Int)(c:By)(crew:ADk)(fields:List By):Prop where
 len:fields.length=crew.length
 each:∀i,0<=i->i<(crew.length:Int)->∃F C,fields[i.toNat]?=some F/\(∀n,Ps<=n->Ss n w h c (QF crew i).1 (QF crew i).2.1 (QF crew i).2.2.1 (QF crew i).2.2.2.1 (QF crew i).2.2.2.2 F=some C/\
  UA n w h c (QF crew i).1 (QF crew i).2.1 (QF crew i).2.2.1 (QF crew i).2.2.2.1 (QF crew i).2.2.2.2=some C)/\(∀v∈C,lQ c v)/\C.length<=5
structure LI(c:By)(crew:ADk)(next:By)(i p:Int)(nI nS:By):Prop where
 pre:tP c crew nI i p
 Wz:∀k,0<=k->k<(crew.length:Int)->0<=Pq next k->Pq nI k=Pq next k
 pK:∀k,0<=k->k<(crew.length:Int)->Pq next k<0->Pq nI k<0\/Pq nI k=(QF crew k).2.1
 pL:Zk nI<=Zk next
 st:nS=nI\/∃v,nS=nI.set i.toNat v/\0<=v/\∃k,(0<=k/\k<(crew.length:Int))/\k≠i/\Pq nI k=v
section
variable {c:By}{crew:ADk}{next nI nS:By}{i p:Int}
theorem LI.OJ(h:LI c crew next i p nI nS):nS.length=crew.length:=by
 rcases h.st with rfl|⟨v,rfl,_⟩
 ·exact h.pre.len
 ·rw[ACC];exact h.pre.len
theorem LI.any(h:LI c crew next i p nI nS){v:Int}(hv:0<=v):(nS.any λx=>x==v)=nI.any λx=>x==v:=by
 rcases h.st with rfl|⟨u,rfl,hu,k,hk,hki,hku⟩
 ·rfl
 ·have hlen:=h.pre.len;have hi:=h.pre.ir;rw[ABy,AA3,AA3];simp only[AAT];constructor
  ·rintro ⟨x,hx,rfl⟩
   rcases AA9 hx with hx|rfl
   ·grind
   ·exact⟨x,kH.2 ⟨k,J,hku⟩,rfl⟩
  ·rintro ⟨x,hx,rfl⟩
   obtain⟨j,hj,e⟩:=kH.1 hx;refine⟨x,kH.2 ⟨j,No,?_⟩,rfl⟩;rw[Zl J hj.1,AAQ,e]
   rintro rfl
   have:=h.pre.neg;omega
theorem LI.set(h:LI c crew next i p nI nS)(v:Int):nS.set i.toNat v=nI.set i.toNat v:=by
 rcases h.st with rfl|⟨u,rfl,_⟩
 ·rfl
 ·rw[List.set_set]
theorem LI.jr(hcr:oO c crew)(h:LI c crew next i p nI nS){v:Int}(hv:lQ c v)(hnt:∀k,0<=k->k<(crew.length:Int)->Pq nI k≠v)(hno:∀j,0<=j->j<(crew.length:Int)->(QF crew j).2.1=v->0<=Pq (nI.set i.toNat v) j)(hneg0:Pq next i<0):
  iR c crew next i true (nI.set i.toNat v):=by
 have hlen:=h.pre.len;have hi:=h.pre.ir;have hi2:0<=i/\i<(nI.length:Int):=by rw[hlen];exact hi
 have hs:∀k,0<=k->Pq (nI.set i.toNat v) k=if k=i then v else Pq nI k:=λk hk=>Zl hi2 hk
 refine⟨⟨by simp[hlen],λk h0 h1=>?_,λk h0 h1 h2=>?_⟩,?_,λ_=>⟨⟨λa b a0 a1 b0 b1 hna hab=>?_,λj k j0 j1 k0 k1 hnj hkj=>?_⟩,?_⟩,λhb=>by cases hb⟩
 ·rw[hs k h0];split
  ·exact .inr hv
  ·exact h.pre.vals k h0 h1
 ·rw[hs k h0,AAQ No];exact h.Wz k h0 h1 h2
 ·have:=a7 (l:=nI) (i:=i) (v:=v) hi2;rw[AAP h.pre.neg,AAQ (by have:=hv.1;omega)]at this;have:=h.pL;omega
 ·rw[hs a a0,hs b b0]at hab;rw[hs a a0]at hna;split at hab<;>split at hab
  ·omega
  ·grind
  ·grind
  ·rw[AAQ ADs]at hna;exact h.pre.D a b a0 a1 b0 b1 hna hab
 ·rw[hs k k0]at hkj
  have hji:j≠i:=by
   rintro rfl
   rw[hs j j0,AAP rfl]at hnj;have:=hv.1;omega
  have hnj':Pq nI j<0:=by rw[hs j j0,AAQ hji]at hnj;exact hnj
  split at hkj
  ·grind
  ·exact h.pre.U j k j0 j1 k0 k1 hnj' hji hkj
 ·rw[hs i hi.1,AAP rfl];exact hv.1.1
theorem LI.push(hcr:oO c crew)(h:LI c crew next i p nI nS){v o:Int}(hv:lQ c v)(hnt:∀k,0<=k->k<(crew.length:Int)->Pq nI k≠v)(ho:0<=o/\o<(crew.length:Int))(hov:(QF crew o).2.1=v)(hon:Pq (nI.set i.toNat v) o<0):
  tP c crew (nI.set i.toNat v) o i/\Zk (nI.set i.toNat v)+1=Zk nI/\o≠i:=by
 have hlen:=h.pre.len;have hi:=h.pre.ir;have hi2:0<=i/\i<(nI.length:Int):=by rw[hlen];exact hi
 have hs:∀k,0<=k->Pq (nI.set i.toNat v) k=if k=i then v else Pq nI k:=λk hk=>Zl hi2 hk
 have hoi:o≠i:=by
  rintro rfl
  rw[hs o ho.1,AAP rfl]at hon;have:=hv.1;omega
 have hng:=a7 (l:=nI) (i:=i) (v:=v) hi2;rw[AAP h.pre.neg,AAQ (by have:=hv.1;omega)]at hng;refine⟨⟨by simp[hlen],ho,hon,λk h0 h1=>?_,λa b a0 a1 b0 b1 hna hab=>?_,λj k j0 j1 k0 k1 hnj hjo hkj=>?_,λk k0 k1 hk=>?_,.inr ⟨hi,hoi.symm⟩⟩,J,hoi⟩
 ·rw[hs k h0];split
  ·exact .inr hv
  ·exact h.pre.vals k h0 h1
 ·rw[hs a a0,hs b b0]at hab;rw[hs a a0]at hna;split at hab<;>split at hab
  ·omega
  ·exact absurd hab.symm (hnt b b0 b1)
  ·exact absurd hab (hnt a a0 a1)
  ·rw[AAQ ADs]at hna;exact h.pre.D a b a0 a1 b0 b1 hna hab
 ·rw[hs k k0]at hkj
  have hji:j≠i:=by
   rintro rfl
   rw[hs j j0,AAP rfl]at hnj;have:=hv.1;omega
  have hnj':Pq nI j<0:=by rw[hs j j0,AAQ hji]at hnj;exact hnj
  split at hkj
  ·exact hjo (hcr.fN j o j0 j1 ho.1 ho.2 (by rw[<-hkj,hov]))
  ·exact h.pre.U j k j0 j1 k0 k1 hnj' hji hkj
 grind
theorem LI.wa(h:LI c crew next i p nI nS){v o:Int}(hv:lQ c v)(hng:Zk (nI.set i.toNat v)+1=Zk nI){n2:By}(hp:iR c crew (nI.set i.toNat v) o true n2)(hneg0:Pq next i<0):iR c crew next i true n2:=by
 have hlen:=h.pre.len;have hi:=h.pre.ir;have hi2:0<=i/\i<(nI.length:Int):=by rw[hlen];exact hi
 have hs:∀k,0<=k->Pq (nI.set i.toNat v) k=if k=i then v else Pq nI k:=λk hk=>Zl hi2 hk
 obtain⟨g,_⟩:=hp.yes rfl;refine⟨⟨hp.kept.len,hp.kept.vals,λk h0 h1 h2=>?_⟩,?_,λ_=>⟨g,?_⟩,λhb=>by cases hb⟩
 ·have hki:k≠i:=by rintro rfl;omega
  have e:=h.Wz k h0 h1 h2;have:=hp.kept.Wz k h0 h1 (by rw[hs k h0,AAQ hki,e];exact h2);grind
 ·have:=hp.pL;have:=h.pL;omega
 ·have:=hp.kept.Wz i hi.1 hi.2 (by rw[hs i hi.1,AAP rfl];exact hv.1.1);rw[this,hs i hi.1,AAP rfl];exact hv.1.1
theorem LI.xA(hcr:oO c crew)(h:LI c crew next i p nI nS){v o:Int}(hv:lQ c v)(hnt:∀k,0<=k->k<(crew.length:Int)->Pq nI k≠v)(ho:0<=o/\o<(crew.length:Int))(hov:(QF crew o).2.1=v)(hoi:o≠i)(hon:Pq (nI.set i.toNat v) o<0)
  (hng:Zk (nI.set i.toNat v)+1=Zk nI) {n2:By} (hp:iR c crew (nI.set i.toNat v) o false n2):LI c crew next i p (n2.set i.toNat (-1)) n2:=by
 have hlen:=h.pre.len;have hi:=h.pre.ir;have hi2:0<=i/\i<(nI.length:Int):=by rw[hlen];exact hi
 have hs:∀k,0<=k->Pq (nI.set i.toNat v) k=if k=i then v else Pq nI k:=λk hk=>Zl hi2 hk
 have hl2:=hp.kept.len;have hi3:0<=i/\i<(n2.length:Int):=by rw[hl2];exact hi
 have ht:∀k,0<=k->Pq (n2.set i.toNat (-1)) k=if k=i then -1 else Pq n2 k:=λk hk=>Zl hi3 hk
 obtain⟨no1,no2⟩:=hp.no rfl
 have n2i:Pq n2 i=v:=by have:=hp.kept.Wz i hi.1 hi.2 (by rw[hs i hi.1,AAP rfl];exact hv.1.1);rw[this,hs i hi.1,AAP rfl]
 have oth:∀k,0<=k->k<(crew.length:Int)->k≠i->(0<=Pq nI k/\Pq n2 k=Pq nI k)\/(Pq nI k<0/\(Pq n2 k<0\/Pq n2 k=(QF crew k).2.1)):=by
  intro k h0 h1 hki;by_cases hk:Pq nI k<0
  ·right;refine⟨hk,no2 k h0 h1 ?_⟩;rw[hs k h0,AAQ hki];exact hk
  ·left;refine⟨J,?_⟩;have:=hp.kept.Wz k h0 h1 (by rw[hs k h0,AAQ hki];omega);rw[this,hs k h0,AAQ hki]
 have hat:∀k,0<=k->k<(crew.length:Int)->0<=(QF crew k).2.1:=λk h0 h1=>(hcr.mb k h0 h1).gp.1;refine⟨⟨by simp[hl2],hi,by rw[ht i hi.1,AAP rfl];omega,λk h0 h1=>?_,λa b a0 a1 b0 b1 hna hab=>?_,λj k j0 j1 k0 k1 hnj hji hkj=>?_,λk k0 k1 hk=>?_,h.pre.wh⟩,λk h0 h1 h2=>?_,λk h0 h1 h2=>?_,?_,.inr ⟨v,?_,hv.1.1,o,ho,hoi,?_⟩⟩
 ·rw[ht k h0];split
  ·exact .inl rfl
  ·exact hp.kept.vals k h0 h1
 ·rw[ht a a0,ht b b0]at hab;rw[ht a a0]at hna;by_cases hai:a=i
  ·rw[AAP hai]at hna;omega
  ·rw[AAQ hai]at hna hab;by_cases hbi:b=i
   ·rw[AAP hbi]at hab;omega
   ·rw[AAQ hbi]at hab;rcases oth a a0 a1 hai with⟨ha1,ha2⟩|⟨ha1,ha2⟩
    ·rcases oth b b0 b1 hbi with⟨hb1,hb2⟩|⟨hb1,hb2⟩
     ·rw[ha2,hb2]at hab;exact h.pre.D a b a0 a1 b0 b1 ha1 hab
     ·rcases hb2 with hb2|hb2
      ·omega
      ·rw[ha2,hb2]at hab;exact absurd hab (h.pre.U b a b0 b1 a0 a1 hb1 hbi)
    ·rcases ha2 with ha2|ha2
     ·omega
     ·rcases oth b b0 b1 hbi with⟨hb1,hb2⟩|⟨hb1,hb2⟩
      ·rw[ha2,hb2]at hab;exact absurd hab.symm (h.pre.U a b a0 a1 b0 b1 ha1 hai)
      ·rcases hb2 with hb2|hb2
       ·omega
       ·rw[ha2,hb2]at hab;exact hcr.fN a b a0 a1 b0 b1 hab
 ·rw[ht j j0,AAQ hji]at hnj;rw[ht k k0]at hkj
  have hjI:Pq nI j<0:=by
   rcases oth j j0 j1 hji with⟨h1,h2⟩|⟨h1,_⟩
   ·omega
   ·exact h1
  by_cases hki:k=i
  ·rw[AAP hki]at hkj;have:=hat j j0 j1;omega
  ·rw[AAQ hki]at hkj;rcases oth k k0 k1 hki with⟨h1,h2⟩|⟨h1,h2⟩
   ·rw[h2]at hkj;exact h.pre.U j k j0 j1 k0 k1 hjI hji hkj
   ·rcases h2 with h2|h2
    ·have:=hat j j0 j1;omega
    ·rw[h2]at hkj;have:=hcr.fN k j k0 k1 j0 j1 hkj;subst this;have:=hat k k0 k1;omega
 ·rw[ht k k0]at hk;have:=hat i hi.1 hi.2;by_cases hki:k=i
  ·rw[AAP hki]at hk;omega
  ·rw[AAQ hki]at hk;rcases oth k k0 k1 hki with⟨h1,h2⟩|⟨h1,h2⟩
   ·rw[h2]at hk;exact h.pre.T k k0 k1 hk
   ·rcases h2 with h2|h2
    ·omega
    ·rw[h2]at hk;exact absurd (hcr.fN k i k0 k1 hi.1 hi.2 hk) hki
 ·have e:=h.Wz k h0 h1 h2
  have hki:k≠i:=by
   rintro rfl
   have:=h.pre.neg;omega
  rw[ht k h0,AAQ hki];rcases oth k h0 h1 hki with⟨_,h4⟩|⟨h3,_⟩
  ·rw[h4,e]
  ·omega
 ·rw[ht k h0];by_cases hki:k=i
  ·rw[AAP hki];exact .inl J
  ·rw[AAQ hki];rcases h.pK k h0 h1 h2 with h3|h3
   ·rcases oth k h0 h1 hki with⟨h4,_⟩|⟨_,h5⟩
    ·omega
    ·exact h5
   ·rcases oth k h0 h1 hki with⟨_,h5⟩|⟨h4,h5⟩
    ·rw[h5];exact .inr h3
    ·exact h5
 ·have q1:=a7 (l:=n2) (i:=i) (v := -1) hi3;rw[n2i,AAQ (by have:=hv.1;omega),AAP J]at q1;have:=hp.pL;have:=h.pL;omega
 ·rw[List.set_set];exact(oB (by rw[<-n2i];exact(Ub hi3).2.1)).symm
 grind
theorem LI.stays(hcr:oO c crew)(h:LI c crew next i p nI nS):iR c crew next i false (nI.set i.toNat (QF crew i).2.1):=by
 have hlen:=h.pre.len;have hi:=h.pre.ir;have hi2:0<=i/\i<(nI.length:Int):=by rw[hlen];exact hi
 have hs:∀k,0<=k->Pq (nI.set i.toNat (QF crew i).2.1) k=if k=i then(QF crew i).2.1 else Pq nI k:=λk hk=>Zl hi2 hk
 have hst:=hcr.mb i hi.1 hi.2;refine⟨⟨by simp[hlen],λk h0 h1=>?_,λk h0 h1 h2=>?_⟩,?_,λhb=>(by cases hb),λ_=>⟨No,λk h0 h1 h2=>?_⟩⟩
 ·rw[hs k h0];split
  ·exact .inr ⟨hst.gp,hst.tQ⟩
  ·exact h.pre.vals k h0 h1
 ·have e:=h.Wz k h0 h1 h2;rw[hs k h0,AAQ (by rintro rfl;have:=h.pre.neg;omega),e]
 ·have:=a7 (l:=nI) (i:=i) (v:=(QF crew i).2.1) hi2;rw[AAP h.pre.neg,AAQ (by have:=hst.gp;omega)]at this;have:=h.pL;omega
 ·rw[hs k h0];by_cases hki:k=i
  ·grind
  ·rw[AAQ hki];exact h.pK k h0 h1 h2
end
theorem gF{w h:Int}{c:By}{crew:ADk}(hcr:oO c crew){fields:List By}(hfl:pe w h c crew fields):∀(m:Nat)(next:By)(i p:Int),tP c crew next i p->Ps+Zk next+1<=m->
  ∃b next',Qc m w h c crew next i p=some (b,w,h,c,crew,next')/\RO m w h c crew fields next i (Oe crew p)=some (b,w,h,c,crew,fields,next')/\iR c crew next i b next'
 |0,next,i,p,hpre,hm=>absurd hm J
 |m+1,next,i,p,hpre,hm=>by
  have hir:=hpre.ir;have hneg0:=hpre.neg;have hpos:0<Zk next:=List.countP_pos_iff.2 ⟨Pq next i,(Ub (by rw[hpre.len];exact hir)).2.2,No⟩
  have hB:Ps<=m:=J
  have hB2:1048576<=m:=AAv ADj hB;have hr:=bC hir;obtain⟨F,C,hF,hC,hCv,hC5⟩:=hfl.each i hir.1 hir.2;obtain⟨hC1,hC2⟩:=hC m hB
  have hif:O3 fields i=true:=by obtain⟨k,rfl⟩:∃k:Nat,i=k:=⟨i.toNat,J⟩;exact Po No
  have hn20:=hcr.n20
  obtain⟨z,y,hS,e1,e2⟩:=Zj (f:=Qh (Qc m) m i p C) (g:=RI (RO m) m i (Oe crew p) (QF crew i) C)
   (λx y=>∃(k:Nat) (nI nS:By),x=((k:Int),w,h,c,crew,nI)/\y=((k:Int),w,h,c,crew,fields,nS)/\k<=C.length/\LI c crew next i p nI nS)
   (λz y=>(∃(k:Int) (nI nS:By),z=.inl (k,w,h,c,crew,nI)/\y=.inl (k,w,h,c,crew,fields,nS)/\LI c crew next i p nI nS)\/∃n2:By,z=.inr (true,w,h,c,crew,n2)/\y=.inr (true,w,h,c,crew,fields,n2)/\iR c crew next i true n2)
   (λx=>C.length-x.1.toNat) (λx y hR=>by
    obtain⟨k,nI,nS,rfl,rfl,hk,hLI⟩:=hR;by_cases hk2:k=C.length
    ·subst hk2;exact .inl ⟨.inl ((C.length:Int),w,h,c,crew,nI),.inl ((C.length:Int),w,h,c,crew,fields,nS),by simp[Qh],by simp[RI],.inl ⟨_,nI,nS,rfl,rfl,hLI⟩⟩
    ·have hk':k<C.length:=J
     have hx:C[k]?=some C[k]:=AAI hk';have hv:=hCv C[k] (ABW hk');generalize C[k]=v at hx hv;have hd:decide ((k:Int)<(C.length:Int))=true:=by simpa using hk'
     have hlenI:=hLI.pre.len;have hlenS:=hLI.OJ;have hiI:O3 nI i=true:=(Ub J).1;have hiS:O3 nS i=true:=(Ub J).1
     have t1:UI m w h c crew nI v=some ((nI.any λx=>x==v),w,h,c,crew,nI):=by unfold UI;rw[VL,QU nI J v m hB];rfl
     have t2:Qu m nS v=some (nI.any λx=>x==v):=by rw[QU nS J v m hB,hLI.any hv.1.1]
     have t3:(bif decide (p>=0)then(JQ crew p).bind λ(x7:Rb)=>some (v==x7.2.1,w,h,c,crew,nI)else some (false,w,h,c,crew,nI))=some ((v==Oe crew p),w,h,c,crew,nI):=by
      rcases hpre.wh with rfl|⟨hp1,hp2⟩
      ·have:(v==Oe crew (-1))=false:=by unfold Oe;rw[AAQ J,ABa];have:=hv.1;omega
       grind
      ·rw[ABZ (show p>=0 from hp1.1),ABU,bC hp1,ABT];unfold Oe;grind
     have hcur:∀ {a b:Nat},a=b+1->True:=λ_=>trivial;by_cases hskip:((nI.any λx=>x==v)||(v==Oe crew p))=true
     ·refine .inr ⟨(((k+1:Nat):Int),w,h,c,crew,nI),(((k+1:Nat):Int),w,h,c,crew,fields,nS),?_,?_,⟨k+1,nI,nS,rfl,rfl,J,hLI⟩,J⟩
      ·simp only[Qh,hd,Po hk',ABX,hx,ABT,t1,t3,Pj hk' J,ABU];grind
      ·simp only[RI,hd,Po hk',ABX,hx,ABT,t2,Pj hk' J,ABU];grind
     ·have hs1:(nI.any λx=>x==v)=false:=by
       cases hq:(nI.any λx=>x==v)with
       |false=>rfl
       |true=>grind
      have hs2:(v==Oe crew p)=false:=by
       cases hq:(v==Oe crew p)with
       |false=>rfl
       |true=>grind
      have hnt:∀k,0<=k->k<(crew.length:Int)->Pq nI k≠v:=λk h0 h1 e=>by have:=List.any_eq_false.1 hs1 (Pq nI k) (Ub (by rw[hlenI];exact⟨h0,h1⟩)).2.2;grind
      have hset:=hLI.set v;have hn1:Pq (nI.set i.toNat v) i=v:=by rw[Zl J hir.1,AAP rfl]
      obtain⟨o,w1,w2,hwho⟩:=qQ w h c crew hn20 fields (nI.set i.toNat v) (by simp[hlenI]) v i (by rw[hn1];exact hv.1.1) m hB;rcases hwho with⟨rfl,hno⟩|⟨ho,hov,hon⟩
      ·refine .inl ⟨.inr (true,w,h,c,crew,nI.set i.toNat v),.inr (true,w,h,c,crew,fields,nI.set i.toNat v),?_,?_,.inr ⟨_,rfl,rfl,hLI.jr hcr hv hnt hno hneg0⟩⟩
       ·simp only[Qh,hd,Po hk',ABX,hx,ABT,t1,t3,ABU,hs1,hs2,ABV,hiI,QX,w1];rfl
       ·simp only[RI,hd,Po hk',ABX,hx,ABT,t2,ABU,hs1,hs2,ABV,hiS,QX,hset,w2];rfl
      ·obtain⟨hpre2,hng,hoi⟩:=hLI.push hcr hv hnt ho hov hon;obtain⟨b,n2,r1,r2,hpost⟩:=gF hcr hfl m (nI.set i.toNat v) o i hpre2 (by have:=hLI.pL;omega);have hfi:Oe crew i=(QF crew i).2.1:=by unfold Oe;omega
       rw[hfi]at r2;have ho0:decide (o<0)=false:=by rw[AAl];omega
       have ho1:decide (o>=0)=true:=by rw[AAf];omega
       cases b with
       |true=>
        refine .inl ⟨.inr (true,w,h,c,crew,n2),.inr (true,w,h,c,crew,fields,n2),?_,?_,.inr ⟨_,rfl,rfl,hLI.wa hv hng hpost hneg0⟩⟩
        ·simp only[Qh,hd,Po hk',ABX,hx,ABT,t1,t3,ABU,hs1,hs2,ABV,hiI,QX,w1,ho0,r1]
        ·simp only[RI,hd,Po hk',ABX,hx,ABT,t2,ABU,hs1,hs2,ABV,hiS,QX,hset,w2,ho1,r2,ABc]
       |false=>
        have hi2:O3 n2 i=true:=(Ub (by rw[hpost.kept.len];exact hir)).1;refine .inr ⟨(((k+1:Nat):Int),w,h,c,crew,n2.set i.toNat (-1)),(((k+1:Nat):Int),w,h,c,crew,fields,n2),?_,?_,⟨k+1,_,n2,rfl,rfl,J,hLI.xA hcr hv hnt ho hov hoi hon hng hpost⟩,J⟩
        ·simp only[Qh,hd,Po hk',ABX,hx,ABT,t1,t3,ABU,hs1,hs2,ABV,hiI,QX,w1,ho0,r1,hi2,Pj hk' J]
        ·simp only[RI,hd,Po hk',ABX,hx,ABT,t2,ABU,hs1,hs2,ABV,hiS,QX,hset,w2,ho1,r2,ABu,Pj hk' J]) m (0,w,h,c,crew,next) (0,w,h,c,crew,fields,next)
   ⟨0,next,next,rfl,rfl,J,⟨hpre,λk _ _ _=>rfl,λk _ _ hk=>.inl hk,AAc _,.inl rfl⟩⟩ J
  rcases hS with⟨k,nI,nS,rfl,rfl,hLI⟩|⟨n2,rfl,rfl,hpost⟩
  ·have hiI:O3 nI i=true:=(Ub (by rw[hLI.pre.len];exact hir)).1;have hiS:O3 nS i=true:=(Ub (by rw[hLI.OJ];exact hir)).1;refine⟨false,nI.set i.toNat (QF crew i).2.1,?_,?_,hLI.stays hcr⟩
   ·simp only[Qc,hr,ABT,hC2,e1,hiI,ABU,QX]
   ·simp only[RO,hr,ABT,hif,ABU,hF,hC1,e2,hiS,QX,hLI.set]
  ·refine⟨true,n2,?_,?_,hpost⟩
   ·simp only[Qc,hr,ABT,hC2,e1]
   ·simp only[RO,hr,ABT,hif,ABU,hF,hC1,e2]
theorem mR{crew:ADk}(hcr:oO c crew){next':By}{b:Bool}(hlen:next.length=crew.length)(hi:0<=i/\i<(crew.length:Int))(hg:Good c crew next)(hp:iR c crew next i b next'):Good c crew next'/\0<=Pq next' i:=by
 cases b with
 |true=>exact hp.yes rfl
 |false=>
  obtain⟨n1,n2⟩:=hp.no rfl;have hat:∀k,0<=k->k<(crew.length:Int)->0<=(QF crew k).2.1:=λk h0 h1=>(hcr.mb k h0 h1).gp.1
  have oth:∀k,0<=k->k<(crew.length:Int)->(0<=Pq next k/\Pq next' k=Pq next k)\/(Pq next k<0/\(Pq next' k<0\/Pq next' k=(QF crew k).2.1)):=by
   intro k h0 h1;by_cases hk:Pq next k<0
   ·grind
   ·exact .inl ⟨J,hp.kept.Wz k h0 h1 J⟩
  refine⟨⟨λa b a0 a1 b0 b1 hna hab=>?_,λj k j0 j1 k0 k1 hnj hkj=>?_⟩,No⟩
  ·rcases oth a a0 a1 with⟨ha1,ha2⟩|⟨ha1,ha2⟩
   ·rcases oth b b0 b1 with⟨hb1,hb2⟩|⟨hb1,hb2⟩
    ·rw[ha2,hb2]at hab;exact hg.D a b a0 a1 b0 b1 ha1 hab
    ·rcases hb2 with hb2|hb2
     ·omega
     ·rw[ha2,hb2]at hab;exact absurd hab (hg.U b a b0 b1 a0 a1 hb1)
   ·rcases ha2 with ha2|ha2
    ·omega
    ·rcases oth b b0 b1 with⟨hb1,hb2⟩|⟨hb1,hb2⟩
     ·rw[ha2,hb2]at hab;exact absurd hab.symm (hg.U a b a0 a1 b0 b1 ha1)
     ·rcases hb2 with hb2|hb2
      ·omega
      ·rw[ha2,hb2]at hab;exact hcr.fN a b a0 a1 b0 b1 hab
  ·have hjn:Pq next j<0:=by
    rcases oth j j0 j1 with⟨h1,h2⟩|⟨h1,_⟩
    ·omega
    ·exact h1
   rcases oth k k0 k1 with⟨h1,h2⟩|⟨h1,h2⟩
   ·rw[h2]at hkj;exact hg.U j k j0 j1 k0 k1 hjn hkj
   ·rcases h2 with h2|h2
    ·grind
    ·rw[h2]at hkj;have:=hcr.fN k j k0 k1 j0 j1 hkj;grind
structure Next(c:By)(crew:ADk)(next:By):Prop where
 len:next.length=crew.length
 w6:∀k,0<=k->k<(crew.length:Int)->lQ c (Pq next k)
 D:∀a b,0<=a->a<(crew.length:Int)->0<=b->b<(crew.length:Int)->Pq next a=Pq next b->a=b
theorem step_loop{crew:ADk}(hcr:oO c crew){fields:List By}(hfl:pe w h c crew fields)(T:By)(hT:T.Perm (idx crew.length))(n:Nat)(hn:Ps+1000<=n):
  ∃(k k':Int) (next:By),iter n (UE n T) (0,w,h,c,crew,List.replicate crew.length (-1))=some (k,w,h,c,crew,next)/\iter n (Su n T) (0,w,h,c,crew,fields,List.replicate crew.length (-1))=some (k',w,h,c,crew,fields,next)/\Next c crew next:=by
 have hTl:T.length=crew.length:=by rw[hT.length_eq,Z0]
 have hB1:1048576<=n:=AAv (AAv (by decide:1048576<=Ps) (AB0 _ _)) hn;have hn20:=hcr.n20
 obtain⟨z,y,⟨k,k',next,rfl,rfl,hN⟩,e1,e2⟩:=Zj (f:=UE n T) (g:=Su n T)
  (λx y=>∃(k:Nat) (next:By),x=((k:Int),w,h,c,crew,next)/\y=((k:Int),w,h,c,crew,fields,next)/\k<=T.length/\next.length=crew.length/\(∀j,0<=j->j<(crew.length:Int)->Pq next j = -1\/lQ c (Pq next j))/\Good c crew next/\∀j∈T.take k,0<=Pq next j)
  (λz y=>∃(k k':Int) (next:By),z=(k,w,h,c,crew,next)/\y=(k',w,h,c,crew,fields,next)/\Next c crew next)
  (λx=>T.length-x.1.toNat) (λx y hR=>by
   obtain⟨k,next,rfl,rfl,hk,hlen,hvals,hg,hdone⟩:=hR;by_cases hk2:k=T.length
   ·subst hk2;refine .inl ⟨((T.length:Int),w,h,c,crew,next),((T.length:Int),w,h,c,crew,fields,next),by simp[UE],by simp[Su],_,_,next,rfl,rfl,?_⟩;rw[List.take_length]at hdone;have zu:∀j,0<=j->j<(crew.length:Int)->0<=Pq next j:=λj h0 h1=>hdone j (hT.mem_iff.2 (Z1.2 ⟨h0,h1⟩))
    refine⟨hlen,λj h0 h1=>?_,λa b a0 a1 b0 b1 hab=>hg.D a b a0 a1 b0 b1 (zu a a0 a1) hab⟩;rcases hvals j h0 h1 with hv|hv
    ·have:=zu j h0 h1;omega
    ·exact hv
   ·right;have hk':k<T.length:=J
    have hx:T[k]?=some T[k]:=AAI hk';have hir:=Z1.1 (hT.mem_iff.1 (ABW hk'));have htk:T.take (k+1)=T.take k++[T[k]]:=ABe hk';generalize T[k]=i at hx hir htk;have hd:decide ((k:Int)<(T.length:Int))=true:=by simpa using hk'
    obtain⟨i1,i2,_⟩:=Ub (out:=next) (v:=i) (by rw[hlen];exact hir);have hdec:T.length-((k+1:Nat):Int).toNat<T.length-(k:Int).toNat:=J
    by_cases hneg:Pq next i<0
    ·have hpre:tP c crew next i (-1):=⟨hlen,hir,hneg,hvals,hg.D,λj k j0 j1 k0 k1 h1 _=>hg.U j k j0 j1 k0 k1 h1,λk k0 k1 hk=>absurd hk (hg.U i k hir.1 hir.2 k0 k1 hneg),.inl rfl⟩
     have hngs:Zk next<=20:=by have:=List.countP_le_length (p:=λx:Int=>decide (x<0)) (l:=next);unfold Zk;omega
     obtain⟨b,next',r1,r2,hp⟩:=gF hcr hfl n next i (-1) hpre (AAv (by rw[Nat.add_assoc];exact Nat.add_le_add_left J _) hn)
     have hf1:Oe crew (-1) = -1:=by unfold Oe;rw[AAQ J]
     rw[hf1]at r2;obtain⟨hg',hi'⟩:=mR hcr hlen hir hg hp;refine⟨(((k+1:Nat):Int),w,h,c,crew,next'),(((k+1:Nat):Int),w,h,c,crew,fields,next'),?_,?_,⟨k+1,next',rfl,rfl,J,hp.kept.len,hp.kept.vals,hg',λj hj=>?_⟩,hdec⟩
     ·simp only[UE,hd,Po hk',ABX,hx,ABT,i1,i2,ABZ hneg,ABU,r1,Pj hk' J]
     ·simp only[Su,hd,Po hk',ABX,hx,ABT,i1,i2,ABZ hneg,ABU,r2,Pj hk' J]
     ·rw[htk]at hj;rcases ABL.1 hj with hj|hj
      ·have hjr:=Z1.1 (hT.mem_iff.1 (ACT hj));have:=hdone j hj;rw[hp.kept.Wz j hjr.1 hjr.2 this];exact this
      ·rw[AA5.1 hj];exact hi'
    ·refine⟨(((k+1:Nat):Int),w,h,c,crew,next),(((k+1:Nat):Int),w,h,c,crew,fields,next),?_,?_,⟨k+1,next,rfl,rfl,J,hlen,hvals,hg,λj hj=>?_⟩,hdec⟩
     ·simp only[UE,hd,Po hk',ABX,hx,ABT,i1,i2,ABd hneg,ABU,ABV,Pj hk' J]
     ·simp only[Su,hd,Po hk',ABX,hx,ABT,i1,i2,ABd hneg,ABU,ABV,Pj hk' J]
     ·rw[htk]at hj;rcases ABL.1 hj with hj|hj
      ·exact hdone j hj
      ·rw[AA5.1 hj];exact Int.not_lt.1 hneg) n (0,w,h,c,crew,List.replicate crew.length (-1)) (0,w,h,c,crew,fields,List.replicate crew.length (-1))
  (by
   have hr:∀j,0<=j->j<(crew.length:Int)->Pq (List.replicate crew.length (-1:Int)) j = -1:=λj h0 h1=>by unfold Pq;rw[List.getD_eq_getElem?_getD,List.getElem?_replicate,AAP J];rfl
   refine⟨0,List.replicate crew.length (-1),rfl,rfl,J,OF,λj h0 h1=>.inl (hr j h0 h1),⟨λa b a0 a1 _ _ hna _=>?_,λj k j0 j1 k0 k1 _ hkj=>?_⟩,λj hj=>ADu⟩
   ·rw[hr a a0 a1]at hna;omega
   ·rw[hr k k0 k1]at hkj;have:=(hcr.mb j j0 j1).gp;omega) (by show T.length-(0:Int).toNat<n;exact AA4 (by omega:T.length-(0:Int).toNat<1048576) hB1)
 grind
theorem oW(hf:P3 w h c=true){crew:ADk}(hcr:oO c crew)(n:Nat)(hn:Ps<=n):
  ∃fields,pe w h c crew fields/\iter n (T7 n w h c crew) (0,w,h,c,crew,[],[])=some ((crew.length:Int),w,h,c,crew,fields,List.replicate crew.length (-1)):=by
 have hn20:=hcr.n20;have hB:1048576<=n:=AAv ADj hn
 let F:Nat->By:=λi=>if hi:i<crew.length then(Y2 hf (hcr.mb (i:Int) J J)).choose else []
 have hF:∀i (hi:i<crew.length),F i=(Y2 hf (hcr.mb (i:Int) J J)).choose:=λi hi=>dif_pos hi;refine⟨(List.range crew.length).map F,⟨OF,λi h0 h1=>?_⟩,?_⟩
 ·obtain⟨m,rfl⟩:∃m:Nat,i=m:=⟨i.toNat,J⟩;have hm:m<crew.length:=J
  obtain⟨C,q1,q2,q3,q4⟩:=(Y2 hf (hcr.mb (m:Int) J J)).choose_spec;exact⟨F m,C,by simp[hm],λn hn=>No,q2,q4⟩
 ·have:=P8 (T7 n w h c crew) (λi=>((i:Int),w,h,c,crew,(List.range i).map F,List.replicate i (-1))) crew.length ((crew.length:Int),w,h,c,crew,(List.range crew.length).map F,List.replicate crew.length (-1)) (λi hi=>by
   obtain⟨C,q1,q2,q3,q4⟩:=(Y2 hf (hcr.mb (i:Int) J J)).choose_spec;have qf:=(q1 n hn).1;rw[<-hF i hi]at qf;have hm1:decide ((List.replicate i (-1:Int)).length+[(-1:Int)].length<=Dj)=true:=by rw[AAf];simp[Dj];omega
   have hm2:decide (((List.range i).map F).length+[F i].length<=Dj)=true:=by rw[AAf];simp[Dj];omega
   have hr:=bC (crew:=crew) (i:=(i:Int)) ⟨J,J⟩;simp only[T7,hm1,hm2,hr,ABT,qf,Pj hi J,ABU];rw[show decide ((i:Int)<(crew.length:Int))=true by simpa using hi];simp[ACS,AB3]) (by simp[T7]) n J
  grind
theorem eJ{crew:ADk}(hn20:crew.length<=20)(n:Nat)(hn:Ps<=n):
  iter n (Ve crew) (0,w,h,c,crew,[])=some ((crew.length:Int),w,h,c,crew,List.replicate crew.length (-1)):=by
 have hB:1048576<=n:=AAv ADj hn
 have:=P8 (Ve crew) (λi=>((i:Int),w,h,c,crew,List.replicate i (-1))) crew.length ((crew.length:Int),w,h,c,crew,List.replicate crew.length (-1)) (λi hi=>by
   have hm1:decide ((List.replicate i (-1:Int)).length+[(-1:Int)].length<=Dj)=true:=by rw[AAf];simp[Dj];omega
   simp only[Ve,hm1,Pj hi J,ABU];rw[show decide ((i:Int)<(crew.length:Int))=true by simpa using hi];simp[ACS]) (by simp[Ve]) n J
 grind
theorem oz(hf:P3 w h c=true){crew:ADk}(hcr:oO c crew)(hid:qS crew)(zh:Tl w h c crew=true)(n:Nat)(hn:Ps+1000<=n):
  ∃next,Z2 n w h c crew=some next/\Yc n w h c crew=some next/\Next c crew next:=by
 have hN:=(WC hf).le;have hn20:=hcr.n20;have hB0:Ps<=n:=AAv (AB0 _ _) hn;obtain⟨T,t1,t2,t3⟩:=oK hid hn20 n hB0;obtain⟨fields,hfl,hini⟩:=oW hf hcr n hB0;obtain⟨k,k',next,e1,e2,hN2⟩:=step_loop hcr hfl T t3 n hn;refine⟨next,?_,?_,hN2⟩
 ·unfold Z2;rw[Vc w h c J crew J n hB0,zh,eJ hn20 n hB0,t1];grind
 ·unfold Yc;grind
structure CP(c:By)(crew:ADk):Prop where
 qe:oO c crew
 ids:qS crew
 pq:∀i,0<=i->i<(crew.length:Int)->0<=(QF crew i).2.2.2.2/\(QF crew i).2.2.2.2<=1000000
 qA:∀i,0<=i->i<(crew.length:Int)->1<=(QF crew i).1/\(QF crew i).1<=99
theorem nC:Qy c i=true↔lQ c i:=by unfold Qy Qg lQ Pq;grind
theorem lA{crew:ADk}{i:Nat}(hi:i<crew.length):ny c crew i=true↔(1<=(QF crew i).1/\(QF crew i).1<=99)/\lQ c (QF crew i).2.1/\((QF crew i).2.2.1 = -1\/lQ c (QF crew i).2.2.1)/\(0<=(QF crew i).2.2.2.2/\(QF crew i).2.2.2.2<=1000000)/\
  (0<i->(QF crew ((i:Int)-1)).1<(QF crew i).1)/\∀j:Nat,j<i->(QF crew (j:Int)).2.1≠(QF crew i).2.1:=by
 have hp:RJ (·.1) crew i crew[i]=true↔(0<i->(QF crew ((i:Int)-1)).1<(QF crew i).1):=by
  cases i with
  |zero=>simp[RJ]
  |succ j=>
   rw[Sc hi,show((j+1:Nat):Int)-1=(j:Int) by omega,Sc (show j<crew.length by omega)];simp[RJ,AAI (show j<crew.length by omega)]
 have ha:((crew.take i).all λy => !(y.2.1==crew[i].2.1))=true↔∀j:Nat,j<i->(QF crew (j:Int)).2.1≠(QF crew i).2.1:=by
  rw[AAW,Sc hi];constructor
  ·intro h j hj;rw[Sc (show j<crew.length by omega)]
   have:=h crew[j] (by
    rw[ABY];exact⟨j,ADg,OF⟩)
   simpa using this
  ·intro h y hy;obtain⟨j,hj,rfl⟩:=ABY.1 hy;have hji:j<i:=by simp at hj;omega
   have:=h j hji;rw[Sc (show j<crew.length by omega)]at this;simpa using this
 unfold ny;rw[AAI hi];simp only[AAJ,hp,ha,nC,AAe,AAT,Sc hi];unfold Qg;grind
theorem du{crew:ADk}:Tl w h c crew=true↔P3 w h c=true/\CP c crew:=by
 unfold Tl;simp only[AAJ,AAf,AAW,AAX];constructor
 ·rintro ⟨⟨hf,hn⟩,zq⟩
  have hr:∀i:Nat,i<crew.length->_:=λi hi=>(lA hi).1 (zq i hi);have cast:∀i:Int,0<=i->i<(crew.length:Int)->∃m:Nat,i=m/\m<crew.length:=λi h0 h1=>⟨i.toNat,J,J⟩
  have ids1:∀d a:Nat,a+d+1<crew.length->(QF crew (a:Int)).1<(QF crew ((a+d+1:Nat):Int)).1:=by
   intro d
   induction d with
   |zero=>
    intro a ha;have:=(hr (a+1) J).2.2.2.2.1 J;grind
   |succ d ih=>
    intro a ha;have h1:=ih a J;have h2:=(hr (a+(d+1)+1) J).2.2.2.2.1 J;grind
  refine⟨hf,⟨hn,λi h0 h1=>?_,λi j i0 i1 j0 j1 e=>?_⟩,λa b a0 hab hb=>?_,λi h0 h1=>?_,λi h0 h1=>?_⟩
  ·obtain⟨m,rfl,hm⟩:=cast i h0 h1;obtain⟨_,q2,q3,_⟩:=hr m hm;exact⟨q2.1,q2.2,q3⟩
  ·obtain⟨a,rfl,ha⟩:=cast i i0 i1;obtain⟨b,rfl,hb⟩:=cast j j0 j1;rcases ABg a b with hl|hl|hl
   all_goals grind
  ·obtain⟨m,rfl,hm⟩:=cast a a0 J;obtain⟨k,rfl,hk⟩:=cast b J hb;have:=ids1 (k-m-1) m J;grind
  ·obtain⟨m,rfl,hm⟩:=cast i h0 h1;exact(hr m hm).2.2.2.1
  ·obtain⟨m,rfl,hm⟩:=cast i h0 h1;exact(hr m hm).1
 ·rintro ⟨hf,⟨hn,hs,hd⟩,hid,hag,hidr⟩
  refine⟨⟨hf,hn⟩,λi hi=>(lA hi).2 ?_⟩;have s:=hs (i:Int) J J;refine⟨hidr i J J,⟨s.gp,s.tQ⟩,s.goal,hag i J J,λh0=>hid _ _ J J J,λj hj e=>?_⟩;have:=hd j i J J J J e;omega
def Zb(r:Rb)(v:Int):Rb:=(r.1,v,r.2.2.1,r.2.2.2.1,bif(r.2.2.1 == -1)||(v==r.2.2.1)then 0 else Nc (r.2.2.2.2+1) 1000000)
def XM(crew:ADk)(next:By):ADk:=List.zipWith Zb crew next
theorem Za{crew:ADk}(h:next.length=crew.length):(XM crew next).length=crew.length:=by simp[XM,h]
theorem dY{crew:ADk}(h:next.length=crew.length)(h0:0<=i)(h1:i<(crew.length:Int)):QF (XM crew next) i=Zb (QF crew i) (Pq next i):=by
 obtain⟨m,rfl⟩:∃m:Nat,i=m:=⟨i.toNat,J⟩;have hm:m<crew.length:=J
 rw[Sc (by rw[Za h];exact hm),Sc hm];simp[XM,Pq,List.getD,AAI (show m<next.length by omega)]
theorem pn{crew:ADk}(hp:CP c crew)(hn:Next c crew next):CP c (XM crew next):=by
 have hl:=Za hn.len;have ha:∀i,0<=i->i<(crew.length:Int)->QF (XM crew next) i=Zb (QF crew i) (Pq next i):=λi h0 h1=>dY hn.len h0 h1;refine⟨⟨by rw[hl];exact hp.qe.n20,λi h0 h1=>?_,λi j i0 i1 j0 j1 e=>?_⟩,λa b a0 hab hb=>?_,λi h0 h1=>?_,λi h0 h1=>?_⟩<;>rw[hl]at *
 ·rw[ha i h0 h1];have:=hn.w6 i h0 h1;exact⟨this.1,this.2,(hp.qe.mb i h0 h1).goal⟩
 ·rw[ha i i0 i1,ha j j0 j1]at e;exact hn.D i j i0 i1 j0 j1 e
 ·rw[ha a a0 J,ha b J hb];exact hp.ids a b a0 hab hb
 ·rw[ha i h0 h1];have:=hp.pq i h0 h1;show 0<=(bif _ then(0:Int)else _)/\(bif _ then(0:Int)else _)<=1000000;cases((QF crew i).2.2.1 == -1)||(Pq next i==(QF crew i).2.2.1)with
  |true=>grind
  |false=>
   show 0<=Nc _ _/\Nc _ _<=1000000;unfold Nc;grind
 ·rw[ha i h0 h1];exact hp.qA i h0 h1
theorem jk{r:Rb}{v:Int}(h:0<=r.2.2.2.2/\r.2.2.2.2<=1000000):Zb r v=(r.1,v,r.2.2.1,r.2.2.2.1,bif(r.2.2.1 == -1)||(v==r.2.2.1)then 0 else bif decide (r.2.2.2.2<1000000)then r.2.2.2.2+1 else r.2.2.2.2):=by unfold Zb Nc;grind
theorem fx{crew:ADk}(hp:CP c crew)(hn:Next c crew next)(n:Nat)(hB:Ps<=n):
  iter n (SJ crew next) ([],0)=some (XM crew next,(crew.length:Int)):=by
 have hB1:1048576<=n:=AAv ADj hB;have h20:=hp.qe.n20;have hl:=Za hn.len
 have:=P8 (SJ crew next) (λi=>((XM crew next).take i,(i:Int))) crew.length (XM crew next,(crew.length:Int)) (λi hi=>by
  have hir:0<=(i:Int)/\(i:Int)<(crew.length:Int):=⟨J,J⟩;obtain⟨i1,i2,_⟩:=Ub (out:=next) (v:=(i:Int)) (by rw[hn.len];exact hir);have ha:=hp.pq i hir.1 hir.2
  have ht:(XM crew next).take (i+1)=(XM crew next).take i++[Zb (QF crew (i:Int)) (Pq next (i:Int))]:=by
   rw[ABe (by rw[hl];exact hi),<-Sc (by rw[hl];exact hi),dY hn.len hir.1 hir.2]
  have hm:∀y:Rb,decide (((XM crew next).take i).length+[y].length<=Dj)=true:=λy=>by rw[AAf];simp[Dj];omega
  rw[ht,jk ha];simp only[SJ,bC hir,ABT,i1,i2,ABU,Pj hi J,Pr (show -9223372036854775808<=(QF crew (i:Int)).2.2.2.2+1 by omega) J,hm];rw[show decide ((i:Int)<(crew.length:Int))=true by simpa using hi];cases((QF crew (i:Int)).2.2.1 == -1)<;>cases(Pq next (i:Int)==(QF crew (i:Int)).2.2.1)<;>cases decide ((QF crew (i:Int)).2.2.2.2<1000000)<;>rfl) (by simp[SJ];rw[<-hl];exact List.take_length.symm▸rfl) n J
 grind
theorem fS{crew:ADk}(hp:CP c crew)(hn:Next c crew next)(n:Nat)(hB:Ps<=n):
  iter n (TC next) (0,crew)=some ((crew.length:Int),XM crew next):=by
 have hB1:1048576<=n:=AAv ADj hB;have h20:=hp.qe.n20;have hl:=Za hn.len;have hnl:=hn.len
 have:=P8 (TC next) (λi=>((i:Int),(XM crew next).take i++crew.drop i)) crew.length ((crew.length:Int),XM crew next) (λi hi=>by
  have hir:0<=(i:Int)/\(i:Int)<(crew.length:Int):=⟨J,J⟩;obtain⟨i1,i2,_⟩:=Ub (out:=next) (v:=(i:Int)) (by rw[hn.len];exact hir);have ha:=hp.pq i hir.1 hir.2;have hlen:((XM crew next).take i++crew.drop i).length=crew.length:=by simp[hl];omega
  have hio:i<((XM crew next).take i++crew.drop i).length:=by rw[hlen];exact hi
  have hg:((XM crew next).take i++crew.drop i)[i]=QF crew (i:Int):=by rw[Sc hi,List.getElem_append_right (by simp[hl];omega)];simp[hl,Nat.min_eq_left (Nat.le_of_lt hi)]
  have ht:((XM crew next).take i++crew.drop i).set i (Zb (QF crew (i:Int)) (Pq next (i:Int)))=(XM crew next).take (i+1)++crew.drop (i+1):=by rw[ACI _ _ (by simp[hl];omega),ABe (by rw[hl];exact hi),<-Sc (by rw[hl];exact hi),dY hn.len hir.1 hir.2,ABo];congr 1;rw[show i-((XM crew next).take i).length=0 by simp[hl];omega,ABh hi];rfl
  rw[<-ht];generalize ((XM crew next).take i++crew.drop i)=out at hlen hio hg;have hio1:O3 out (i:Int)=true:=Po hio;rw[ABX]at i2;simp only[TC,i1,ABX,i2,ABT,ABU,hio1,Pj hi J,ABX];rw[eU out i _ hio,hg];have g1:∀y:Rb,(out.set i y)[i]?=some y:=λy=>by rw[ACJ,AAP rfl,AAP hio]
  have g2:∀(y:Rb)(f:Rb->Rb),List.modify (out.set i y) i f=out.set i (f y):=λy f=>by rw[eU _ i f ADg];simp
  simp only[g1,g2,ABT,aY,Pr (show -9223372036854775808<=(QF crew (i:Int)).2.2.2.2+1 by omega) J];rw[show decide ((i:Int)<(next.length:Int))=true by rw[hnl];simpa using hi];unfold Zb
  cases((QF crew (i:Int)).2.2.1 == -1)<;>cases(Pq next (i:Int)==(QF crew (i:Int)).2.2.1)<;>rfl) (by
   simp[TC,hnl];rw[<-hl];exact List.take_length) n J
 grind
theorem l6(n:Nat)(hn:Ps<=n){b:By}(hcu:Cu b i):Ok (YW n b i q) λx=>x.1.length<=4/\Cu x.2.1 x.2.2.1:=by
 unfold YW;refine Ok.bind (P:=λx=>x.1.length<=4/\Cu x.2.2.1 x.2.2.2.1) (Ok.iter (λk x=>x.2.1+(k:Int)=5/\1<=x.2.1/\x.1.length+k<=4/\Cu x.2.2.1 x.2.2.2.1) (λk x hx=>?_) (k:=4) ⟨OF,OF,OF,hcu⟩ ADd) λx hx=>Ok.pure hx;obtain⟨h1,h0,h2,h3⟩:=hx;unfold Zu;refine Ok.cond (λhb=>?_) λhb=>Ok.pure (.inr ⟨_,rfl,by show x.1.length<=4;clear hn;omega,h3⟩);have hb:=AAs hb;refine Ok.bind (P:=λz=>z.1.length<=x.1.length+1/\Cu z.2.1 z.2.2.1) ((bA h3 3).bind λv hv=>Ok.cond (λ_=>(ok_int hv OF).bind λu hu=>Ok.guard (Ru ADb) (Ok.pure ⟨by show(x.1++[_]).length<=_;simp,hu.1⟩)) λ_=>Ok.pure ⟨by show x.1.length<=_;omega,hv⟩) λz hz=>Ok.pure (.inl ⟨_,rfl,k-1,⟨?_,?_,?_,hz.2⟩,ADb⟩)
 ·show Pn (x.2.1+1)+_=_;rw[Pr ADb ADb];clear hn;omega
 ·show 1<=Pn (x.2.1+1);rw[Pr ADb ADb];clear hn;omega
 grind
theorem jy(n:Nat)(hn:Ps<=n){b:By}(hcu:Cu b i)(w h:Int)(c:By)(hf:P3 w h c=true):Ok (Xi n b i q w h c) λx=>Cu x.2.1 x.2.2.1:=by
 have hc:c.length<=1048576:=by have:=(WC hf).le;clear hn;omega
 unfold Xi;rw[WN w h c hc hf 3 n hn,ABT];refine Ok.bind (P:=λz=>(z.1=false->0<(Qx c 3 c.length).length)/\Cu z.2.1 z.2.2.1) (Ok.cond (λhb=>Ok.pure ⟨(λe=>by cases e),hcu⟩) λhb=>(bA hcu 12).bind λr hr=>Ok.pure ⟨λ_=>?_,hr⟩) λz hz=>Ok.cond (λ_=>(Ql hz.2 30).bind λr hr=>Ok.pure hr.1) λhb=>(Ql hz.2 _).bind λr hr=>?_
 ·grind
 ·have h0:=hz.1 hb;have h1:=hr.2.2 J;exact Ok.guard (ZC ⟨hr.2.1,h1⟩) ((Ok.get J).bind λv hv=>Ok.pure hr.1)
theorem bF(w h:Int)(c:By)(a:It)(zh:aI w h c a=true)(n:Nat)(hn:Ps<=n):Wf n w h c a=some (w,h,c,a,1,[],Sz (QZ c) (min (QZ c).length 20),[],SS a 50,List.replicate 51 0,0,true):=by
 obtain⟨hf,hk,_,_⟩:=cu zh;have hs:=(QS.1 hk).sm;have hle:=(WC hf).le;have hc:c.length<=1048576:=ADb
 have zq:(List.range a.length).all (λi=>aW c a i&&Y4 a i)=true:=by have zh:=zh;unfold aI at zh;simp only[AAJ,AAW]at zh ⊢;exactλx hx=>⟨zh.2 x hx,zh.1.2 x hx⟩
 have o1:=bG c hc a hs bT n hn;rw[zq]at o1;have hm:(decide (0<=51)&&decide ((51:Int)<=(Dj:Int))&&decide (51=51))=true:=rfl;have hdl:(QZ c).length<=c.length:=aM c 4 c.length;unfold Wf;rw[QT w h c hc n hn,Qa a hs n hn,hf,hk];simp only[ABT,ABc,ABV,Zv w h c hc,P0 a hs n hn,hm,ABU];simp only[bT]at o1;rw[o1];simp only[ABU,ABT];have s1:=aA a hs w h c a 1 [] [] [] (List.replicate (Int.toNat 51) 0) 0 n hn;have c1:=af (QZ c) ADb w h c a 1 [] [] (SS a 50) (List.replicate (Int.toNat 51) 0) 0 n hn;rw[show List.replicate 51 (0:Int)=List.replicate (Int.toNat 51) 0 from rfl]at s1 ⊢;have hd:S5 n w h c 4=some (QZ c):=WN w h c hc hf 4 n hn;grind
def aT:List ADi:=[[99,46,46,46,46,46,46,10,46,112,46,112,46,112,46,10,46,46,46,46,46,46,115,10,46,112,46,112,46,112,46,10,99,46,46,46,46,46,115,10],[99,46,46,46,46,46,10,46,112,112,46,112,46,10,46,46,46,46,46,46,10,46,46,46,46,46,115,10],[46,46,46,46,46,10,46,112,35,112,46,10,46,46,115,46,46,10,46,112,35,112,46,10,99,46,46,46,99,10],[99,46,112,10,46,46,46,10,112,46,115,10]]
theorem fO:aT.all de=true:=by kernel_rfl
theorem ik(n:Nat)(hn:Ps<=n){b:By}(hcu:Cu b i):Ok (Uq n b i q) λx=>∃w h c a b' i' q',aI w h c a=true/\Cu b' i'/\x=(w,h,c,a,1,[],Sz (QZ c) (min (QZ c).length 20),[],SS a 50,List.replicate 51 (0:Int),0,b',i',q'):=by unfold Uq;refine(nj hcu (xs:=aT) (by simp[aT])).bind λt ht=>?_;refine(jL (AAW.1 fO _ ht.2) n hn).bind λx hx=>?_;refine Ok.bind (P:=λz=>P3 z.2.2.2.1 z.2.2.2.2.1 z.2.2.2.2.2=true/\Cu z.1 z.2.1) ((bA ht.1 8).bind λr hr=>Ok.cond (λ_=>(j5 n hn hr).bind λy hy=>Ok.pure ⟨hy.1,hy.2.2⟩) λ_=>Ok.pure ⟨hx.1,hr⟩) λz hz=>?_;refine(iq n hn hz.2 _ _ _ hz.1).bind λp hp=>?_;rw[bF _ _ _ _ hp.1 n hn,ABT];dsimp only;refine⟨_,rfl,z.2.2.2.1,z.2.2.2.2.1,z.2.2.2.2.2,p.1,p.2.1,p.2.2.1,p.2.2.2,hp.1,hp.2,?_⟩;grind
theorem iS(hc:c.length<=1048576)(hf:P3 w h c=true)(hw:CW c crew)(n:Nat)(hn:Ps+1000<=n):
  ∃out,VZ n w h c crew=some out/\XX n w h c crew=some out/\CW c out/\out.length=crew.length/\∀k (h1:k<crew.length) (h2:k<out.length),out[k].1=crew[k].1/\out[k].2.2.1=crew[k].2.2.1/\out[k].2.2.2.1=crew[k].2.2.2.1:=by
 have hB:Ps<=n:=AAv (AB0 _ _) hn;have hl:crew.length<=1048576:=by have:=hw.n20;clear hn hB;omega
 have zh:Tl w h c crew=true:=WB.2 ⟨hf,hw⟩;have hm:decide (crew.length<=Dj)=true:=by rw[AAf];simp[Dj];clear hn hB;omega
 have hcp:RL crew=some crew:=by unfold RL;rw[hm];rfl
 obtain⟨_,hp⟩:=du.1 zh;obtain⟨next,s1,s2,hnx⟩:=oz hf hp.qe hp.ids zh n hn
 have hsp:V3 n w h c crew=some (XM crew next):=by unfold V3;rw[s2];simp only[ABT,fx hp hnx n hB]
 have ho:=pn hp hnx;refine⟨XM crew next,?_,?_,(WB.1 (du.2 ⟨hf,ho⟩)).2,Za hnx.len,λk h1 h2=>?_⟩
 ·unfold VZ;rw[hcp,Vc w h c hc crew hl n hB,zh];simp only[ABT,ABc,ABV,s1,fS hp hnx n hB]
 ·unfold XX;rw[X9 w h c hc crew hl n hB,zh];grind
 ·have:=dY hnx.len (i:=(k:Int)) No J;rw[Sc h2,Sc h1]at this;rw[this];exact⟨rfl,rfl,rfl⟩
theorem iY(hf:P3 w h c=true)(ha:Py a)(hc:CW c crew)(ht:TP ts):gI w h c a crew ts=sendAll a crew ts (QR w h c a crew ts):=by unfold gI gu;rw[QS.2 ha,WB.2 ⟨hf,hc⟩,W9.2 ht];rfl
theorem ec:TV=SC:=rfl
theorem Zo(hb:XL nx l)(hsm:RZ (nx,l)){id:Int}{o:QH}(ho:Qo l id=some o)(n:Nat)(hn:Ps<=n):∃i,∃h:i<l.length,l[i]=o/\o.1=id/\Rd n nx l id=some (i:Int):=by obtain⟨hm,e⟩:=RH ho;obtain⟨i,hi,rfl⟩:=ABY.1 hm;refine⟨i,hi,rfl,e,?_⟩;have:=Zp nx l hsm.1 hb.2.2.1 i hi n hn;rw[e]at this;exact this
theorem Sn(w h:Int)(c:By)(ha:Py a)(hb:XL nx l)(hsm:RZ (nx,l))(crew:ADX)(ts:AAH)(st ou:By)(nw:Int)(t:P6)(ho:∃o,Qo l t.1=some o)(hp:∃q,Yt a t.2.1=some q)(n:Nat)(hn:Ps<=n):
  Q2 n w h c a nx l crew ts st ou nw t.1 t.2.1 t.2.2.1 t.2.2.2=some (Uc a l t):=by
 have hal:=ha.1;unfold Q2;by_cases h3:t.2.2.2=3
 ·obtain⟨o,ho⟩:=ho;obtain⟨i,hi,e,_,hf⟩:=Zo hb hsm ho n hn;rw[show(t.2.2.2==3)=true from AAT.2 h3,ABU,hf,ABT,Pk hi,ABT];unfold Uc;grind
 ·obtain⟨q,hq⟩:=hp;have hpx:=RE a J t.2.1 n hn;rcases hpx.2 with⟨_,hno⟩|⟨j,hj,e,ej⟩
  ·exact(hno q (UL hq).1 (UL hq).2).elim
  ·rw[show(t.2.2.2==3)=false from ABa.2 h3,ABV,hpx.1,e,ABT,Pk hj,ABT,bW ha h3 hj ej]
theorem Zg:Tr=Q2:=rfl
theorem iX(h:crew.Pairwise λr s=>r.1<s.1){k:Nat}(hk:k<crew.length)(f:P9->P9):crew.modify k f=XK crew crew[k].1 f:=by
 unfold XK;refine ACG No λi h1 h2=>?_;rw[List.length_modify]at h1;rw[List.getElem_modify,ABj];by_cases e:k=i
 ·grind
 ·rw[AAQ e,show(crew[i].1==crew[k].1)=false from ABa.2 λq=>?_,ABV];rcases ABN e with hl|hl
  ·have:=ABR.1 h k i hk h1 hl;omega
  ·have:=ABR.1 h i k h1 hk hl;omega
theorem mod_mod{β:Type}(l:List β)(k:Nat)(f g:β->β):(l.modify k f).modify k g=l.modify k (g ∘ f):=No
theorem ax{β:Type}{l:List β}{k:Nat}(h:k<l.length)(j:Nat)(f:β->β):O3 (l.modify j f) (k:Int)=true:=Po No
theorem bB(hb:XL nx l)(t:P6):∀p∈P5 l t,(1<=p.2.1/\p.2.1<=50)/\(1<=p.2.2/\p.2.2<=1000):=λp hp=>by
 unfold P5 at hp;cases ho:Qo l t.1 with
 |none=>grind
 |some o=>
  rw[ho]at hp;have hpm:=(ABm.1 hp).1;obtain⟨_,_,⟨hI,_⟩,hpg,_⟩:=hb.2.2.2 o (RH ho).1;obtain⟨q1,y,hy,e⟩:=hpg.1 p hpm;have hN:=hI.2.1 y hy;have ht:=hpg.2 y hy;have hle:=lO (λq hq=>(hpg.1 q hq).1) hpm;grind
theorem cB(hsm:RZ (nx,l))(t:P6):(P5 l t).length<=1048576:=by
 unfold P5;cases ho:Qo l t.1 with
 |none=>simp
 |some o=>exact AAv (ABs _ _) (hsm.2 o (RH ho).1).2
theorem nM{l:AAB}(h:l.Pairwise λa b=>a.1<b.1){j:Nat}(hj:j<l.length){x:Ph}(hx:l[j].1=x.1)(m:AAB):Vq x l m=l.take j++(m++l.drop (j+1)):=by
 have hp:=ABR.1 h
 have e1:l.filter (λy=>decide (y.1<x.1))=l.take j:=by
  conv=>lhs;rw[<-ABz j l]
  rw[AB1,ACL.2,AB6.2,ABn]
  ·intro y hy;obtain⟨i,hi,rfl⟩:=ABY.1 hy;rw[ACa,<-hx];rw[ACF]at hi;rcases ACX i with rfl|hpos
   ·simp
   ·have:=hp j (j+i) hj J J;simp;omega
  ·intro y hy;obtain⟨i,hi,rfl⟩:=ABY.1 hy;rw[ACZ,<-hx];rw[AB8]at hi;have:=hp i j J hj J;simpa using this
 have e2:l.filter (λy=>decide (x.1<y.1))=l.drop (j+1):=by
  conv=>lhs;rw[<-ABz (j+1) l]
  rw[AB1,AB6.2,ACL.2,AA0]
  ·intro y hy;obtain⟨i,hi,rfl⟩:=ABY.1 hy;rw[ACa,<-hx];rw[ACF]at hi;have:=hp j (j+1+i) hj J J;simpa using this
  ·intro y hy;obtain⟨i,hi,rfl⟩:=ABY.1 hy;rw[ACZ,<-hx];rw[AB8]at hi;rcases AAr i j with zA|zu
   ·have:=hp i j J hj zA;simp;omega
   ·have:i=j:=J
    subst this;simp
 unfold Vq;rw[e1,e2]
theorem bz{β:Type}{l:List β}{i:Nat}(hi:i<l.length){f g:β->β}(h:f l[i]=g l[i]):l.modify i f=l.modify i g:=by
 refine ACG OF λk h1 h2=>?_;rw[List.getElem_modify,List.getElem_modify];split
 ·rename_i e;subst e;exact h
 ·rfl
theorem kG{β:Type}{l:List β}{i:Nat}(hi:i<l.length)(f:β->β):(l.modify i f)[i]?=some (f l[i]):=by rw[ABf,AAI hi];simp
theorem oM{l:AAB}{f:Ph->Ph}{q:Nat}(hq:q<l.length):(SP l k f)[q]?=some (bif l[q].1==k then f l[q]else l[q]):=by unfold SP;rw[AAb,AAI hq];rfl
theorem bj(a:It)(hs:P4 a)(Pu k m:Int)(n:Nat)(hn:Ps<=n):XT n a Pu k m=some (aC a Pu k m):=by
 unfold XT;rw[bf a hs Pu k m n hn,ABT];by_cases hc:QQ a Pu k m=0
 case neg=>
  have hr:Zr a Pu k m=(a,QQ a Pu k m):=by unfold Zr;rw[AAP hc]
  have ht:aC a Pu k m=(a,QQ a Pu k m):=by unfold aC;rw[AAP hc]
  rw[hr,ht];dsimp only;rw[show(QQ a Pu k m != 0)=true by grind];rfl
 obtain⟨h,hk,hm,i,hi,e1,e2,e3⟩:=Qn hc;have hst:=(h.2.2 _ (ABW hi)).2.2;obtain⟨b1,b2,b3,b4,b5⟩:=Sv hst k;have hnc:¬QQ a Pu k m≠0:=λq=>q hc;by_cases zA:(Px a[i].2.2 k).2.2<m
 ·have hr:Zr a Pu k m=(a,3):=by unfold Zr;rw[AAQ hnc,e3,AAP zA]
  have ht:aC a Pu k m=(a,3):=by unfold aC;rw[AAQ hnc,e3,AAP zA]
  rw[hr,ht];rfl
 have hr:Zr a Pu k m=(Ww a Pu k (-m),0):=by unfold Zr;rw[AAQ hnc,e3,AAQ zA]
 have ht:aC a Pu k m=(fi a Pu (k,(Px a[i].2.2 k).2.1-m,(Px a[i].2.2 k).2.2-m),0):=by unfold aC;rw[AAQ hnc,e3,AAQ zA]
 rw[hr,ht]
 have hz:∃z∈a[i].2.2,z.1=k:=by refine AAp λq=>?_;rw[Rq λx hx e=>q ⟨x,hx,e⟩]at zA;dsimp only at zA;omega
 have hst2:VU (SP a[i].2.2 k λy=>(y.1,y.2.1,y.2.2 + -m)):=jd hst k (-m) λy hy ey=>by have:=TA hst hy;rw[ey]at this;rw[this]at zA b3 b4;omega
 have hb:Ww a Pu k (-m)=a.modify i λp=>(p.1,p.2.1,SP p.2.2 k λy=>(y.1,y.2.1,y.2.2 + -m)):=by unfold Ww;rw[WM h hi (λl=>SP l k λy=>(y.1,y.2.1,y.2.2 + -m)),e2]
 have hix:SO (Ww a Pu k (-m)) Pu=(i:Int)/\Q4 n (Ww a Pu k (-m)) Pu=some (i:Int):=by
  have hlen:(Ww a Pu k (-m)).length=a.length:=by rw[hb];simp
  obtain⟨g1,g2⟩:=RE (Ww a Pu k (-m)) (by rw[hlen];exact hs.1) Pu n hn
  have hS2:Py (Ww a Pu k (-m)):=gn h Pu k (-m) λp hp ep y hy ey=>by have:p=a[i]:=W4 h hi hp (ep.trans e2.symm);subst this;have:=TA hst hy;rw[ey]at this;rw[this]at zA b3 b4;omega
  have hib:i<(Ww a Pu k (-m)).length:=by rw[hlen];exact hi
  have hbi:(Ww a Pu k (-m))[i].1=Pu:=by
   have:(Ww a Pu k (-m))[i]?=some (a[i].1,a[i].2.1,SP a[i].2.2 k λy=>(y.1,y.2.1,y.2.2 + -m)):=by rw[hb,kG hi]
   rw[AAI hib]at this;injection this with this
   rw[this];exact e2
  have:SO (Ww a Pu k (-m)) Pu=(i:Int):=by
   rcases g2 with⟨_,q⟩|⟨j,hj,q1,q2⟩
   ·exact(q _ (ABW hib) hbi).elim
   ·rw[q1]
    have hij:(i:Nat)=j:=by
     have hp:=ABR.1 hS2.2.1;rcases ABg i j with hl|hl|hl
     ·have:=hp i j hib hj hl;omega
     ·exact hl
     ·have:=hp j i hj hib hl;omega
    rw[hij]
  exact⟨this,by rw[g1,this]⟩
 dsimp only;rw[show((0:Int) != 0)=false from rfl,ABV,W0,hix.2,ABT];have hinb:O3 (Ww a Pu k (-m)) (i:Int)=true:=Po (by rw[hb];simpa using hi);have zM:(Ww a Pu k (-m))[(i:Int).toNat]?=some (a[i].1,a[i].2.1,SP a[i].2.2 k λy=>(y.1,y.2.1,y.2.2 + -m)):=by rw[ABX,hb,kG hi]
 obtain⟨j,bb,s1,s2,s3⟩:=Zx hst2 a[i].1 a[i].2.1 k n hn
 have hbb:bb=true:=by
  cases bb with
  |true=>rfl
  |false=>
   obtain⟨z,hz1,hz2⟩:=hz;refine((s3 rfl).1 (z.1,z.2.1,z.2.2 + -m) ?_ hz2).elim;unfold SP;exact AAt.2 ⟨z,hz1,by rw[show(z.1==k)=true from AAT.2 hz2];rfl⟩
 subst hbb;obtain⟨hj2,ek,_⟩:=s2 rfl;have hj:j<a[i].2.2.length:=by simpa[SP]using hj2
 have hul:∀q (hq:q<a[i].2.2.length) (hq2:q<(SP a[i].2.2 k λy=>(y.1,y.2.1,y.2.2 + -m)).length),(SP a[i].2.2 k λy=>(y.1,y.2.1,y.2.2 + -m))[q]=bif a[i].2.2[q].1==k then(a[i].2.2[q].1,a[i].2.2[q].2.1,a[i].2.2[q].2.2 + -m)else a[i].2.2[q]:=λq hq hq2=>by have h9:=oM (k:=k) (f:=λy=>(y.1,y.2.1,y.2.2 + -m)) hq;rw[AAI hq2]at h9;exact Option.some.inj h9
 have hjk:a[i].2.2[j].1=k:=by
  have:=hul j hj hj2;rw[this]at ek;cases hq:(a[i].2.2[j].1==k)with
  |true=>exact AAT.1 hq
  |false=>rw[hq,ABV]at ek;exact ek
 have hsj:Px a[i].2.2 k=a[i].2.2[j]:=by rw[<-hjk];exact TA hst (ABW hj)
 have hlj:(SP a[i].2.2 k λy=>(y.1,y.2.1,y.2.2 + -m))[j]=(k,a[i].2.2[j].2.1,a[i].2.2[j].2.2-m):=by rw[hul j hj hj2,show(a[i].2.2[j].1==k)=true from AAT.2 hjk,ABU,hjk,Int.sub_eq_add_neg]
 have hmodS:SP a[i].2.2 k (λy=>(y.1,y.2.1,y.2.2 + -m))=a[i].2.2.modify j λy=>(y.1,y.2.1,y.2.2 + -m):=by rw[lD hst hj,hjk]
 rw[hsj]at zA b1 b2 b3 b4 ⊢;have hw:Pn (a[i].2.2[j].2.1-m)=a[i].2.2[j].2.1-m:=Pr ADb ADb;have hjn:O3 (SP a[i].2.2 k λy=>(y.1,y.2.1,y.2.2 + -m)) (j:Int)=true:=Po hj2
 have hjg:(SP a[i].2.2 k λy=>(y.1,y.2.1,y.2.2 + -m))[(j:Int).toNat]?=some (k,a[i].2.2[j].2.1,a[i].2.2[j].2.2-m):=by rw[ABX,AAI hj2,hlj]
 simp only[hinb,ABU,zM,ABT,s1,hjn,hjg,hw];generalize hL:(SP a[i].2.2 k λy=>(y.1,y.2.1,y.2.2 + -m))=L at *
 have hLm:∀(f:Ph->Ph),L.modify j f=a[i].2.2.take j++(f (k,a[i].2.2[j].2.1,a[i].2.2[j].2.2-m)::a[i].2.2.drop (j+1)):=by intro f;rw[hmodS,mod_mod,List.modify_eq_take_cons_drop hj];show _++f (a[i].2.2[j].1,a[i].2.2[j].2.1,a[i].2.2[j].2.2 + -m)::_=_;rw[hjk,Int.sub_eq_add_neg]
 have hfin:∀(g:Ph->Ph),(Ww a Pu k (-m)).modify i (λy2=>(y2.1,y2.2.1,y2.2.2.modify j g))=a.modify i (λp=>(p.1,p.2.1,a[i].2.2.take j++(g (k,a[i].2.2[j].2.1,a[i].2.2[j].2.2-m)::a[i].2.2.drop (j+1)))):=by intro g;rw[hb,mod_mod];refine bz hi ?_;show(a[i].1,a[i].2.1,(SP a[i].2.2 k λy=>(y.1,y.2.1,y.2.2 + -m)).modify j g)=_;rw[hL,hLm]
 have zI:fi a Pu (k,a[i].2.2[j].2.1-m,a[i].2.2[j].2.2-m)=a.modify i (λp=>(p.1,p.2.1,a[i].2.2.take j++((bif a[i].2.2[j].2.1-m==0 then []else [(k,a[i].2.2[j].2.1-m,a[i].2.2[j].2.2-m)])++a[i].2.2.drop (j+1)))):=by unfold fi;rw[<-e2,<-WM h hi];refine bz hi ?_;show(a[i].1,a[i].2.1,Yz _ a[i].2.2)=_;unfold Yz;rw[nM hst.1 hj hjk]
 have h2:=hfin λy=>(y.1,a[i].2.2[j].2.1-m,y.2.2);dsimp only at h2;simp only[ABX,h2,kG hi,ABT];have hjl2:((a[i].2.2.take j).length:Int)=j:=ADg
 have hgg:(a[i].2.2.take j++(k,a[i].2.2[j].2.1-m,a[i].2.2[j].2.2-m)::a[i].2.2.drop (j+1))[j]?=some (k,a[i].2.2[j].2.1-m,a[i].2.2[j].2.2-m):=by rw[ABO ADg];simp[Nat.min_eq_left (Nat.le_of_lt hj)]
 have hl8:=hst.2.2;have hlen:(a[i].2.2.take j++(k,a[i].2.2[j].2.1-m,a[i].2.2[j].2.2-m)::a[i].2.2.drop (j+1)).length=a[i].2.2.length:=ADg
 have hin2:O3 (a[i].2.2.take j++(k,a[i].2.2[j].2.1-m,a[i].2.2[j].2.2-m)::a[i].2.2.drop (j+1)) (j:Int)=true:=Po (by rw[hlen];exact hj);simp only[hin2,ABU,hgg,ABT];rw[zI];cases hz0:(a[i].2.2[j].2.1-m==0)with
 |false=>rfl
 |true=>
  have p9:Pn ((j:Int)+1)=((j+1:Nat):Int):=Pj hj (show a[i].2.2.length<=9223372036854775807 by clear hn;omega);simp only[ABU,hlen,p9];rw[show(decide ((0:Int)<=0)&&decide ((0:Int)<=(j:Int))&&decide ((j:Int)<=(a[i].2.2.length:Int)))=true by simp;omega];rw[show(decide ((0:Int)<=((j+1:Nat):Int))&&decide (((j+1:Nat):Int)<=(a[i].2.2.length:Int))&&decide ((a[i].2.2.length:Int)<=(a[i].2.2.length:Int)))=true by simp;omega]
  have q1:sub (a[i].2.2.take j++(k,a[i].2.2[j].2.1-m,a[i].2.2[j].2.2-m)::a[i].2.2.drop (j+1)) 0 j=a[i].2.2.take j:=by
   unfold sub;rw[List.drop_zero,Nat.sub_zero,List.take_append_of_le_length ADg,List.take_take,Nat.min_self]
  have q2:sub (a[i].2.2.take j++(k,a[i].2.2[j].2.1-m,a[i].2.2[j].2.2-m)::a[i].2.2.drop (j+1)) (j+1) a[i].2.2.length=a[i].2.2.drop (j+1):=by
   have:(a[i].2.2.take j).length=j:=ADg
   unfold sub;rw[List.drop_append,this,show j+1-j=1 by omega,List.drop_eq_nil_of_le (by rw[this];omega),AA0,List.drop_one,List.tail_cons,ABv OF]
  have d1:decide ((a[i].2.2.take j).length<=Dj)=true:=VI ADg;have d2:decide ((a[i].2.2.take j).length+(a[i].2.2.drop (j+1)).length<=Dj)=true:=VI ADg;simp only[ABU,ABX,ACQ,q1,q2,d1,d2,ABT,mod_mod];rfl
theorem bh(a:It)(ha:P4 a)(ps:AAB)(hp:ps.length<=1048576)(n:Nat)(hn:Ps<=n):XS n a ps=some (RT V5 a ps):=by
 have h1:=Ym (SB n a ps) V5 a ps (λs p hs=>lM hs _ _ _) ha (λi s hi hs=>by
  have hd:decide ((i:Int)<(ps.length:Int))=true:=ADm
  simp only[SB,hd,ABU,Pk hi,ABT,bj s hs _ _ _ n hn,QL a ha n hn,Pj hi (show ps.length<=9223372036854775807 by clear hn;omega)];show(bif(V5 s ps[i]).2 != 0 then _ else _)=_;cases((V5 s ps[i]).2 != 0)<;>rfl) (λs=>by simp[SB]) n ADd
 unfold XS Vj;rw[QL a ha n hn,ABT,h1,ABT];unfold RT;grind
theorem oX{l:AAB}{j:Nat}{x:Ph}(h1:∀i (h:i<l.length),i<j->l[i].1<x.1)(h2:∀i (h:i<l.length),j<=i->x.1<l[i].1)(m:AAB):Vq x l m=l.take j++(m++l.drop j):=by
 have e1:l.filter (λy=>decide (y.1<x.1))=l.take j:=by
  conv=>lhs;rw[<-ABz j l]
  rw[AB1,ACL.2,AB6.2,ABn]
  ·intro y hy;obtain⟨i,hi,rfl⟩:=ABY.1 hy;rw[ACa];rw[ACF]at hi;have:=h2 (j+i) J J;simp;omega
  ·intro y hy;obtain⟨i,hi,rfl⟩:=ABY.1 hy;rw[ACZ];rw[AB8]at hi;have:=h1 i J J;simpa using this
 have e2:l.filter (λy=>decide (x.1<y.1))=l.drop j:=by
  conv=>lhs;rw[<-ABz j l]
  rw[AB1,AB6.2,ACL.2,AA0]
  ·intro y hy;obtain⟨i,hi,rfl⟩:=ABY.1 hy;rw[ACa];rw[ACF]at hi;have:=h2 (j+i) J J;simpa using this
  ·intro y hy;obtain⟨i,hi,rfl⟩:=ABY.1 hy;rw[ACZ];rw[AB8]at hi;have:=h1 i J J;simp;omega
 unfold Vq;rw[e1,e2]
theorem jV{l:AAB}(hs:VU l)(p0 p1 k:Int)(n:Nat)(hn:Ps<=n):
  ∃(j:Nat) (b:Bool),Qr n p0 p1 l k=some ((j:Int),b)/\j<=l.length/\(b=true->∃h:j<l.length,l[j].1=k)/\(b=false->(∀i (h:i<l.length),i<j->l[i].1<k)/\∀i (h:i<l.length),j<=i->k<l[i].1):=by
 have h8:=hs.2.2;have hp:=ABR.1 hs.1
 obtain⟨j,h1,h2,h3,h4⟩:=aj (Qj l k) l.length (λi=>decide ((l.getD i (0,0,0)).1<k)) (λi hi=>by
  simp only[Qj,Pk hi,ABT,Pj hi (show l.length<=9223372036854775807 by clear hn;omega)];grind) (by simp[Qj]) n ADd
 have hlow:∀i (hi:i<l.length),i<j->l[i].1<k:=by intro i hi hij;have:=h3 i hij;simpa[hi]using this
 unfold Qr;rw[h2];by_cases hj:j<l.length
 ·have zu:=h4 hj;have zu:k<=l[j].1:=by simpa[hj]using zu
  refine⟨j,l[j].1==k,by simp[hj,Pk hj],h1,λhb=>⟨hj,AD9⟩,λhb=>⟨hlow,λi hi hij=>?_⟩⟩;have zD:l[j].1≠k:=AD9
  rcases Nat.eq_or_lt_of_le hij with e|zA
  ·subst e;clear hn;omega
  ·have:=hp j i hj hi zA;clear hn;omega
 ·refine⟨j,false,No,h1,λhb=>(by cases hb),λhb=>⟨hlow,λi hi hij=>ADb⟩⟩
theorem eE(a:It)(hs:P4 a)(Pu k m:Int)(n:Nat)(hn:Ps<=n):Y6 n a Pu k m=some (UY a Pu k m):=by
 unfold Y6 UY;rw[QL a hs n hn,ABT,X0 a hs Pu k m n hn,ABT];by_cases hc:QQ a Pu k m=0
 case neg=>
  rw[AAP hc,AAP hc];dsimp only;rw[show(QQ a Pu k m != 0)=true by grind];rfl
 obtain⟨h,hk,hm,i,hi,e1,e2,e3⟩:=Qn hc;have hst:=(h.2.2 _ (ABW hi)).2.2;have h8:=hst.2.2;have hnc:¬QQ a Pu k m≠0:=λq=>q hc;have hlen:cW a Pu=a[i].2.2.length:=by unfold cW;grind
 have hg:a[(i:Int).toNat]?=some a[i]:=by simp[hi]
 obtain⟨j,b,s1,hjl,s2,s3⟩:=jV hst a[i].1 a[i].2.1 k n hn;rw[AAQ hnc,AAQ hnc,hlen,e3,e1];dsimp only;rw[show((0:Int) != 0)=false from rfl,ABV,Po hi,ABU];simp only[hg,ABT,s1]
 have put:∀x:Ph,∀f:Pt->Pt,x.2.1≠0->f a[i]=(a[i].1,a[i].2.1,Vq x a[i].2.2 [x])->List.modify a (i:Int).toNat f=fi a Pu x:=by intro x f hx0 hf;unfold fi;rw[<-e2,<-WM h hi,ABX];refine bz hi ?_;rw[hf];unfold Yz;rw[show(x.2.1==0)=false from ABa.2 hx0];rfl
 cases b with
 |true=>
  obtain⟨hj,q⟩:=s2 rfl;have q2:Px a[i].2.2 k=a[i].2.2[j]:=by rw[<-q];exact TA hst (ABW hj)
  have hx:=hst.2.1 _ (ABW hj);have hjg:a[i].2.2[(j:Int).toNat]?=some a[i].2.2[j]:=by simp[hj]
  have hw:Pn (a[i].2.2[j].2.1+m)=a[i].2.2[j].2.1+m:=Pr ADb ADb;rw[q2];simp only[ABU,Po hj,hjg,ABT,hw,ABc,ABV];by_cases hgt:a[i].2.2[j].2.1+m>1000
  ·rw[ABZ hgt,AAP (.inl hgt)];rfl
  ·rw[ABd hgt,AAQ ADb];simp only[ABV,ABT];congr 2;refine put (k,a[i].2.2[j].2.1+m,a[i].2.2[j].2.2) _ (by show a[i].2.2[j].2.1+m≠0;clear hn;omega) ?_;rw[nM hst.1 hj (x:=(k,a[i].2.2[j].2.1+m,a[i].2.2[j].2.2)) q,ABX,List.modify_eq_take_cons_drop hj,q];rfl
 |false=>
  obtain⟨lo,hi2⟩:=s3 rfl
  have q2:Px a[i].2.2 k=(k,0,0):=Rq λx hx e=>by
   obtain⟨u,hu,rfl⟩:=AB5 hx;rcases AAr u j with hl|hl
   ·have:=lo u hu hl;clear hn;omega
   ·have:=hi2 u hu hl;clear hn;omega
  rw[q2];simp only[ABV,ABu,ABU,ABT];by_cases h8e:a[i].2.2.length=8
  ·rw[show decide ((a[i].2.2.length:Int)>=8)=true by rw[AAf];clear hn;omega,AAP (.inr (by simpa using h8e))];rfl
  ·rw[show decide ((a[i].2.2.length:Int)>=8)=false by rw[AAl];clear hn;omega,AAQ ADb];have s0:sub a[i].2.2 ((0:Int).toNat) ((j:Int).toNat)=a[i].2.2.take j:=by simp[sub]
   have s9:sub a[i].2.2 ((j:Int).toNat) ((a[i].2.2.length:Int).toNat)=a[i].2.2.drop j:=by simp[sub,ABv]
   have c1:(decide (0<=(0:Int))&&decide ((0:Int)<=(j:Int))&&decide ((j:Int)<=(a[i].2.2.length:Int)))=true:=by rw[AAJ,AAJ,AAf,AAf,AAf];clear hn;omega
   have c2:(decide (0<=(j:Int))&&decide ((j:Int)<=(a[i].2.2.length:Int))&&decide ((a[i].2.2.length:Int)<=(a[i].2.2.length:Int)))=true:=by rw[AAJ,AAJ,AAf,AAf,AAf];clear hn;omega
   have l1:(a[i].2.2.take j).length<=8:=by rw[AB8];clear hn;omega
   have l2:(a[i].2.2.drop j).length<=8:=by rw[ACF];clear hn;omega
   have r1:decide ((a[i].2.2.take j).length<=Dj)=true:=by rw[AAf];unfold Dj;clear hn;omega
   have r2:decide ((a[i].2.2.take j).length+1<=Dj)=true:=by rw[AAf];unfold Dj;clear hn;omega
   have r3:decide ((a[i].2.2.take j).length+1+(a[i].2.2.drop j).length<=Dj)=true:=by rw[AAf];unfold Dj;clear hn;omega
   simp only[s0,s9,c1,c2,AAz,ABb,r1,r2,r3,ABU,ABV,ABT];congr 2;refine put (k,0+m,0) _ (by show(0:Int)+m≠0;clear hn;omega) ?_;rw[oX (x:=(k,0+m,0)) lo hi2,Int.zero_add,ABo]
theorem lh(ps:AAB)(hl:ps.length<=1048576)(hp:∀p∈ps,(1<=p.2.1/\p.2.1<=50)/\(1<=p.2.2/\p.2.2<=1000))(x6:It×Bool)(w h:Int)(c:By)(a:It)(nx:Int)(l:ADY)(crew:ADX)(ts:AAH)(st:By)(nw:Int)(hou:OB 1000000 ou)(n:Nat)(hn:Ps<=n):
  ∃k:Int,iter n (R5 ps x6) (0,w,h,c,a,nx,l,crew,ts,st,ou,nw)=some (k,w,h,c,a,nx,l,crew,ts,st,(bif x6.2 then mN ou ps else ou),nw):=by
 obtain⟨b6,ok⟩:=x6;cases ok with
 |false=>
  obtain⟨m,rfl⟩:∃m,n=m+1:=⟨n-1,ADd⟩;refine⟨0,QO ?_ m⟩;unfold R5;grind
 |true=>
  refine⟨(ps.length:Int),?_⟩;rw[ABU];refine QA (σ:=By) (R5 ps (b6,true)) (λi s=>((i:Int),w,h,c,a,nx,l,crew,ts,st,s,nw)) ps (λr s=>((ps.length:Int),w,h,c,a,nx,l,crew,ts,st,mN s r,nw)) (λi s=>OB 1000000 s) (λs _=>?_) (λi p r s hi hx _ _ hs=>?_) n ADd ou hou
  ·unfold R5;dsimp only;rw[show decide ((ps.length:Int)<(ps.length:Int))=false by rw[AAl];omega];rfl
  ·left;have hpe:ps[i]=p:=by rw[AAI hi]at hx;exact Option.some.inj hx
   obtain⟨⟨s1,s2⟩,n1,n2⟩:=hp p No;have hk:p.2.1.toNat<s.length:=by rw[hs.1];clear hn;omega
   have yt:O3 s p.2.1=true:=ZC ⟨J,J⟩;have zM:s[p.2.1.toNat]?=some (s.getD p.2.1.toNat 0):=by rw[AAI hk];simp[hk]
   have hb:=hs.getD J p.2.1.toNat;refine⟨if s.getD p.2.1.toNat 0+p.2.2<=1000000 then s.set p.2.1.toNat (s.getD p.2.1.toNat 0+p.2.2)else s,?_,?_,rfl⟩
   ·unfold R5;dsimp only;rw[show decide ((i:Int)<(ps.length:Int))=true by rw[AAf];clear hn;omega];simp only[ABU,ABT,Po hi,ABX,hx,yt,zM,QX,Pj hi (show ps.length<=9223372036854775807 by clear hn;omega)];rw[Pr (n:=s.getD p.2.1.toNat 0+p.2.2) ADb ADb];grind
   ·split
    ·rename_i hle;exact hs.set (ACb _) _ ⟨J,hle⟩
    ·exact hs
theorem cQ(w h:Int)(c:By){x y:AAH}{t:P6}(d:DK a nx l crew (x++t::y))(hsm:RZ (nx,l))(ht:t.2.2.2≠1)(ts:AAH)(st:By)(hou:OB 1000000 ou)(nw:Int)(n:Nat)(hn:Ps<=n):
  ∃t':P6,Xk n w h c a nx l crew ts st ou nw t.1 t.2.1 t.2.2.1 t.2.2.2=some ((Qk a ou l crew t).2.2.2.isNone,w,h,c,(Qk a ou l crew t).1,nx,l,(Qk a ou l crew t).2.2.1,ts,st,(Qk a ou l crew t).2.1,nw,t')/\t'.1=t.1/\∀u,(Qk a ou l crew t).2.2.2=some u->u=t':=by
 have hT:=d.tk t (AAS _ AAg);obtain⟨o,ho,_,_⟩:=hT.ord;obtain⟨r,hr,_,_⟩:=hT.ea ht;have hcl:=d.n20;have hpod:=hT.Pu;rcases VO crew J t.2.2.1 n hn with⟨_,hno⟩|⟨k,hk,ek,ev⟩
 ·exact(hno r (QK hr).1 (QK hr).2).elim
 have hS:=d.sk.sm;unfold Xk Qk;rw[ec,ev,ABT,Po hk,ABU];simp only[ABX];have cm:∀f:P9->P9,crew.modify k f=XK crew t.2.2.1 f:=λf=>by rw[<-ek];exact iX d.ids hk f
 by_cases h2:t.2.2.2=2
 ·have hg:=Sn w h c d.sk d.bk hsm (List.modify (List.modify crew k (λ(y:Pg)=>(y.1,y.2.1,y.2.2.1,y.2.2.2.1,0))) k (λ(y:Pg)=>(y.1,y.2.1,y.2.2.1,true,y.2.2.2.2))) ts st ou nw (VC t 3) ⟨o,ho⟩ hpod n hn;rw[AAP h2,show(t.2.2.2==2)=true from AAT.2 h2,ABU,ax hk,ABU];rw[show Q2 n w h c a nx l _ ts st ou nw t.1 t.2.1 t.2.2.1 3=_ from hg,ABT];rw[mod_mod,ax hk,ABU,mod_mod,cm];exact⟨VC t 3,rfl,rfl,λu hu=>No⟩
 ·rw[AAQ h2,show(t.2.2.2==2)=false from ABa.2 h2,ABV];by_cases h3:t.2.2.2=3
  ·rw[AAP h3,show(t.2.2.2==3)=true from AAT.2 h3,ABU];obtain⟨i,hi,e1,_,ef⟩:=Zo d.bk hsm ho n hn;have hpl:o.2.2.2.1.length<=1048576:=(hsm.2 o (RH ho).1).2;have hil:o.2.2.1.length<=1048576:=(hsm.2 o (RH ho).1).1
   have hoo:Xa n nx l t.1=some (o.1,o.2.1,o.2.2.1,o.2.2.2.1,o.2.2.2.2,true):=by unfold Xa;rw[ef,ABT,show decide ((i:Int)<0)=false by grind,ABV,Pk hi,ABT,e1];unfold Qd;rw[VI No,VI No];rfl
   have hpk:P5 l t=o.2.2.2.1.filter λp=>p.1==t.2.1:=by unfold P5;rw[ho]
   have hpl2:=cB hsm t;rw[hoo,ABT];dsimp only;rw[dQ o hpl t.2.1 n hn,ABT,<-hpk];unfold ZL;rw[cO a hS (P5 l t) hpl2 n hn,ABT,ABT];obtain⟨kk,hloop⟩:=lh (P5 l t) hpl2 (bB d.bk t) (RT V5 a (P5 l t)) w h c (RT V5 a (P5 l t)).1 nx l (List.modify crew k (λ(y:Pg)=>(y.1,y.2.1,y.2.2.1,y.2.2.2.1,0))) ts st nw hou n hn;rw[hloop,ABT];dsimp only;obtain⟨g1,g2,_⟩:=ZN d.sk (P5 l t);have hpod2:=(hT.same g2 (k:=l) rfl).Pu;have hg:=Sn w h c g1 d.bk hsm (List.modify crew k (λ(y:Pg)=>(y.1,y.2.1,y.2.2.1,y.2.2.2.1,0))) ts st (bif(RT V5 a (P5 l t)).2 then mN ou (P5 l t)else ou) nw (VC t 4) ⟨o,ho⟩ hpod2 n hn;rw[show Q2 n w h c _ nx l _ ts st _ nw t.1 t.2.1 t.2.2.1 4=_ from hg,ABT];rw[ax hk,ABU,mod_mod,cm];exact⟨VC t 4,rfl,rfl,λu hu=>No⟩
  ·rw[AAQ h3,show(t.2.2.2==3)=false from ABa.2 h3,ABV];rw[ax hk,ABU,mod_mod,ax hk,ABU,mod_mod,cm];exact⟨t,rfl,rfl,λu hu=>by cases hu⟩
structure BG(nx:Int)(l:ADY):Prop where
 bk:XL nx l
 Kc:gk l
 eQ:∀o∈l,o.2.2.2.1.length<=72
theorem BG.sm(h:BG nx l):RZ (nx,l):=by
 have h30:=h.bk.2.1;refine⟨No,λo ho=>?_⟩;have h72:=h.eQ o ho;obtain⟨_,_,⟨hI,_⟩,_,_⟩:=h.bk.2.2.2 o ho;have h6:=hI.2.2;exact⟨by show o.2.2.1.length<=_;omega,by show o.2.2.2.1.length<=_;omega⟩
theorem BG.spec(h:BG nx l)(n:Nat)(hn:Ps<=n):RP n nx l=some true:=by obtain⟨b,e,ib⟩:=ZR h.sm h.Kc n hn;rw[e,ib.2 ⟨h.bk,h.eQ⟩]
theorem DI.bg(d:DI w h c a nx l crew ts):BG nx l:=⟨d.bk,d.Kc,d.eQ⟩
theorem cA(h:l.Pairwise λa b=>a.1<b.1){i:Nat}(hi:i<l.length)(st:Int):l.modify i (λo=>(o.1,o.2.1,o.2.2.1,o.2.2.2.1,st))=RW l l[i].1 st:=by
 unfold RW;refine ACG No λk h1 h2=>?_;rw[List.length_modify]at h1;rw[List.getElem_modify,ABj];by_cases e:i=k
 ·grind
 ·rw[AAQ e,show(l[k].1==l[i].1)=false from ABa.2 λq=>?_,ABV];rcases ABN e with hl|hl
  ·have:=ABR.1 h i k hi h1 hl;omega
  ·have:=ABR.1 h k i h1 hi hl;omega
theorem dO(h:BG nx l)(id:Int)(n:Nat)(hn:Ps<=n):∃b,YS n nx l id=some (nx,(bif Ro l id then RW l id 2 else l),b):=by
 have hsm:=h.sm;unfold YS;rw[TH nx l hsm n hn,ABT,h.spec n hn];cases ho:Qo l id with
 |none=>
  have hm:∀x∈l,x.1≠id:=λx hx e=>AEB
  have hf:=Vr nx l hsm.1 id hm n hn;rw[X2]at hf;have hio:Ro l id=false:=by unfold Ro;rw[ho]
  rw[hf,hio];exact⟨false,rfl⟩
 |some o=>
  obtain⟨i,hi,e1,e2,ef⟩:=Zo h.bk hsm ho n hn;have hio:Ro l id=(o.2.2.2.2==1):=by unfold Ro;rw[ho]
  rw[ef,hio];simp only[ABT,ABc,ABV,show decide ((i:Int)<0)=false by grind,Pk hi,e1];cases hs:(o.2.2.2.2==1)with
  |false=>
   rw[show(o.2.2.2.2 != 1)=true by simp only[bne,hs];rfl];grind
  |true=>
   rw[show(o.2.2.2.2 != 1)=false by simp only[bne,hs];rfl,ABV,Po hi,ABU,ABX,cA h.bk.2.2.1 hi,e1,e2];grind
theorem BG.Ds(h:BG nx l)(id:Int){st:Int}(hst:1<=st/\st<=3):BG nx (RW l id st):=by
 have mem:∀q∈RW l id st,∃o∈l,q=(bif o.1==id then(o.1,o.2.1,o.2.2.1,o.2.2.2.1,st)else o:QH):=λq hq=>by unfold RW at hq;grind
 have key:∀o:QH,(bif o.1==id then(o.1,o.2.1,o.2.2.1,o.2.2.2.1,st)else o:QH).2.2.2.1=o.2.2.2.1:=λo=>No
 have hd:DK [] nx (RW l id st) [] []:=DK.Ds ⟨⟨OF,List.Pairwise.nil,(λp hp=>by cases hp)⟩,h.bk,OF,List.Pairwise.nil,Q6.2 ⟨OF,(λx hx=>by cases hx),List.Pairwise.nil⟩,(λt ht=>by cases ht)⟩ hst (λt ht=>by cases ht);refine⟨hd.bk,λq hq=>?_,λq hq=>?_⟩
 ·obtain⟨o,ho,rfl⟩:=mem q hq;rw[key];exact h.Kc o ho
 ·obtain⟨o,ho,rfl⟩:=mem q hq;rw[key];exact h.eQ o ho
theorem pB(left:AAH)(hl:left.length<=1048576)(ended:By){i:Nat}(hi:i<ended.length)(r:Int×Int×Int×By×It×Int×ADY×ADX×AAH×By×By×Int)(y:Int×Int×By×It×Int×ADY×ADX×AAH×By×By×Int)(n:Nat)(hn:Ps<=n):
  ∃j:Int,iter n (TN (left,ended,r) ((i:Int),y)) (false,0)=some (left.any (λt=>t.1==ended[i]),j):=by
 refine⟨(left.length:Int),?_⟩;have:=QA (σ:=Bool) (TN (left,ended,r) ((i:Int),y)) (λk s=>(s,(k:Int))) left (λq s=>(s||q.any (λt=>t.1==ended[i]),(left.length:Int))) (λ_ _=>True) (λs _=>?_) (λk t q s hk ht _ _ _=>?_) n ADd false trivial
 ·grind
 ·unfold TN;grind
 ·left;refine⟨s||t.1==ended[i],?_,trivial,by simp only[List.any_cons,Bool.or_assoc]⟩;unfold TN;dsimp only;rw[show decide ((k:Int)<(left.length:Int))=true by rw[AAf];clear hn;omega];simp only[ABU,Po hk,ABX,ht,ABT,Po hi,AAI hi,Pj hk (show left.length<=9223372036854775807 by clear hn;omega)];grind
theorem o9(left:AAH)(hl:left.length<=1048576)(ended:By)(zN:ended.length<=1048576)(r:Int×Int×Int×By×It×Int×ADY×ADX×AAH×By×By×Int)(w h:Int)(c:By)(a:It)(nx:Int)(hb:BG nx l)(crew:ADX)(st ou:By)(nw:Int)(n:Nat)(hn:Ps<=n):
  iter n (TM n (left,ended,r)) (0,w,h,c,a,nx,l,crew,left,st,ou,nw)=some ((ended.length:Int),w,h,c,a,nx,oS left ended l,crew,left,st,ou,nw):=by
 refine QA (σ:=ADY) (TM n (left,ended,r)) (λi s=>((i:Int),w,h,c,a,nx,s,crew,left,st,ou,nw)) ended (λq s=>((ended.length:Int),w,h,c,a,nx,oS left q s,crew,left,st,ou,nw)) (λ_ s=>BG nx s) (λs _=>?_) (λi id q s hi hx _ _ hs=>?_) n ADd l hb
 ·unfold TM;dsimp only;rw[show decide ((ended.length:Int)<(ended.length:Int))=false by rw[AAl];omega];rfl
 ·left;have he:ended[i]=id:=by rw[AAI hi]at hx;exact Option.some.inj hx
  obtain⟨j,e3⟩:=pB left hl ended hi r (w,h,c,a,nx,s,crew,left,st,ou,nw) n hn;rw[he]at e3;obtain⟨b,ef⟩:=dO hs id n hn;refine⟨bif(left.any λt=>t.1==id) || !Ro s id then s else RW s id 2,?_,?_,rfl⟩
  ·unfold TM;dsimp only;rw[show decide ((i:Int)<(ended.length:Int))=true by rw[AAf];clear hn;omega];simp only[ABU,e3,ABT,Po hi,ABX,hx,ef,Pj hi (show ended.length<=9223372036854775807 by clear hn;omega)];grind
  ·cases(left.any λt=>t.1==id) || !Ro s id
   ·exact hs.Ds id ⟨J,J⟩
   ·exact hs
theorem kv:∀(ps:AAB)(ou:By),(∀p∈ps,1<=p.2.2/\p.2.2<=1000)->OB 1000000 ou->OB 1000000 (mN ou ps)
 | [],ou,_,h=>h
 |p::ps,ou,hp,h=>by
  have h1:=hp p AAg;have h2:=h.getD J p.2.1.toNat;refine kv ps _ (λq hq=>hp q (AAM _ hq)) ?_;dsimp only;split
  ·rename_i hle;exact h.set (ACb _) _ ⟨J,hle⟩
  ·exact h
theorem gJ(l:ADY):∀(ts:AAH)(s:pF),(Q5 l ts s).2.2.2.2.length<=s.2.2.2.2.length+ts.length
 | [],s=>AAc _
 |t::ts,s=>by
  have ih:=gJ l ts (Re l t s)
  have h1:(Re l t s).2.2.2.2.length<=s.2.2.2.2.length+1:=by
   unfold Re;split
   ·dsimp only;cases(Qk s.1 s.2.1 l s.2.2.1 t).2.2.2 with
    |none=>simp only[AAz,ABb];omega
    |some _=>dsimp only;omega
   ·dsimp only;omega
  have hun:Q5 l (t::ts) s=Q5 l ts (Re l t s):=rfl;grind
theorem o8(crew0:ADX)(ts:AAH)(w h:Int)(c:By)(hsm:RZ (nx,l))(d:DK a nx l crew ts)(ts0:AAH)(st:By)(hou:OB 1000000 ou)(nw:Int)(n:Nat)(hn:Ps<=n):
  iter n (TL n (crew0,ts)) ([],[],0,w,h,c,a,nx,l,crew,ts0,st,ou,nw)=some ((Q5 l ts (a,ou,crew,[],[])).2.2.2.1,(Q5 l ts (a,ou,crew,[],[])).2.2.2.2,(ts.length:Int),w,h,c,(Q5 l ts (a,ou,crew,[],[])).1,nx,l,(Q5 l ts (a,ou,crew,[],[])).2.2.1,ts0,st,(Q5 l ts (a,ou,crew,[],[])).2.1,nw):=by
 have h60:=(Q6.1 d.XJ).1
 refine QA (σ:=pF) (TL n (crew0,ts)) (λi s=>(s.2.2.2.1,s.2.2.2.2,(i:Int),w,h,c,s.1,nx,l,s.2.2.1,ts0,st,s.2.1,nw)) ts (λq s=>((Q5 l q s).2.2.2.1,(Q5 l q s).2.2.2.2,(ts.length:Int),w,h,c,(Q5 l q s).1,nx,l,(Q5 l q s).2.2.1,ts0,st,(Q5 l q s).2.1,nw))
  (λi s=>DK s.1 nx l s.2.2.1 (s.2.2.2.1++ts.drop i)/\OB 1000000 s.2.1/\s.2.2.2.2.length<=i/\s.2.2.2.1.length<=i) (λs hs=>?_) (λi t q s hi hx hd1 hd2 hs=>?_) n ADd (a,ou,crew,[],[]) ⟨by simpa using d,hou,OF,OF⟩
 ·unfold TL;dsimp only;rw[show decide ((ts.length:Int)<(ts.length:Int))=false by rw[AAl];omega];rfl
 ·left;obtain⟨hD,hO,hE,hL⟩:=hs;rw[hd1]at hD;obtain⟨sa,so,sc,sl,se⟩:=s;dsimp only at hD hO hE hL ⊢;have yz:∀y:P6,decide (sl.length+[y].length<=Dj)=true:=λy=>Ru J;have hrow2:∀y:Int,decide (se.length+[y].length<=Dj)=true:=λy=>Ru J;have hwi:Pn ((i:Int)+1)=((i+1:Nat):Int):=Pj hi (show ts.length<=9223372036854775807 by omega);have hcl:=hD.n20;have hdec:decide ((i:Int)<(ts.length:Int))=true:=by rw[AAf];clear hn;omega
  refine⟨Re l t (sa,so,sc,sl,se),?_,?_,rfl⟩
  ·unfold TL;dsimp only;rw[hdec];simp only[ABU,Po hi,ABX,hx,ABT]
   have hrob:∃x6,TV n sc t.2.2.1=some x6/\(t.2.2.2≠1->∃k,∃hk:k<sc.length,x6=(k:Int)/\Tb sc t.2.2.1=some sc[k]):=by
    rw[ec];rcases VO sc J t.2.2.1 n hn with⟨e,hno⟩|⟨k,hk,ek,ev⟩
    ·refine⟨_,e,λh1=>?_⟩;obtain⟨r,hr,_⟩:=(hD.tk t (AAS _ AAg)).ea h1;exact(hno r (QK hr).1 (QK hr).2).elim
    ·refine⟨_,ev,λ_=>⟨k,hk,rfl,?_⟩⟩;rw[<-ek];exact X6 hD.ids hk
   obtain⟨x6,e6,hk6⟩:=hrob;rw[e6,ABT];unfold Re TW;dsimp only;by_cases h1:t.2.2.2=1
   ·grind
   ·obtain⟨k,hk,rfl,hr⟩:=hk6 h1;rw[show(t.2.2.2 != 1)=true from AB2.2 h1,show(t.2.2.2==1)=false from ABa.2 h1,hr];simp only[ABU,Po hk,ABX,AAI hk,ABT,ABu,ABx];cases hg:(sc[k].2.1==sc[k].2.2.1)with
    |false=>
     grind
    |true=>
     rw[AAP rfl,ABU];obtain⟨t',ev,et,hu⟩:=cQ w h c hD hsm h1 ts0 st hO nw n hn;rw[ev];cases hq:(Qk sa so l sc t).2.2.2 with
     |none=>simp only[ABT,Option.isNone,ABU,hrow2,hwi,et,dN,ABn]
     |some u=>
      have:=hu u hq;subst this;simp only[ABT,Option.isNone,ABV,yz,ABU,hwi,dN]
  ·rw[hd2];unfold Re;by_cases hg:TW sc t=true
   ·rw[AAP hg]
    have ht:t.2.2.2≠1:=λe=>by unfold TW at hg;rw[show(t.2.2.2==1)=true from AAT.2 e]at hg;simp at hg
    have hgo:=hD.jr ht so;refine⟨?_,?_,?_,?_⟩
    ·show DK _ nx l _ ((sl++dN _)++q);rw[ABo];exact hgo
    ·show OB 1000000 (Qk sa so l sc t).2.1;unfold Qk;split
     ·exact hO
     ·split
      ·dsimp only;cases(RT V5 sa (P5 l t)).2
       ·exact hO
       ·exact kv _ so (λp hp=>by have:=bB d.bk t p hp;exact⟨this.2.1,this.2.2⟩) hO
      ·exact hO
    ·show(match(Qk sa so l sc t).2.2.2 with|some _=>se|none=>se++[t.1]).length<=i+1;cases(Qk sa so l sc t).2.2.2 with
     |none=>simp only[AAz,ABb];clear hn;omega
     |some _=>dsimp only;clear hn;omega
    ·show(sl++dN (Qk sa so l sc t).2.2.2).length<=i+1;cases(Qk sa so l sc t).2.2.2 with
     |none=>simp only[dN,ABn];clear hn;omega
     |some _=>simp only[dN,AAz,ABb];clear hn;omega
   grind
theorem cT(d:DI w h c a nx l crew ts)(st:By)(hou:Ti ou)(nw:Int)(n:Nat)(hn:Ps+1000<=n):
  ∃crew2,CW c crew2/\crew2.length=(sendAll a crew ts (QR w h c a crew ts)).1.length/\(∀k (h1:k<(sendAll a crew ts (QR w h c a crew ts)).1.length) (h2:k<crew2.length),crew2[k].1=(sendAll a crew ts (QR w h c a crew ts)).1[k].1/\crew2[k].2.2.1=(sendAll a crew ts (QR w h c a crew ts)).1[k].2.2.1/\crew2[k].2.2.2.1=(sendAll a crew ts (QR w h c a crew ts)).1[k].2.2.2.1)/\
   VZ n w h c (sendAll a crew ts (QR w h c a crew ts)).1=some crew2/\
   Xm n w h c a nx l crew ts st ou nw=some (w,h,c,(R9 a ou l crew2 (sendAll a crew ts (QR w h c a crew ts)).2).1,nx,(R9 a ou l crew2 (sendAll a crew ts (QR w h c a crew ts)).2).2.2.1,(R9 a ou l crew2 (sendAll a crew ts (QR w h c a crew ts)).2).2.2.2.1,(R9 a ou l crew2 (sendAll a crew ts (QR w h c a crew ts)).2).2.2.2.2,st,(R9 a ou l crew2 (sendAll a crew ts (QR w h c a crew ts)).2).2.1,Pn (nw+1)):=by
 have hB:Ps<=n:=AAv (AB0 _ _) hn;have hcl:c.length<=1048576:=by have:=(WC d.fl).le;clear hn hB;omega
 have h20:=d.cw.n20;have h60:=(Q6.1 d.XJ).1;have hd:=dy hcl d.fl a crew ts;have ds:=d.kQ hd (ZI hd.n1 hd.n2);have e1:=cL hcl d.st.sm (show crew.length<=1048576 by omega) (show ts.length<=1048576 by omega) n hB (w:=w) (h:=h);rw[iY d.fl d.st d.cw d.XJ]at e1;obtain⟨out,a1,a2,a3,a4,a5⟩:=iS hcl ds.fl ds.cw n hn;have da:=ds.qX a3 a4 a5;have h60s:=(Q6.1 da.XJ).1;have hL1:=o8 (sendAll a crew ts (QR w h c a crew ts)).1 (sendAll a crew ts (QR w h c a crew ts)).2 w h c d.bg.sm da.ym ts st hou.ob (Pn (nw+1)) n hB;have hdone:=DI.Q5 (sendAll a crew ts (QR w h c a crew ts)).2 (a,ou,out,[],[]) da;have hl2:(Q5 l (sendAll a crew ts (QR w h c a crew ts)).2 (a,ou,out,[],[])).2.2.2.1.length<=1048576:=by have:=(Q6.1 hdone.XJ).1;clear hn hB;omega
 have hl3:(Q5 l (sendAll a crew ts (QR w h c a crew ts)).2 (a,ou,out,[],[])).2.2.2.2.length<=1048576:=by have:=gJ l (sendAll a crew ts (QR w h c a crew ts)).2 (a,ou,out,[],[]);dsimp only[List.length_nil]at this;clear hn hB;omega
 refine⟨out,a3,a4,a5,a1,?_⟩;unfold Xm;rw[e1,ABT];rw[a2,ABT,hL1,ABT];rw[o9 _ hl2 _ hl3 _ w h c _ nx d.bg _ st _ _ n hB,ABT];rfl
theorem cS(w h:Int)(c:By)(ha:Py a)(hb:BG nx l)(hc:CW c crew)(ts:AAH)(st ou:By)(nw:Int){t:P6}(hg:Qe t=true)(n:Nat)(hn:Ps<=n):
  ∃b,US n w h c a nx l crew ts st ou nw t.1 t.2.1 t.2.2.1 t.2.2.2=some b/\(b=true↔Ua a l crew t):=by
 have hal:=ha.1;have hcl:=hc.n20;have hsm:=hb.sm;obtain⟨⟨s1,s4⟩,hrz⟩:=dz hg;unfold US;cases ho:Qo l t.1 with
 |none=>
  have hm:∀x∈l,x.1≠t.1:=λx hx e=>by unfold Qo at ho;have:=ACH.1 ho x hx;rw[e]at this;simp at this
  have hf:=Vr nx l hsm.1 t.1 hm n hn;rw[X2]at hf;rw[hf];refine⟨false,rfl,(λe=>by cases e),λhT=>?_⟩;obtain⟨o,e,_⟩:=hT.ord;grind
 |some o=>
  obtain⟨i,hi,e1,e2,ef⟩:=Zo hb.bk hsm ho n hn;rw[ef,ABT,show decide ((i:Int)<0)=false by grind,ABV];simp only[Pk hi,e1,ABT];by_cases hst:o.2.2.2.2=1
  case neg=>
   rw[show(o.2.2.2.2 != 1)=true from AB2.2 hst];refine⟨false,rfl,(λe=>by cases e),λhT=>?_⟩;obtain⟨o2,e,e2,_⟩:=hT.ord;grind
  rw[show(o.2.2.2.2 != 1)=false by rw[hst];rfl,ABV];have hpx:=RE a J t.2.1 n hn;rw[hpx.1,ABT];rcases hpx.2 with⟨e,hno⟩|⟨j,hj,e,ej⟩
  ·rw[e];refine⟨false,rfl,(λe=>by cases e),λhT=>?_⟩;obtain⟨q,hq⟩:=hT.Pu;exact(hno q (UL hq).1 (UL hq).2).elim
  have hpl:o.2.2.2.1.length<=1048576:=(hsm.2 o (RH ho).1).2
  have hplen:(Tu o.2.2.2.1).length<=1048576:=by have:=Yu o.2.2.2.1 [];unfold Tu;simp only[List.length_nil]at this;clear hn;omega
  rw[e,show decide ((j:Int)<0)=false by grind,ABV,YB o.2.2.2.1 hpl n hn,ABT,QU _ hplen _ n hn];simp only[ABT];cases hany:(Tu o.2.2.2.1).any (λx=>x==t.2.1)with
  |false=>
   refine⟨false,rfl,(λe=>by cases e),λhT=>?_⟩;obtain⟨o2,e,_,p,hp,ep⟩:=hT.ord;rw[ho]at e;injection e with e
   rw[<-e]at hp;rw[<-ABw]at hany;exact(hany (AA3.2 ⟨_,Yv.2 ⟨p,hp,rfl⟩,AAT.2 ep⟩)).elim
  |true=>
   obtain⟨y,hy,ey⟩:=AA3.1 hany;obtain⟨p,hp,ep⟩:=Yv.1 hy;have hord:∃o,Qo l t.1=some o/\o.2.2.2.2=1/\∃p∈o.2.2.2.1,p.1=t.2.1:=⟨_,ho,hst,p,hp,ep.trans (AAT.1 ey)⟩;have hpod:∃q,Yt a t.2.1=some q:=ZG ⟨_,ABW hj,ej⟩;rw[ABc,ABV];by_cases h1:t.2.2.2=1
   ·rw[show(t.2.2.2==1)=true from AAT.2 h1,ABU];exact⟨true,rfl,λ_=>⟨hord,hpod,λe=>(e h1).elim⟩,λ_=>rfl⟩
   ·rw[show(t.2.2.2==1)=false from ABa.2 h1,ABV,ec];rcases VO crew J t.2.2.1 n hn with⟨e1,hno⟩|⟨k,hk,ek,e1⟩
    ·rw[e1];refine⟨false,rfl,(λe=>by cases e),λhT=>?_⟩;obtain⟨r,q1,_⟩:=hT.ea h1;exact(hno r (QK q1).1 (QK q1).2).elim
    ·have hro:=X6 hc.ids hk;rw[ek]at hro;rw[e1,ABT,show decide ((k:Int)>=0)=true by grind,ABU];simp only[Pk hk,ABT,Sn w h c ha hb.bk hsm crew ts st ou nw t ⟨o,ho⟩ hpod n hn]
     have hT:Ua a l crew t↔crew[k].2.2.1=Uc a l t/\crew[k].2.2.2.1=decide (2<t.2.2.2):=by
      constructor
      ·intro hT;obtain⟨r,q1,q2,q3⟩:=hT.ea h1;grind
      ·rintro ⟨q2,q3⟩
       exact⟨hord,hpod,λ_=>⟨_,hro,q2,q3⟩⟩
     rw[hT];by_cases hgo:crew[k].2.2.1=Uc a l t
     ·rw[show(crew[k].2.2.1==Uc a l t)=true from AAT.2 hgo,ABU];exact⟨crew[k].2.2.2.1==decide (2<t.2.2.2),rfl,λq=>⟨hgo,AAT.1 q⟩,λq=>AAT.2 q.2⟩
     ·rw[show(crew[k].2.2.1==Uc a l t)=false from ABa.2 hgo];exact⟨false,rfl,(λe=>by cases e),λhh=>(hgo hh.1).elim⟩
theorem YE(l:By)(hl:l.length<=1048576)(n:Nat)(hn:Ps<=n):∃b,Tz n l=some b/\(b=true↔Ti l):=by
 unfold Tz;by_cases h51:l.length=51
 case neg=>
  rw[show(((l.length:Nat):Int) != 51)=true from AB2.2 J];exact⟨false,rfl,(λe=>by cases e),λq=>(h51 q.1).elim⟩
 have h0:0<l.length:=J
 rw[show(((l.length:Nat):Int) != 51)=false by rw[h51];rfl,ABV,show(0:Int)=((0:Nat):Int)from rfl,Pk h0,ABT,ABT];by_cases hz:l[0]=0
 case neg=>
  rw[show(l[0] != ((0:Nat):Int))=true from AB2.2 hz];refine⟨false,rfl,(λe=>by cases e),λq=>?_⟩;have:=q.2.2;grind
 rw[show(l[0] != ((0:Nat):Int))=false by rw[hz];rfl,ABV]
 have h1:=Rl (Tc l) l (λx=>Qg x 0 1000000) (λi x hi hx=>by
  have hx2:l[i]=x:=by rw[AAI hi]at hx;exact Option.some.inj hx
  unfold Tc;rw[show decide ((i:Int)<(l.length:Int))=true by rw[AAf];omega,ABU,Pk hi,ABT,hx2,Q8,ABT,Pj hi (show l.length<=9223372036854775807 by omega)];grind) (by unfold Tc;simp) n ADd
 rw[show((0:Nat):Int)=0 from rfl,h1];refine⟨l.all λx=>Qg x 0 1000000,No,?_⟩;rw[AAW];constructor
 ·intro q;exact⟨h51,λx hx=>YO.1 (q x hx),No⟩
 ·intro q x hx;exact YO.2 (q.2.1 x hx)
theorem UN(w h:Int)(c:By)(hc:c.length<=1048576)(a:It)(ha:P4 a)(nx:Int)(l:ADY)(hl:BG nx l)(crew:ADX)(hcr:crew.length<=1048576)(ts:AAH)(hts:ts.length<=1048576)(st ou:By)(hst:st.length<=1048576)(hou:ou.length<=1048576)(nw:Int)(n:Nat)(hn:Ps<=n):
  ∃b,UM n w h c a nx l crew ts st ou nw=some b/\(b=true↔ml w h c a nx l crew ts st ou nw):=by
 obtain⟨k1,f1,i1⟩:=YE st hst n hn;obtain⟨k2,f2,i2⟩:=YE ou hou n hn;unfold UM;rw[QT w h c hc n hn,Qa a ha n hn,hl.spec n hn,X9 w h c hc crew hcr n hn,ZT ts hts n hn,f1,f2];simp only[ABT,Q8];have no:∀ {P:Prop},¬P->∃b,(some false:Option Bool)=some b/\(b=true↔P):=λhp=>⟨false,rfl,(λe=>by cases e),λq=>(hp q).elim⟩;cases e1:P3 w h c with
 |false=>exact no λd=>by rw[d.fl]at e1;cases e1
 |true=>
 cases e2:QP a with
 |false=>exact no λd=>by rw[QS.2 d.oC]at e2;cases e2
 |true=>
 cases e4:Tl w h c crew with
 |false=>exact no λd=>by rw[WB.2 ⟨d.fl,d.cw⟩]at e4;cases e4
 |true=>
 cases e5:SU ts with
 |false=>exact no λd=>by rw[W9.2 d.XJ]at e5;cases e5
 |true=>
 cases e6:k1 with
 |false=>exact no λd=>by rw[i1.2 d.c1]at e6;cases e6
 |true=>
 cases e7:k2 with
 |false=>exact no λd=>by rw[i2.2 d.c2]at e7;cases e7
 |true=>
 cases e8:Qg nw 0 1000000 with
 |false=>exact no λd=>by rw[YO.2 d.now]at e8;cases e8
 |true=>
 have hS:=QS.1 e2;have hC:=(WB.1 e4).2;have hT:=W9.1 e5;have hgood:=(Q6.1 hT).2.1;simp only[ABc,ABV,ABT]
 let val:Nat->Bool:=λi=>match ts[i]? with
  |some t=>(US n w h c a nx l crew ts st ou nw t.1 t.2.1 t.2.2.1 t.2.2.2).getD false
  |none=>false
 have hval:∀i (hi:i<ts.length),US n w h c a nx l crew ts st ou nw ts[i].1 ts[i].2.1 ts[i].2.2.1 ts[i].2.2.2=some (val i)/\(val i=true↔Ua a l crew ts[i]):=λi hi=>by obtain⟨b,e,ib⟩:=cS w h c hS hl hC ts st ou nw (hgood _ (ABW hi)) n hn;grind
 have h1:=RQ (U3 n w h c a nx l crew ts st ou nw) (λk=>(k:Int)) ts.length val (λi hi=>by
  unfold U3;rw[show decide ((i:Int)<(ts.length:Int))=true by rw[AAf];clear hn;omega,ABU,Pk hi,ABT,(hval i hi).1,ABT,Pj hi (show ts.length<=9223372036854775807 by clear hn;omega)];grind) (by unfold U3;simp) n ADd
 rw[show((0:Nat):Int)=0 from rfl]at h1;rw[h1];refine⟨(List.range ts.length).all val,No,?_⟩;rw[AAW];constructor
 ·intro q;refine⟨e1,hS,hl.bk,hC,hT,i1.1 e6,i2.1 e7,YO.1 e8,λt ht=>?_⟩;obtain⟨i,hi,rfl⟩:=ABY.1 ht;grind
 ·intro d i hi;have hi:=AAX.1 hi;exact(hval i hi).2.2 (d.tk _ (ABW hi))
structure DZ(c:By)(a:It)(crew:ADX)(ts:AAH)(st ou:By):Prop where
 c1:c.length<=1048576
 a1:P4 a
 r1:crew.length<=1000000
 t1:ts.length<=1000000
 s1:st.length<=1000000
 o1:ou.length<=1000000
theorem DI.z(d:DI w h c a nx l crew ts)(h1:Ti st)(h2:Ti ou):DZ c a crew ts st ou:=by have q1:=(WC d.fl).le;have q2:=d.cw.n20;have q3:=(Q6.1 d.XJ).1;have q4:=h1.1;have q5:=h2.1;exact⟨J,d.st.sm,J,J,J,J⟩
theorem TK(w h:Int)(hl:RZ (nx,l))(z:DZ c a crew ts st ou)(nw:Int)(n:Nat)(hn:Ps<=n):S7 n w h c a nx l crew ts st ou nw=some (w,h,c,a,nx,l,crew,ts,st,ou,nw):=by obtain⟨c1,a1,r1,t1,s1,o1⟩:=z;unfold S7;rw[Zv w h c c1,ABT,P0 a a1 n hn,ABT,TH nx l hl n hn,ABT,VI No,VI No,VI No,VI No];rfl
theorem Vg(w h:Int)(hl:RZ (nx,l))(z:DZ c a crew ts st ou)(nw:Int)(n:Nat)(hn:Ps<=n):SY n w h c a nx l crew ts st ou nw=some (w,h,c,a,nx,l,crew,ts,st,ou,nw):=by obtain⟨c1,a1,r1,t1,s1,o1⟩:=z;unfold SY RL Q0 TR;rw[au w h c c1,ABT,QL a a1 n hn,ABT,UG nx l hl n hn,ABT,VI J,VI J,VI J,VI J];rfl
theorem dP(w h:Int)(c:By)(hl:c.length<=1048576)(hf:P3 w h c=true)(i:Int)(n:Nat)(hn:Ps<=n):YT n w h c i=some (bif Qg i 0 ((c.length:Int)-1)then c.getD i.toNat 0 else 0):=by
 unfold YT T4;rw[QT w h c hl n hn,hf,show Pn ((c.length:Int)-1)=(c.length:Int)-1 from Pr J J];simp only[Q8,ABT,ABc,ABV,ABU];cases hb:Qg i 0 ((c.length:Int)-1)with
 |false=>rfl
 |true=>
  obtain⟨m,rfl,hm⟩:=Zi hb;simp[Pk hm,hm]
theorem lz(h:(bif Qg i 0 ((c.length:Int)-1)then c.getD i.toNat 0 else 0)=3):Qy c i=true:=by unfold Qy;grind
theorem BG.opened(h:BG nx l):BG nx (Rt l):=by
 have hm:∀o∈Rt l,o∈l:=λo ho=>by unfold Rt at ho;grind
 obtain⟨b1,b2,b3,b4⟩:=h.bk;exact⟨⟨b1,by unfold Rt;grind,by unfold Rt;grind,λo ho=>b4 o (hm o ho)⟩,λo ho=>h.Kc o (hm o ho),λo ho=>h.eQ o (hm o ho)⟩
theorem fA(h:BG nx l)(n:Nat)(hn:Ps<=n):YC n nx l=some (nx,Rt l):=by
 have hlen:=h.bk.2.1;have hsm:=h.sm;unfold YC;rw[h.spec n hn,ABT]
 have hc:=QA (σ:=ADY) (Wl l) (λi s=>((i:Int),nx,s)) l (λr s=>((l.length:Int),nx,s++Rt r)) (λi s=>s.length<=i)
  (λs hs=>by simp[Wl,Rt]) (λi y r s h1 h2 h3 h4 h5=>by
   left;have hy:l[i]=y:=by rw[AAI h1]at h2;exact Option.some.inj h2
   unfold Wl;dsimp only;rw[show decide ((i:Int)<(l.length:Int))=true by simpa using h1,ABU,Pk h1,hy,ABT,Pj h1 J];cases hq:(y.2.2.2.2==1)with
   |true=>
    have hyo:bE y:=hsm.2 y (by rw[<-hy];exact ABW h1)
    have hcp:Qd y.1 y.2.1 y.2.2.1 y.2.2.2.1 y.2.2.2.2=some y:=by have q1:=hyo.1;have q2:=hyo.2;unfold Qd;rw[VI (by simp;unfold jR at q1;clear hn;omega),VI (by simp;unfold jS at q2;clear hn;omega)];rfl
    rw[ABU,ABT,hcp,ABT];have hr:decide (s.length+1<=Dj)=true:=Ru J;simp only[ABb,hr,ABU,ABT];exact⟨s++[y],rfl,by rw[AAz,ABb];omega,by simp[Rt,hq]⟩
   |false=>
    rw[ABV,ABT];exact⟨s,rfl,J,by simp[Rt,hq]⟩)
  n ADd [] OF
 grind
theorem BG.impl(h:BG nx l)(n:Nat)(hn:Ps<=n):Rf n nx l=some true:=by obtain⟨b,e,ib⟩:=XF h.sm n hn;rw[e,ib.2 h.bk]
theorem eF(h:BG nx l)(n:Nat)(hn:Ps<=n):Y7 n nx l=some (nx,Rt l):=by
 have hlen:=h.bk.2.1;have hsm:=h.sm;unfold Y7;rw[h.impl n hn,ABT]
 have hc:=QA (σ:=ADY) (WX l) (λi s=>((i:Int),nx,s)) l (λr s=>((l.length:Int),nx,s++Rt r)) (λi s=>s.length<=i)
  (λs hs=>by simp[WX,Rt]) (λi y r s h1 h2 h3 h4 h5=>by
   left;have hy:l[i]=y:=by rw[AAI h1]at h2;exact Option.some.inj h2
   unfold WX;dsimp only;rw[show decide ((i:Int)<(l.length:Int))=true by simpa using h1,ABU,Pk h1,hy,ABT,Pj h1 J];cases hq:(y.2.2.2.2==1)with
   |true=>
    rw[ABU,Vi y (hsm.2 y (by rw[<-hy];exact ABW h1)),ABT];have hr:decide (s.length+1<=Dj)=true:=Ru J;simp only[ABb,hr,ABU,ABT];exact⟨s++[y],rfl,by rw[AAz,ABb];omega,by simp[Rt,hq]⟩
   |false=>
    rw[ABV,ABT];exact⟨s,rfl,J,by simp[Rt,hq]⟩)
  n ADd [] OF
 grind
theorem eu(s:It)(hs:P4 s)(hb:BG nx l)(h30:l.length=30)(desk:Int)(it:ADZ)(n:Nat)(hn:Ps<=n):Tv n s nx l desk it=some (s,nx,l,0):=by unfold Tv;rw[TH nx l hb.sm n hn,ABT,Qa s hs n hn,hb.spec n hn];simp only[ABT,Q8,P0 s hs n hn];grind
theorem eC(s:It)(hs:P4 s)(hb:BG nx l)(h30:l.length=30)(desk:Int)(it:ADZ)(hit:it.length<=1000)(n:Nat)(hn:Ps<=n):VM n s nx l desk it=some (s,nx,l,0):=by unfold VM;rw[Qq s hs n hn,hb.impl n hn];simp only[ABT,V9,Q8,QL s hs n hn,UG nx l hb.sm n hn,SX it (show it.length<=1048576 by clear hn;omega) n hn];grind
theorem Yp(nx:Int)(hsm:RZ (nx,l))(hp:l.Pairwise λa b=>a.1<b.1){i:Nat}(hi:i<l.length)(n:Nat)(hn:Ps<=n):UD n nx l l[i].1=some (l[i].1,l[i].2.1,l[i].2.2.1,l[i].2.2.2.1,l[i].2.2.2.2,true):=by unfold UD;rw[Zp nx l hsm.1 hp i hi n hn,ABT,show decide ((i:Int)<0)=false by grind,ABV,Pk hi,ABT,Vi l[i] (hsm.2 _ (ABW hi)),ABT]
def mr(w h:Int)(c:By)(a:It)(nx:Int)(l:ADY)(crew:ADX)(ts:AAH)(st ou:By)(nw desk:Int)(it:ADZ)(r:Int×Int×By×It×Int×ADY×ADX×AAH×By×By×Int×Int):Prop:=
 r=(w,h,c,a,nx,l,crew,ts,st,ou,nw,0)\/∃o l',(l'=l\/l'=Rt l)/\l'.length<=29/\ml w h c a nx l crew ts st ou nw/\gB a nx l' desk it o/\Qy c desk=true/\(bif Qg desk 0 ((c.length:Int)-1)then c.getD desk.toNat 0 else 0)=3/\ts.length+(Tu o).length<=60/\
  r=(w,h,c,QM a (tp o),nx+1,l'++[(nx,desk,it,o,1)],crew,ts++(Tu o).map (λx=>(nx,x,(0:Int),(1:Int))),st,ou,nw,nx)
theorem lU(w h:Int)(hb:BG nx l)(z:DZ c a crew ts st ou)(nw desk:Int)(it:ADZ)(hit:it.length<=1000)(n:Nat)(hn:Ps<=n):
  ∃r,Z8 n w h c a nx l crew ts st ou nw desk it=some r/\gQ n w h c a nx l crew ts st ou nw desk it=some r/\mr w h c a nx l crew ts st ou nw desk it r:=by
 obtain⟨b1,e1,i1⟩:=UN w h c z.c1 a z.a1 nx l hb crew AD5 ts AD3 st ou AD4 AD6 nw n hn;obtain⟨b2,e2,i2⟩:=WE w h c z.c1 a z.a1 nx l hb.sm crew AD5 ts AD3 st ou AD4 AD6 nw n hn;have hbb:b1=b2:=No
 subst hbb;have hl30:=hb.bk.2.1;unfold Z8 gQ;rw[TK w h hb.sm z nw n hn,Vg w h hb.sm z nw n hn,ABT,ABT,e1,e2];dsimp only;have Wz:∃r,(some (w,h,c,a,nx,l,crew,ts,st,ou,nw,(0:Int)):Option (Int×Int×By×It×Int×ADY×ADX×AAH×By×By×Int×Int))=some r/\(some (w,h,c,a,nx,l,crew,ts,st,ou,nw,(0:Int)):Option (Int×Int×By×It×Int×ADY×ADX×AAH×By×By×Int×Int))=some r/\mr w h c a nx l crew ts st ou nw desk it r:=⟨_,rfl,rfl,.inl rfl⟩;cases b1 with
 |false=>exact Wz
 |true=>
 have D:=i1.1 rfl;simp only[ABT,ABc,ABV];rw[dP w h c z.c1 D.fl desk n hn,dG w h c z.c1 D.fl desk n hn,ABT,ABT];generalize hk:(bif Qg desk 0 ((c.length:Int)-1)then c.getD desk.toNat 0 else 0)=kd;by_cases h3:kd=3
 case neg=>
  grind
 rw[show(kd != 3)=false by rw[h3];rfl];simp only[ABT,ABV]
 obtain⟨l',hl',zJ,hsw1,hsw2⟩:∃l',(l'=l\/l'=Rt l)/\BG nx l'/\(bif((l.length:Int)==30)then(YC n nx l).bind λx6=>some (x6.1,x6.2)else some (nx,l))=some (nx,l')/\(bif decide ((l.length:Int)>=30)then(Y7 n nx l).bind λx6=>some (x6.1,x6.2)else some (nx,l))=some (nx,l'):=by
  by_cases h30:l.length=30
  ·refine⟨Rt l,.inr rfl,hb.opened,?_,?_⟩
   ·rw[show((l.length:Int)==30)=true by rw[AAT];clear hn;omega,ABU,fA hb n hn];rfl
   ·rw[show decide ((l.length:Int)>=30)=true by rw[AAf];clear hn;omega,ABU,eF hb n hn];rfl
  grind
 rw[hsw1,hsw2,ABT,ABT];dsimp only;by_cases h29:l'.length<=29
 case neg=>
  have h30:l'.length=30:=by have:=zJ.bk.2.1;clear hn;omega
  rw[eu a z.a1 zJ h30 desk it n hn,eC a z.a1 zJ h30 desk it hit n hn];exact Wz
 have hq:qR nx l':=⟨zJ.sm,h29,zJ.Kc,λ_=>zJ.eQ⟩;obtain⟨r,a1,a2,a3⟩:=iP a z.a1 hq desk it hit n hn;rw[a1,a2,ABT,ABT];rcases a3 with rfl|⟨o,T,rfl⟩
 ·exact Wz
 unfold tN;dsimp only;have hnx:=T.bk.1;have zA:=T.lt;have hbk:=T.book h29;have h72:=T.eQ;have h6:=T.im.2.2;have hsm2:RZ (nx+1,l'++[(nx,desk,it,o,1)]):=jT zJ.sm J (nx,desk,it,o,1) J No;have hli:l'.length<(l'++[(nx,desk,it,o,1)]).length:=by rw[AAz,ABb];exact Nat.lt_succ_self _
 have zM:(l'++[((nx,desk,it,o,1):QH)])[l'.length]?=some (nx,desk,it,o,1):=by rw[ABO (AAc _),ACW];rfl
 have hgetE:(l'++[((nx,desk,it,o,1):QH)])[l'.length]=(nx,desk,it,o,1):=by rw[AAI hli]at zM;exact Option.some.inj zM
 have hoo:=Yp (nx+1) hsm2 hbk.2.2.1 hli n hn;rw[hgetE]at hoo;dsimp only at hoo;have hw:Pn (((l'++[((nx,desk,it,o,1):QH)]).length:Int)-1)=(l'.length:Int):=by rw[AAz,ABb,Pr J J];clear hn;omega
 have hpo:o.length<=1048576:=ADb
 have t1:=dS (nx,desk,it,o,1) hpo n hn;have t2:=dJ (nx,desk,it,o,1) hpo n hn;dsimp only at t1 t2
 have hpl:(Tu o).length<=72:=by have:=Yu o [];unfold Tu;simp only[List.length_nil]at this;clear hn;omega
 have h60:=(Q6.1 D.XJ).1;rw[show(nx==0)=false by grind,ABV,ABV,hw,Po hli,ABU,ABX,zM];simp only[ABT,hoo,t1,t2];rw[ABB,Pr (n:=(ts.length:Int)+((Tu o).length:Int)) J J];by_cases hle:ts.length+(Tu o).length<=60
 case neg=>
  grind
 rw[show decide ((ts.length:Int)+((Tu o).length:Int)>60)=false by grind,ABV,VI J];exact⟨_,rfl,rfl,.inr ⟨o,l',hl',h29,D,T,lz (hk.trans h3),hk.trans h3,hle,rfl⟩⟩
theorem dE(h:BG nx l)(id:Int)(n:Nat)(hn:Ps<=n):∃b,YL n nx l id=some (nx,(bif Ro l id then RW l id 2 else l),b):=by
 have hsm:=h.sm;unfold YL Zh;rw[UG nx l hsm n hn,ABT,h.impl n hn,X2];cases ho:Qo l id with
 |none=>
  have hm:∀x∈l,x.1≠id:=λx hx e=>AEB
  have hf:=Vr nx l hsm.1 id hm n hn;rw[X2]at hf;have hio:Ro l id=false:=by unfold Ro;rw[ho]
  rw[hf,hio];exact⟨false,rfl⟩
 |some o=>
  obtain⟨i,hi,e1,e2,ef⟩:=Zo h.bk hsm ho n hn;have hio:Ro l id=(o.2.2.2.2==1):=by unfold Ro;rw[ho]
  rw[ef,hio];simp only[ABT,ABc,ABV,show decide ((i:Int)<0)=false by grind,Pk hi,e1];cases hs:(o.2.2.2.2==1)with
  |false=>
   rw[show(o.2.2.2.2 != 1)=true by simp only[bne,hs];rfl];exact⟨false,rfl⟩
  |true=>
   rw[show(o.2.2.2.2 != 1)=false by simp only[bne,hs];rfl,ABV,Po hi,ABU,ABX,cA h.bk.2.2.1 hi,e1,e2];exact⟨true,rfl⟩
theorem gq(ps:AAB)(hl:ps.length<=1048576)(hp:∀p∈ps,(1<=p.2.1/\p.2.1<=50)/\(1<=p.2.2/\p.2.2<=1000))(w h:Int)(c:By)(a:It)(nx:Int)(l:ADY)(crew:ADX)(ts:AAH)(st:By)(nw:Int)(hB:0<=B/\B<=1000000000000)(hou:OB B ou)(n:Nat)(hn:Ps<=n):
  iter n (RC ps) (0,w,h,c,a,nx,l,crew,ts,st,ou,nw)=some ((ps.length:Int),w,h,c,a,nx,l,crew,ts,st,jJ ou ps,nw):=by
 refine QA (σ:=By) (RC ps) (λi s=>((i:Int),w,h,c,a,nx,l,crew,ts,st,s,nw)) ps (λr s=>((ps.length:Int),w,h,c,a,nx,l,crew,ts,st,jJ s r,nw)) (λi s=>OB (B+1000*(i:Int)) s) (λs _=>?_) (λi p r s hi hx _ _ hs=>?_) n ADd ou (by simpa using hou)
 ·unfold RC;dsimp only;rw[show decide ((ps.length:Int)<(ps.length:Int))=false by rw[AAl];omega];rfl
 ·left;have hpe:ps[i]=p:=by rw[AAI hi]at hx;exact Option.some.inj hx
  obtain⟨⟨s1,s2⟩,n1,n2⟩:=hp p (by rw[<-hpe];exact ABW hi);have hk:p.2.1.toNat<s.length:=by rw[hs.1];clear hn;omega
  have yt:O3 s p.2.1=true:=ZC ⟨J,J⟩;have zM:s[p.2.1.toNat]?=some (s.getD p.2.1.toNat 0):=by rw[AAI hk];simp[hk]
  have hb:=hs.getD ADb p.2.1.toNat;refine⟨s.set p.2.1.toNat (s.getD p.2.1.toNat 0+p.2.2),?_,hs.set ADb _ ⟨ADb,ADb⟩,rfl⟩;unfold RC;dsimp only;rw[show decide ((i:Int)<(ps.length:Int))=true by rw[AAf];clear hn;omega];simp only[ABU,ABT,Po hi,ABX,hx,yt,zM,QX,Pj hi (show ps.length<=9223372036854775807 by clear hn;omega)];rw[Pr (n:=s.getD p.2.1.toNat 0+p.2.2) ADb ADb]
theorem iV(w h:Int)(c:By)(ha:Py a)(hb:BG nx l){t:P6}(hord:∃o,Qo l t.1=some o)(crew:ADX)(ts:AAH)(st:By)(hB:0<=B/\B<=1000000000000)(hou:OB B ou)(nw:Int)(n:Nat)(hn:Ps<=n):
  S0 n w h c a nx l crew ts st ou nw t.1 t.2.1 t.2.2.1 t.2.2.2=some (w,h,c,(RT V5 a (P5 l t)).1,nx,l,crew,ts,st,(bif(RT V5 a (P5 l t)).2 then jJ ou (P5 l t)else ou),nw):=by
 have hsm:=hb.sm;obtain⟨o,ho⟩:=hord;obtain⟨i,hi,e1,e2,_⟩:=Zo hb.bk hsm ho n hn
 have hoo:UD n nx l t.1=some (o.1,o.2.1,o.2.2.1,o.2.2.2.1,o.2.2.2.2,true):=by have:=Yp nx hsm hb.bk.2.2.1 hi n hn;rw[e1,e2]at this;rw[this,<-e2]
 have hpl:o.2.2.2.1.length<=1048576:=(hsm.2 o (RH ho).1).2;have hpk:P5 l t=o.2.2.2.1.filter λp=>p.1==t.2.1:=by unfold P5;rw[ho]
 have hpl2:=cB hsm t;unfold S0;rw[hoo,ABT];dsimp only;rw[dH o hpl t.2.1 n hn,ABT,<-hpk,bh a ha.sm (P5 l t) hpl2 n hn,ABT];have hloop:=gq (P5 l t) hpl2 (bB hb.bk t) w h c (RT V5 a (P5 l t)).1 nx l crew ts st nw hB hou n hn;rw[hloop]
 have hno:(RT V5 a (P5 l t)).2=false->(RT V5 a (P5 l t)).1=a:=λe=>by
  unfold RT at e ⊢;cases hq:YJ V5 (P5 l t) a with
  |some s=>rw[hq]at e;cases e
  |none=>rfl
 cases hq:(RT V5 a (P5 l t)).2 with
 |true=>rfl
 |false=>rw[hno hq];rfl
theorem lY(w h:Int)(c:By)(a:It)(hb:BG nx l)(crew:ADX)(x:AAH)(t:P6)(y:AAH)(hlen:(x++t::y).length<=1000000)(st ou:By)(nw:Int)(n:Nat)(hn:Ps<=n):
  UB n w h c a nx l crew (x++t::y) st ou nw (x.length:Int)=some (w,h,c,a,nx,(bif((x++y).any λu=>u.1==t.1) || !Ro l t.1 then l else RW l t.1 2),crew,x++y,st,ou,nw):=by
 have hxl:x.length<(x++t::y).length:=OF
 have hx:(x++t::y)[x.length]?=some t:=OF
 have q1:sub (x++t::y) 0 x.length=x:=by unfold sub;simp
 have hwx:Pn ((x.length:Int)+1)=((x.length+1:Nat):Int):=Pj hxl (show _<=9223372036854775807 by clear hn;omega)
 have q2:sub (x++t::y) (x.length+1) (x++t::y).length=y:=by
  unfold sub;rw[List.drop_append,List.drop_eq_nil_of_le J,AA0,show x.length+1-x.length=1 by omega,List.drop_one,List.tail_cons,ABv ADg]
 have hlen2:x.length+y.length+1<=1000000:=by simp at hlen;clear hn;omega
 have hcp:Q0 x=some x:=by unfold Q0;rw[show decide (x.length<=Dj)=true from VI ADb];rfl
 have d2:decide (x.length+y.length<=Dj)=true:=VI ADb;unfold UB;simp only[Po hxl,ABU,ABX,ACQ,hx,ABT,q1,hcp,hwx,q2,d2];rw[show(decide ((0:Int)<=0)&&decide ((0:Int)<=(x.length:Int))&&decide ((x.length:Int)<=((x++t::y).length:Int)))=true by simp;omega];rw[show(decide ((0:Int)<=((x.length+1:Nat):Int))&&decide (((x.length+1:Nat):Int)<=((x++t::y).length:Int))&&decide (((x++t::y).length:Int)<=((x++t::y).length:Int)))=true by simp;omega];simp only[ABU]
 have hloop:=QA (σ:=Unit) (SQ w h c a nx l crew (x++t::y) st ou nw (x.length:Int) t x) (λi _=>(i:Int)) (x++y) (λr _=>bif r.any (λu=>u.1==t.1)then .inr (w,h,c,a,nx,l,crew,x++y,st,ou,nw)else .inl ((x++y).length:Int)) (λ_ _=>True)
  (λs _=>by
   unfold SQ;simp only[hwx,ABX,q2];rw[show decide (((x++y).length:Int)<((x++y).length:Int))=false by rw[AAl];omega];rfl)
  (λi u r s hi hu _ _ _=>by
   have hui:(x++y)[i]?=some u:=hu;have hwi:Pn ((i:Int)+1)=((i+1:Nat):Int):=Pj hi (show(x++y).length<=9223372036854775807 by simp;clear hn;omega);unfold SQ;simp only[hwx,ABX,q2];rw[show decide ((i:Int)<((x++y).length:Int))=true by rw[AAf];clear hn;omega];simp only[ABU,Po hi,hui,ABT,hwi];cases hq:(u.1==t.1)with
   |true=>right;simp[hq]
   |false=>left;exact⟨(),rfl,trivial,by simp[hq]⟩) n (by simp;unfold Ps at hn;omega) () trivial
 rw[show((0:Nat):Int)=0 from rfl]at hloop;rw[hloop,ABT];cases hq:(x++y).any λu=>u.1==t.1 with
 |true=>rfl
 |false=>
  obtain⟨b,hf⟩:=dE hb t.1 n hn;dsimp only[cond_false];rw[hf];cases Ro l t.1<;>rfl
theorem nE(w h:Int)(c:By){x y:AAH}{t:P6}(d:DK a nx l crew (x++t::y))(hb:BG nx l)(ht:t.2.2.2≠1)(st:By)(hB:0<=B/\B<=1000000000000)(hou:OB B ou)(nw:Int)(n:Nat)(hn:Ps<=n):
  Rv n w h c a nx l crew (x++t::y) st ou nw (x.length:Int)=some ((Qk a ou l crew t).2.2.2.isNone,w,h,c,(Qk a ou l crew t).1,nx,
   (match(Qk a ou l crew t).2.2.2 with|some _=>l|none=>bif((x++y).any λu=>u.1==t.1) || !Ro l t.1 then l else RW l t.1 2),(Qk a ou l crew t).2.2.1,x++(dN (Qk a ou l crew t).2.2.2++y),st,pz a ou l t,nw):=by
 have hsm:=hb.sm;have hT:=d.tk t (AAS _ AAg);obtain⟨o,ho,_,_⟩:=hT.ord;obtain⟨r,hr,_,_⟩:=hT.ea ht;have hcl:=d.n20;have h60:=(Q6.1 d.XJ).1;have hpod:=hT.Pu;rcases VO crew J t.2.2.1 n hn with⟨_,hno⟩|⟨k,hk,ek,ev⟩
 ·exact(hno r (QK hr).1 (QK hr).2).elim
 have hxl:x.length<(x++t::y).length:=OF
 have hx:(x++t::y)[x.length]?=some t:=OF
 have hxm:∀(f:P6->P6),(x++t::y).modify x.length f=x++f t::y:=λf=>by rw[List.modify_eq_take_cons_drop hxl];simp
 have hxm2:∀(u:P6),(x++u::y)[x.length]?=some u:=λu=>OF
 have cm:∀f:P9->P9,crew.modify k f=XK crew t.2.2.1 f:=λf=>by rw[<-ek];exact iX d.ids hk f
 unfold Rv;rw[Po hxl];simp only[ABU,ABX,hx,ABT,ev,Po hk];unfold Qk pz;by_cases h2:t.2.2.2=2
 ·have hg:=Sn w h c d.sk d.bk hsm (List.modify (List.modify crew k (λ(y:Pg)=>(y.1,y.2.1,y.2.2.1,y.2.2.2.1,0))) k (λ(y:Pg)=>(y.1,y.2.1,y.2.2.1,true,y.2.2.2.2))) (x++VC t 3::y) st ou nw (VC t 3) ⟨o,ho⟩ hpod n hn;rw[AAP h2,AAP h2,show(t.2.2.2==2)=true from AAT.2 h2,ABU];rw[hxm,hxm2,ABT,Zg];rw[show Q2 n w h c a nx l _ (x++(t.1,t.2.1,t.2.2.1,(3:Int))::y) st ou nw t.1 t.2.1 t.2.2.1 3=_ from hg,ABT];rw[mod_mod,mod_mod,cm];rfl
 ·rw[AAQ h2,AAQ h2,show(t.2.2.2==2)=false from ABa.2 h2,ABV];by_cases h3:t.2.2.2=3
  ·rw[AAP h3,AAP h3,show(t.2.2.2==3)=true from AAT.2 h3,ABU];rw[iV w h c d.sk hb ⟨o,ho⟩ _ (x++t::y) st hB hou nw n hn,ABT];dsimp only;obtain⟨g1,g2,_⟩:=ZN d.sk (P5 l t);have hpod2:=(hT.same g2 (k:=l) rfl).Pu;have hg:=Sn w h c g1 d.bk hsm (List.modify crew k (λ(y:Pg)=>(y.1,y.2.1,y.2.2.1,y.2.2.2.1,0))) (x++VC t 4::y) st (bif(RT V5 a (P5 l t)).2 then jJ ou (P5 l t)else ou) nw (VC t 4) ⟨o,ho⟩ hpod2 n hn;rw[hxm,hxm2,ABT,Zg];rw[show Q2 n w h c _ nx l _ (x++(t.1,t.2.1,t.2.2.1,(4:Int))::y) st _ nw t.1 t.2.1 t.2.2.1 4=_ from hg,ABT];rw[mod_mod,cm];rfl
  ·rw[AAQ h3,AAQ h3,show(t.2.2.2==3)=false from ABa.2 h3,ABV];rw[mod_mod,mod_mod,cm,lY w h c a hb _ x t y J st ou nw n hn,ABT];rfl
def Yf(th:P6->Bool):AAH->wg->wg
 | [],s=>s
 |t::ts,s=>
  if th t=true then
   Yf th ts ((Qk s.1 s.2.1 s.2.2.2.2 s.2.2.1 t).1,pz s.1 s.2.1 s.2.2.2.2 t,(Qk s.1 s.2.1 s.2.2.2.2 s.2.2.1 t).2.2.1,s.2.2.2.1++dN (Qk s.1 s.2.1 s.2.2.2.2 s.2.2.1 t).2.2.2,match(Qk s.1 s.2.1 s.2.2.2.2 s.2.2.1 t).2.2.2 with|some _=>s.2.2.2.2|none=>bif((s.2.2.2.1++ts).any λu=>u.1==t.1) || !Ro s.2.2.2.2 t.1 then s.2.2.2.2 else RW s.2.2.2.2 t.1 2)
  else Yf th ts (s.1,s.2.1,s.2.2.1,s.2.2.2.1++[t],s.2.2.2.2)
theorem bq{α γ:Type}{f:α->Option (α⊕γ)}{x y:α}(h:f x=some (.inl y))(n:Nat):iter (n+1) f x=iter n f y:=by simp[iter,h]
theorem p7(hb:BG nx l)(a:It)(hB:0<=B)(h:OB B ou)(t:P6):OB (B+2000000000) (pz a ou l t):=by
 unfold pz;split
 ·exact h.more J
 ·split
  ·cases(RT V5 a (P5 l t)).2 with
   |false=>exact h.more J
   |true=>
    rw[ABU];have hl:=cB hb.sm t;exact(ky (P5 l t) ou B hB (λp hp=>(bB hb.bk t p hp).2) h).more J
  ·exact h.more J
theorem ZO(there:By)(hth:there.length<=1048576)(i0:Int)(th:P6->Bool)(w h:Int)(c:By)(nx:Int)(st:By)(nw:Int)(n:Nat)(hn:Ps<=n):∀(ts:AAH)(a:It)(ou:By)(crew:ADX)(left:AAH)(l:ADY)(B:Int)(m:Nat),DK a nx l crew (left++ts)->BG nx l->0<=B->B+2000000000*(ts.length:Int)<=1000000000000->OB B ou->(∀t∈ts,(there.any λx=>x==t.2.2.1)=th t)->(∀t∈ts,th t=true->t.2.2.2≠1)->ts.length<m->
  ∃k:Int,iter m (Rm n (there,i0)) ((left.length:Int),w,h,c,a,nx,l,crew,left++ts,st,ou,nw)=some (k,w,h,c,(Yf th ts (a,ou,crew,left,l)).1,nx,(Yf th ts (a,ou,crew,left,l)).2.2.2.2,(Yf th ts (a,ou,crew,left,l)).2.2.1,(Yf th ts (a,ou,crew,left,l)).2.2.2.1,st,(Yf th ts (a,ou,crew,left,l)).2.1,nw)
 | [],a,ou,crew,left,l,B,m,d,hb,hB,hB2,hou,h1,h2,hm=>by obtain⟨m,rfl⟩:∃k,m=k+1:=⟨m-1,J⟩;refine⟨(left.length:Int),QO ?_ m⟩;unfold Rm;rw[ABn];dsimp only;rw[show decide ((left.length:Int)<(left.length:Int))=false by rw[AAl];omega];rfl
 |t::ts,a,ou,crew,left,l,B,m,d,hb,hB,hB2,hou,h1,h2,hm=>by
  obtain⟨m,rfl⟩:∃k,m=k+1:=⟨m-1,J⟩;have h60:=(Q6.1 d.XJ).1;have hxl:left.length<(left++t::ts).length:=OF
  have hx:(left++t::ts)[left.length]?=some t:=OF
  have hdec:decide ((left.length:Int)<((left++t::ts).length:Int))=true:=by rw[AAf];clear hn;omega
  have hwl:Pn ((left.length:Int)+1)=((left.length+1:Nat):Int):=Pj hxl (show _<=9223372036854775807 by clear hn;omega);have ht1:=h1 t AAg
  have e0:Rm n (there,i0) ((left.length:Int),w,h,c,a,nx,l,crew,left++t::ts,st,ou,nw)=(show Option (Bool×Int×Int×By×It×Int×ADY×ADX×AAH×By×By×Int)from bif th t then Rv n w h c a nx l crew (left++t::ts) st ou nw (left.length:Int)else some (false,w,h,c,a,nx,l,crew,left++t::ts,st,ou,nw)).bind λx=>bif(!x.1)then some (.inl (((left.length+1:Nat):Int),x.2))else some (.inl ((left.length:Int),x.2)):=by
   unfold Rm;dsimp only;rw[hdec];simp only[ABU,Po hxl,ABX,hx,ABT,VL,QU there hth t.2.2.1 n hn,ht1,hwl];cases th t with
   |true=>
    simp only[ABU];cases Rv n w h c a nx l crew (left++t::ts) st ou nw (left.length:Int)<;>rfl
   |false=>rfl
  have h1':∀u∈ts,(there.any λx=>x==u.2.2.1)=th u:=λu hu=>h1 u (AAM _ hu);have h2':∀u∈ts,th u=true->u.2.2.2≠1:=λu hu=>h2 u (AAM _ hu);have hB3:B+2000000000+2000000000*(ts.length:Int)<=1000000000000:=by rw[ABG]at hB2;clear hn;omega
  have hm':ts.length<m:=by rw[ABG]at hm;clear hn;omega
  have hap:∀u:P6,(left++[u])++ts=left++u::ts:=λu=>OF
  have hll:∀u:P6,(((left++[u]).length:Nat):Int)=((left.length+1:Nat):Int):=λu=>OF
  cases hq:th t with
  |false=>
   rw[hq]at e0;have ih:=ZO there hth i0 th w h c nx st nw n hn ts a ou crew (left++[t]) l B m (by rw[hap];exact d) hb hB ADb hou h1' h2' hm';rw[hap,hll]at ih;unfold Yf;rw[AAQ (by rw[hq];simp),bq e0 m];exact ih
  |true=>
   rw[hq]at e0;have ht:=h2 t AAg hq;have hgo:=nE w h c d hb ht st ⟨hB,by rw[ABG]at hB2;clear hn;omega⟩ hou nw n hn;have hD:=d.jr ht ou;have hOB:=p7 hb a hB hou t;rw[ABU,hgo,ABT]at e0;unfold Yf;rw[AAP hq];cases hg:(Qk a ou l crew t).2.2.2 with
   |some u=>
    rw[hg]at e0 hD;have ih:=ZO there hth i0 th w h c nx st nw n hn ts (Qk a ou l crew t).1 (pz a ou l t) (Qk a ou l crew t).2.2.1 (left++[u]) l (B+2000000000) m (by rw[hap];exact hD) hb ADb hB3 hOB h1' h2' hm';rw[hap,hll]at ih;rw[bq e0 m];exact ih
   |none=>
    rw[hg]at e0 hD
    have hD2:DK (Qk a ou l crew t).1 nx (bif((left++ts).any λu=>u.1==t.1) || !Ro l t.1 then l else RW l t.1 2) (Qk a ou l crew t).2.2.1 (left++ts)/\BG nx (bif((left++ts).any λu=>u.1==t.1) || !Ro l t.1 then l else RW l t.1 2):=by
     cases hc:((left++ts).any λu=>u.1==t.1)with
     |true=>exact⟨hD,hb⟩
     |false=>
      cases Ro l t.1 with
      |false=>exact⟨hD,hb⟩
      |true=>
       refine⟨DK.Ds hD J λu hu e=>?_,hb.Ds _ J⟩;have:=List.any_eq_false.1 hc u hu;exact this (AAT.2 e)
    have ih:=ZO there hth i0 th w h c nx st nw n hn ts (Qk a ou l crew t).1 (pz a ou l t) (Qk a ou l crew t).2.2.1 left (bif((left++ts).any λu=>u.1==t.1) || !Ro l t.1 then l else RW l t.1 2) (B+2000000000) m hD2.1 hD2.2 ADb hB3 hOB h1' h2' hm';rw[bq e0 m];dsimp only[dN];rw[ABn];exact ih
def jf(crew:ADX)(t:P6):Bool:=match Tb crew t.2.2.1 with
 |some r=>r.2.1==r.2.2.1
 |none=>false
theorem me(c1:ADX)(ts:AAH)(hts:ts.length<=1000000)(crew:ADX)(hcl:crew.length<=20)(hids:crew.Pairwise λr s=>r.1<s.1)(n:Nat)(hn:Ps<=n):
  iter n (RG n (c1,ts) crew) ([],0)=some ((ts.filter (jf crew)).map (·.2.2.1),(ts.length:Int)):=by
 have hc:=QA (σ:=By) (RG n (c1,ts) crew) (λi s=>(s,(i:Int))) ts (λr s=>(s++(r.filter (jf crew)).map (·.2.2.1),(ts.length:Int))) (λi s=>s.length<=i)
  (λs hs=>by
   unfold RG;dsimp only;rw[show decide ((ts.length:Int)<(ts.length:Int))=false by rw[AAl];omega];simp)
  (λi t r s hi hx _ _ hs=>by
   left;have hwi:Pn ((i:Int)+1)=((i+1:Nat):Int):=Pj hi (show ts.length<=9223372036854775807 by clear hn;omega);have yz:decide (s.length+[t.2.2.1].length<=Dj)=true:=Ru ADb
   have hstep:RG n (c1,ts) crew (s,(i:Int))=some (.inl ((bif jf crew t then s++[t.2.2.1]else s),((i+1:Nat):Int))):=by
    unfold RG;dsimp only;rw[show decide ((i:Int)<(ts.length:Int))=true by rw[AAf];clear hn;omega];simp only[ABU,Po hi,ABX,hx,ABT,hwi,yz];rcases VO crew J t.2.2.1 n hn with⟨e,hno⟩|⟨k,hk,ek,ev⟩
    ·have hg:jf crew t=false:=by
      unfold jf;cases hq:Tb crew t.2.2.1 with
      |none=>rfl
      |some q=>exact(hno q (QK hq).1 (QK hq).2).elim
     rw[e,hg];rfl
    ·have hg:jf crew t=(crew[k].2.1==crew[k].2.2.1):=by unfold jf;rw[<-ek,X6 hids hk]
     rw[ev,hg];simp only[ABT,show decide ((k:Int)>=0)=true by rw[AAf];omega,ABU,Po hk,ABX,AAI hk];cases(crew[k].2.1==crew[k].2.2.1)<;>rfl
   refine⟨_,hstep,?_,?_⟩
   ·cases jf crew t
    ·rw[ABV];omega
    ·rw[ABU,AAz,ABb];omega
   ·cases hg:jf crew t<;>simp[hg])
  n ADd [] OF
 simpa using hc
theorem oI(hid:∀r∈crew,1<=r.1)(ht:TP ts):∀t∈ts,(((ts.filter (jf crew)).map (·.2.2.1)).any λx=>x==t.2.2.1)=TW crew t:=λt hm=>by
 have hgood:=(Q6.1 ht).2.1 t hm
 have h1:t.2.2.2=1->jf crew t=false:=λe=>by
  have h0:t.2.2.1=0:=by unfold Qe at hgood;grind
  unfold jf;cases hq:Tb crew t.2.2.1 with
  |none=>rfl
  |some r=>have:=hid r (QK hq).1;have:=(QK hq).2;omega
 have h2:TW crew t=jf crew t:=by
  unfold TW;by_cases e:t.2.2.2=1
  ·rw[h1 e,e];rfl
  ·rw[show(t.2.2.2==1)=false from ABa.2 e];rfl
 rw[h2,ABy,AA3];constructor
 ·rintro ⟨x,hx,e⟩
  obtain⟨u,hu,rfl⟩:=AAt.1 hx;have hu2:=(ABm.1 hu).2;have e:u.2.2.1=t.2.2.1:=AAT.1 e;unfold jf at hu2 ⊢;rw[<-e];exact hu2
 ·intro hg;exact⟨t.2.2.1,AAt.2 ⟨t,ABm.2 ⟨hm,hg⟩,rfl⟩,ABi _⟩
theorem fY(d:DW w h c a l crew ts)(hb:BG nx l)(st:By)(hou:OB 1000000 ou)(nw:Int)(n:Nat)(hn:Ps+1000<=n):
  ∃crew2,CW c crew2/\crew2.length=(sendAll a crew ts (QR w h c a crew ts)).1.length/\(∀k (h1:k<(sendAll a crew ts (QR w h c a crew ts)).1.length) (h2:k<crew2.length),crew2[k].1=(sendAll a crew ts (QR w h c a crew ts)).1[k].1/\crew2[k].2.2.1=(sendAll a crew ts (QR w h c a crew ts)).1[k].2.2.1/\crew2[k].2.2.2.1=(sendAll a crew ts (QR w h c a crew ts)).1[k].2.2.2.1)/\
   Uw n w h c a nx l crew ts st ou nw=some (w,h,c,(Yf (TW crew2) (sendAll a crew ts (QR w h c a crew ts)).2 (a,ou,crew2,[],l)).1,nx,(Yf (TW crew2) (sendAll a crew ts (QR w h c a crew ts)).2 (a,ou,crew2,[],l)).2.2.2.2,(Yf (TW crew2) (sendAll a crew ts (QR w h c a crew ts)).2 (a,ou,crew2,[],l)).2.2.1,(Yf (TW crew2) (sendAll a crew ts (QR w h c a crew ts)).2 (a,ou,crew2,[],l)).2.2.2.1,st,(Yf (TW crew2) (sendAll a crew ts (QR w h c a crew ts)).2 (a,ou,crew2,[],l)).2.1,Pn (nw+1)):=by
 have hB:Ps<=n:=AAv (AB0 _ _) hn;have hcl:c.length<=1048576:=by have:=(WC d.fl).le;clear hn hB;omega
 have h20:=d.cw.n20;have h60:=(Q6.1 d.XJ).1;have hd:=dy hcl d.fl a crew ts;have ds:=d.kQ hd (ZI hd.n1 hd.n2);have e1:=ba hcl d.st.sm (show crew.length<=1048576 by omega) (show ts.length<=1048576 by omega) n hB (w:=w) (h:=h);rw[iY d.fl d.st d.cw d.XJ]at e1;obtain⟨out,a1,_,a3,a4,a5⟩:=iS hcl ds.fl ds.cw n hn;have da:=ds.qX a3 a4 a5;have h60s:=(Q6.1 da.XJ).1;have hth:=me (sendAll a crew ts (QR w h c a crew ts)).1 (sendAll a crew ts (QR w h c a crew ts)).2 ADo out a3.n20 a3.ids n hB;have hK:DK a nx l out ([]++(sendAll a crew ts (QR w h c a crew ts)).2):=⟨da.st,hb.bk,a3.n20,a3.ids,da.XJ,da.tk⟩
 obtain⟨k,hloop⟩:=ZO (((sendAll a crew ts (QR w h c a crew ts)).2.filter (jf out)).map (·.2.2.1)) (by
   rw[ABB];have:=ABs (jf out) (sendAll a crew ts (QR w h c a crew ts)).2
   clear hn hB;omega) ((sendAll a crew ts (QR w h c a crew ts)).2.length:Int) (TW out) w h c nx st (Pn (nw+1)) n hB (sendAll a crew ts (QR w h c a crew ts)).2 a ou out [] l 1000000 n hK hb ADo ADo hou (oI (λr hr=>(a3.qA r hr).1) da.XJ) (λt _ hg e=>by
    unfold TW at hg;rw[e]at hg;cases hg) (by unfold Ps at hB;omega)
 refine⟨out,a3,a4,a5,?_⟩;unfold Uw;rw[e1,ABT,a1,ABT,hth,ABT];rw[show((([]:AAH).length:Nat):Int)=0 from rfl,AA0]at hloop;rw[hloop,ABT]
theorem Zs(a:It)(hs:P4 a)(Pu k m:Int)(n:Nat)(hn:Ps<=n):ZK n a Pu k m=some (UY a Pu k m):=by
 unfold ZK UY;rw[ZD a hs Pu k m n hn,ABT];by_cases hc:QQ a Pu k m=0
 ·obtain⟨ha,hk,hm,i,hi,e1,e2,e3⟩:=Qn hc;have hst:=(ha.2.2 _ (ABW hi)).2.2;obtain⟨b1,b2,b3,b4,b5⟩:=Sv hst k;rw[<-e3]at b1 b2 b3 b4 b5;have h8:=hst.2.2;rw[AAQ (show ¬QQ a Pu k m≠0 by simp[hc]),AAQ (show ¬QQ a Pu k m≠0 by simp[hc])];dsimp only;rw[show((0:Int) != 0)=false from rfl,ABV,Pr (n:=(Rr a Pu k).2.1+m) J J,e1,Pk hi,ABT];have hlen:cW a Pu=a[i].2.2.length:=by unfold cW;grind
  rw[hlen];by_cases hgt:(Rr a Pu k).2.1+m>1000
  ·rw[ABZ hgt,AAP (.inl hgt)];simp only[ABU,ABT,P0 a hs n hn]
  ·rw[ABd hgt,ABV];by_cases hz:(Rr a Pu k).2.1=0
   ·rw[show((Rr a Pu k).2.1==0)=true from AAT.2 hz,ABU];by_cases h8e:a[i].2.2.length=8
    ·rw[AAP (.inr ⟨hz,h8e⟩),show((a[i].2.2.length:Int)==8)=true by rw[AAT];clear hn;omega];simp only[ABU,ABT,P0 a hs n hn]
    ·rw[AAQ J,show((a[i].2.2.length:Int)==8)=false by rw[ABa];clear hn;omega];simp only[ABV,ABT,Z5 ha hi,Z5 ha hi _ _ _ n hn,e2,b5]
   ·rw[show((Rr a Pu k).2.1==0)=false from ABa.2 hz,ABV,AAQ J];simp only[ABV,ABT,Z5 ha hi _ _ _ n hn,e2,b5]
 ·rw[AAP hc,AAP hc];dsimp only;rw[show(QQ a Pu k m != 0)=true by grind,ABU,P0 a hs n hn];rfl
def pD(w h:Int)(c:By)(a:It)(nx:Int)(l:ADY)(crew:ADX)(ts:AAH)(st ou:By)(nw Pu k m:Int)(r:Int×Int×By×It×Int×ADY×ADX×AAH×By×By×Int×Int):Prop:=
 (∃e,e≠0/\r=(w,h,c,a,nx,l,crew,ts,st,ou,nw,e))\/(ml w h c a nx l crew ts st ou nw/\(UY a Pu k m).2=0/\st.getD k.toNat 0+m<=1000000/\r=(w,h,c,(UY a Pu k m).1,nx,l,crew,ts,st.set k.toNat (st.getD k.toNat 0+m),ou,nw,0))
theorem nv{Pu m:Int}(h:(UY a Pu k m).2=0):(1<=k/\k<=50)/\(1<=m/\m<=1000):=by obtain⟨_,h1,h2,_⟩:=Qn (gX h);omega
theorem Yw(w h:Int)(hb:BG nx l)(z:DZ c a crew ts st ou)(nw Pu k m:Int)(n:Nat)(hn:Ps<=n):
  ∃r,S6 n w h c a nx l crew ts st ou nw Pu k m=some r/\pD w h c a nx l crew ts st ou nw Pu k m r:=by
 obtain⟨b1,e1,i1⟩:=UN w h c z.c1 a z.a1 nx l hb crew AD5 ts AD3 st ou AD4 AD6 nw n hn;unfold S6;rw[TK w h hb.sm z nw n hn,ABT,e1,ABT];dsimp only;cases b1 with
 |false=>exact⟨_,rfl,.inl ⟨1,J,rfl⟩⟩
 |true=>
 have D:=i1.1 rfl;rw[ABc,ABV,Zs a z.a1 Pu k m n hn,ABT];by_cases h0:(UY a Pu k m).2=0
 case neg=>
  rw[show((UY a Pu k m).2 != 0)=true from AB2.2 h0];exact⟨_,rfl,.inl ⟨_,h0,rfl⟩⟩
 obtain⟨⟨k1,k2⟩,m1,m2⟩:=nv h0;have h51:=D.c1.1;have hk:k.toNat<st.length:=ADb
 have hgi:JQ st k=some (st.getD k.toNat 0):=by obtain⟨j,rfl⟩:∃j:Nat,k=(j:Int):=⟨k.toNat,J⟩;rw[ABX]at hk ⊢;rw[Pk hk];simp[hk]
 have hb2:=D.c1.ob.getD J k.toNat;have hw:Pn (st.getD k.toNat 0+m)=st.getD k.toNat 0+m:=Pr J J;rw[show((UY a Pu k m).2 != 0)=false by rw[h0];rfl,ABV,hgi,ABT,hw];by_cases hle:st.getD k.toNat 0+m<=1000000
 ·rw[show decide (st.getD k.toNat 0+m>1000000)=false by grind,ABV,ABT,ZC ⟨J,J⟩,ABU,QX,hw];exact⟨_,rfl,.inr ⟨D,h0,hle,rfl⟩⟩
 ·rw[show decide (st.getD k.toNat 0+m>1000000)=true by rw[AAf];clear hn;omega];exact⟨_,rfl,.inl ⟨4,J,rfl⟩⟩
theorem bH(ha:Py a)(hb:BG nx l){id:Int}{o:QH}(ho:Qo l id=some o)(n:Nat)(hn:Ps<=n):
  Wn n a nx l id=some (bif(o.2.2.2.2==1)&&(RT cF a o.2.2.2.1).2 then((RT cF a o.2.2.2.1).1,nx,RW l id 3,true)else(a,nx,l,false)):=by
 have hsm:=hb.sm;obtain⟨i,hi,e1,e2,ef⟩:=Zo hb.bk hsm ho n hn;have hpl:o.2.2.2.1.length<=1048576:=(hsm.2 o (RH ho).1).2;unfold Wn;rw[TH nx l hsm n hn,ABT,ef,ABT,Qa a ha.sm n hn,QS.2 ha,hb.spec n hn];simp only[ABT,ABc,ABV,show decide ((i:Int)<0)=false by grind,Pk hi,e1,P0 a ha.sm n hn,aB a ha.sm o.2.2.2.1 hpl n hn];cases hs:(o.2.2.2.2==1)with
 |false=>
  grind
 |true=>
  rw[show(o.2.2.2.2 != 1)=false by grind,ABV,ABx];cases(RT cF a o.2.2.2.1).2 with
  |false=>rfl
  |true=>simp only[ABc,ABV,Po hi,ABU,ABX,cA hb.bk.2.2.1 hi,e1,e2]
def XC(id:Int):AAH->AAH×Int->Option (AAH×Int)
 | [],s=>some s
 |t::r,s=>if t.1≠id then XC id r (s.1++[t],s.2)else if t.2.2.2≠1 then none else XC id r (s.1,s.2+1)
theorem aL(id:Int):∀(ts:AAH)(s:AAH×Int),(XC id ts s=none/\∃t∈ts,t.1=id/\t.2.2.2≠1)\/(XC id ts s=some (s.1++ts.filter (λt => !(t.1==id)),s.2+((ts.filter λt=>t.1==id).length:Int))/\∀t∈ts,t.1=id->t.2.2.2=1)
 | [],s=>.inr ⟨by simp[XC],(λt ht=>by cases ht)⟩
 |t::r,s=>by
  unfold XC;by_cases h1:t.1=id
  ·rw[AAQ (by simp[h1])];by_cases h2:t.2.2.2=1
   ·rw[AAQ (by simp[h2])];rcases aL id r (s.1,s.2+1)with⟨e,u,hu,hh⟩|⟨e,hh⟩
    ·exact .inl ⟨e,u,AAM _ hu,hh⟩
    ·refine .inr ⟨?_,λu hu=>?_⟩
     ·rw[e,AB9,AB9,show(t.1==id)=true from AAT.2 h1];simp;omega
     ·rcases AAd.1 hu with rfl|hu
      ·exactλ_=>h2
      ·exact hh u hu
   grind
  ·rw[AAP h1];rcases aL id r (s.1++[t],s.2)with⟨e,u,hu,hh⟩|⟨e,hh⟩
   all_goals grind
theorem fB(ts:AAH)(hts:ts.length<=1000000)(id:Int)(w h:Int)(c:By)(a:It)(nx:Int)(l:ADY)(crew:ADX)(us:AAH)(st ou:By)(nw:Int)(n:Nat)(hn:Ps<=n):
  iter n (Vs ts id) (0,[],0,0,0,[],[],0,[],[],[],[],[],0,w,h,c,a,nx,l,crew,us,st,ou,nw)=some (match XC id ts ([],0)with
   |none=>.inr (w,h,c,a,nx,l,crew,us,st,ou,nw,false)
   |some s=>.inl (s.2,s.1,(ts.length:Int),0,0,[],[],0,[],[],[],[],[],0,w,h,c,a,nx,l,crew,us,st,ou,nw)):=by
 refine QA (σ:=AAH×Int) (Vs ts id) (λi s=>(s.2,s.1,(i:Int),0,0,[],[],0,[],[],[],[],[],0,w,h,c,a,nx,l,crew,us,st,ou,nw)) ts (λq s=>match XC id q s with
   |none=>.inr (w,h,c,a,nx,l,crew,us,st,ou,nw,false)
   |some s=>.inl (s.2,s.1,(ts.length:Int),0,0,[],[],0,[],[],[],[],[],0,w,h,c,a,nx,l,crew,us,st,ou,nw)) (λi s=>s.1.length<=i/\0<=s.2/\s.2<=(i:Int)) (λs _=>?_) (λi t q s hi hx _ _ hs=>?_) n ADd ([],0) ⟨OF,OF,OF⟩
 ·unfold Vs XC;grind
 ·have he:ts[i]=t:=by rw[AAI hi]at hx;exact Option.some.inj hx
  have hr:decide (s.1.length+[(t:P6)].length<=Dj)=true:=Ru J;unfold Vs;dsimp only;rw[show decide ((i:Int)<(ts.length:Int))=true by rw[AAf];clear hn;omega];simp only[ABU,Pk hi,he,ABT,Pj hi (show ts.length<=9223372036854775807 by omega)];by_cases h1:t.1=id
  ·rw[show(t.1 != id)=false by rw[h1];simp];by_cases h2:t.2.2.2=1
   ·left;refine⟨(s.1,s.2+1),?_,⟨No,J,J⟩,?_⟩
    ·rw[show(t.2.2.2 != 1)=false by rw[h2];rfl,Pr (n:=s.2+1) J J];rfl
    ·rw[XC,AAQ (by simp[h1]),AAQ (by simp[h2])]
   ·right;rw[show(t.2.2.2 != 1)=true from AB2.2 h2,XC,AAQ (by simp[h1]),AAP h2];rfl
  ·left;refine⟨(s.1++[t],s.2),?_,⟨No,hs.2.1,J⟩,?_⟩
   ·grind
   ·rw[XC,AAP h1]
structure mh(w h:Int)(c:By)(a:It)(nx:Int)(l:ADY)(crew:ADX)(ts:AAH)(st ou:By)(nw id:Int)(o:QH):Prop where
 ok:ml w h c a nx l crew ts st ou nw
 ord:Qo l id=some o
 xH:o.2.2.2.2=1
 wz:∀t∈ts,t.1=id->t.2.2.2=1
 num:(Tu o.2.2.2.1).length<=(ts.filter λt=>t.1==id).length
 rel:(RT cF a o.2.2.2.1).2=true
abbrev mj:=Int×Int×By×It×Int×ADY×ADX×AAH×By×By×Int×Bool
def mi(w h:Int)(c:By)(a:It)(nx:Int)(l:ADY)(crew:ADX)(ts:AAH)(st ou:By)(nw id:Int)(r:mj):Prop:=
 (r=(w,h,c,a,nx,l,crew,ts,st,ou,nw,false)/\∀o,¬mh w h c a nx l crew ts st ou nw id o)\/(∃o,mh w h c a nx l crew ts st ou nw id o/\
  r=(w,h,c,(RT cF a o.2.2.2.1).1,nx,RW l id 3,crew,ts.filter (λt => !(t.1==id)),st,ou,nw,true))
theorem fp(w h:Int)(hb:BG nx l)(z:DZ c a crew ts st ou)(nw id:Int)(n:Nat)(hn:Ps<=n):
  ∃r,Z6 n w h c a nx l crew ts st ou nw id=some r/\mi w h c a nx l crew ts st ou nw id r:=by
 obtain⟨b1,e1,i1⟩:=UN w h c z.c1 a z.a1 nx l hb crew AD5 ts AD3 st ou AD4 AD6 nw n hn;unfold Z6;rw[TK w h hb.sm z nw n hn,ABT,e1];dsimp only;have Wz:(∀o,¬mh w h c a nx l crew ts st ou nw id o)->∃r,(some (w,h,c,a,nx,l,crew,ts,st,ou,nw,false):Option mj)=some r/\mi w h c a nx l crew ts st ou nw id r:=λhno=>⟨_,rfl,.inl ⟨rfl,hno⟩⟩;cases ho:Qo l id with
 |none=>
  have hm:∀x∈l,x.1≠id:=λx hx e=>AEB
  have hf:=Vr nx l hb.sm.1 id hm n hn;rw[X2]at hf;rw[hf];cases b1<;>exact Wz λo q=>by have:=q.ord;grind
 |some o=>
  obtain⟨i,hi,e2,e3,ef⟩:=Zo hb.bk hb.sm ho n hn;rw[ef,ABT];cases b1 with
  |false=>exact Wz λo q=>by have:=i1.2 q.ok;cases this
  |true=>
  have D:=i1.1 rfl;have hpl:o.2.2.2.1.length<=1048576:=(hb.sm.2 o (RH ho).1).2;simp only[ABT,ABc,ABV,show decide ((i:Int)<0)=false by rw[AAl];clear hn;omega];rw[fB ts z.t1 id w h c a nx l crew ts st ou nw n hn,ABT,bH D.oC hb ho n hn];rcases aL id ts ([],0)with⟨e,t,ht,ht1,ht2⟩|⟨e,hw⟩
  ·rw[e];exact Wz λo q=>ht2 (q.wz t ht ht1)
  ·rw[e];dsimp only;rw[ABT,AA0,Int.zero_add];cases hq:((o.2.2.2.2==1)&&(RT cF a o.2.2.2.1).2)with
   |false=>
    refine Wz λo2 q=>?_;have:=q.ord;rw[ho]at this;injection this with this
    subst this;rw[q.xH,q.rel]at hq;cases hq
   |true=>
    have hq2:=Bool.and_eq_true_iff.1 hq;dsimp only[cond_true];simp only[ABc,ABV,Pk hi,e2,ABT,YB o.2.2.2.1 hpl n hn];by_cases zA:(Tu o.2.2.2.1).length<=(ts.filter λt=>t.1==id).length
    ·rw[show decide ((((ts.filter λt=>t.1==id).length:Nat):Int)<((Tu o.2.2.2.1).length:Int))=false by rw[AAl];clear hn;omega];exact⟨_,rfl,.inr ⟨o,⟨D,ho,AAT.1 hq2.1,hw,zA,hq2.2⟩,rfl⟩⟩
    ·rw[show decide ((((ts.filter λt=>t.1==id).length:Nat):Int)<((Tu o.2.2.2.1).length:Int))=true by rw[AAf];clear hn;omega];refine Wz λo2 q=>?_;have:=q.ord;rw[ho]at this;injection this with this
     subst this;exact zA q.num
abbrev iQ:=Int->Int->By->It->Int->ADY->ADX->AAH->By->By->Prop
structure gA(Q:iQ):Prop where
 di:∀ {w h:Int} {c:By} {a:It} {nx:Int} {l:ADY} {crew:ADX} {ts:AAH} {st ou:By},Q w h c a nx l crew ts st ou->DI w h c a nx l crew ts/\Ti st/\Ti ou
 new:∀ {w h:Int} {c:By} {a:It},aI w h c a=true->Q w h c a 1 [] (Sz (QZ c) (min (QZ c).length 20)) [] (SS a 50) (List.replicate 51 0)
 lK:∀ {w h:Int} {c:By} {a:It} {nx:Int} {l:ADY} {crew:ADX} {ts:AAH} {st ou:By},Q w h c a nx l crew ts st ou->Q w h c a nx (Rt l) crew ts st ou
 take:∀ {w h:Int} {c:By} {a:It} {nx:Int} {l:ADY} {crew:ADX} {ts:AAH} {st ou:By} {desk:Int} {it:ADZ} {o:AAB},Q w h c a nx l crew ts st ou->gB a nx l desk it o->Qy c desk=true->l.length<=29->ts.length+(Tu o).length<=60->
  Q w h c (QM a (tp o)) (nx+1) (l++[(nx,desk,it,o,1)]) crew (ts++(Tu o).map λx=>(nx,x,(0:Int),(1:Int))) st ou
 back:∀ {w h:Int} {c:By} {a:It} {nx:Int} {l:ADY} {crew:ADX} {ts:AAH} {st ou:By} {id:Int} {o:QH},Q w h c a nx l crew ts st ou->Qo l id=some o->(∀t∈ts,t.1=id->t.2.2.2=1)->(Tu o.2.2.2.1).length<=(ts.filter λt=>t.1==id).length->
  Q w h c (RT cF a o.2.2.2.1).1 nx (RW l id 3) crew (ts.filter λt => !(t.1==id)) st ou
 rest:∀ {w h:Int} {c:By} {a:It} {nx:Int} {l:ADY} {crew:ADX} {ts:AAH} {st ou:By} {Pu k m:Int},Q w h c a nx l crew ts st ou->(UY a Pu k m).2=0->st.getD k.toNat 0+m<=1000000->Q w h c (UY a Pu k m).1 nx l crew ts (st.set k.toNat (st.getD k.toNat 0+m)) ou
 tick:∀ {w h:Int} {c:By} {a:It} {nx:Int} {l:ADY} {crew:ADX} {ts:AAH} {st ou:By} {crew2:ADX},Q w h c a nx l crew ts st ou->CW c crew2->crew2.length=(sendAll a crew ts (QR w h c a crew ts)).1.length->
  (∀k (h1:k<(sendAll a crew ts (QR w h c a crew ts)).1.length) (h2:k<crew2.length),crew2[k].1=(sendAll a crew ts (QR w h c a crew ts)).1[k].1/\crew2[k].2.2.1=(sendAll a crew ts (QR w h c a crew ts)).1[k].2.2.1/\crew2[k].2.2.2.1=(sendAll a crew ts (QR w h c a crew ts)).1[k].2.2.2.1)->
  Q w h c (R9 a ou l crew2 (sendAll a crew ts (QR w h c a crew ts)).2).1 nx (R9 a ou l crew2 (sendAll a crew ts (QR w h c a crew ts)).2).2.2.1 (R9 a ou l crew2 (sendAll a crew ts (QR w h c a crew ts)).2).2.2.2.1 (R9 a ou l crew2 (sendAll a crew ts (QR w h c a crew ts)).2).2.2.2.2 st (R9 a ou l crew2 (sendAll a crew ts (QR w h c a crew ts)).2).2.1
def QI:iQ:=λw h c a nx l crew ts st ou=>DI w h c a nx l crew ts/\Ti st/\Ti ou
theorem ma(a:It):Ti (SS a 50)/\Ti (List.replicate 51 0):=by
 refine⟨⟨Yd a 50,λx hx=>?_,?_⟩,OF,λx hx=>?_,OF⟩
 ·obtain⟨i,hi,rfl⟩:=ABY.1 hx;have hi2:=hi;rw[Yd]at hi2;have:=jW a (show i<=50 by omega);rw[AAI hi]at this;rw[Option.some.inj this];have hb:=aQ a (i:Int);cases decide (1<=i)
  ·rw[ABV];omega
  ·rw[ABU];omega
 ·rw[jW a J];rfl
 grind
theorem Ti.rest(h:Ti st){Pu m:Int}(hc:(UY a Pu k m).2=0)(hm:st.getD k.toNat 0+m<=1000000):Ti (st.set k.toNat (st.getD k.toNat 0+m)):=by obtain⟨⟨k1,k2⟩,m1,m2⟩:=nv hc;have hb:=h.ob.getD J k.toNat;exact h.set J ⟨J,hm⟩
theorem qj:gA QI where
 di:=λh=>h
 new:=λh=>⟨DI.new h,ma _⟩
 lK:=λh=>⟨h.1.lK,h.2⟩
 take:=λh T hd h29 hl=>⟨h.1.take T hd h29 hl,h.2⟩
 back:=λh _ _ _=>⟨h.1.back _ _,h.2⟩
 rest:=λh hc hm=>⟨h.1.iE _ _ _,h.2.1.rest hc hm,h.2.2⟩
 tick:=fun {w h c a nx l crew ts st ou crew2} q hc hl hs=>by
  have hcl:c.length<=1048576:=by have:=(WC q.1.fl).le;omega
  have hd:=dy hcl q.1.fl a crew ts;have da:=(q.1.kQ hd (ZI hd.n1 hd.n2)).qX hc hl hs;exact⟨da.R9 ou,q.2.1,DI.fI (sendAll a crew ts (QR w h c a crew ts)).2 (a,ou,crew2,[],[]) da q.2.2⟩
theorem mf{Q:iQ}(K:gA Q)(n:Nat)(hn:Ps+1000<=n)(q:Q w h c a nx l crew ts st ou)(hnw:0<=nw/\nw<=900000)(i:Int)(hi:0<=i/\i<=5):
  Ok (iter n (XH n) (i,w,h,c,a,nx,l,crew,ts,st,ou,nw)) λx=>Q x.2.1 x.2.2.1 x.2.2.2.1 x.2.2.2.2.1 x.2.2.2.2.2.1 x.2.2.2.2.2.2.1 x.2.2.2.2.2.2.2.1 x.2.2.2.2.2.2.2.2.1 x.2.2.2.2.2.2.2.2.2.1 x.2.2.2.2.2.2.2.2.2.2.1/\0<=x.2.2.2.2.2.2.2.2.2.2.2/\x.2.2.2.2.2.2.2.2.2.2.2<=nw+6:=by
 refine Ok.iter (λk x=>(x.1+1=(k:Int))/\x.1<=5/\Q x.2.1 x.2.2.1 x.2.2.2.1 x.2.2.2.2.1 x.2.2.2.2.2.1 x.2.2.2.2.2.2.1 x.2.2.2.2.2.2.2.1 x.2.2.2.2.2.2.2.2.1 x.2.2.2.2.2.2.2.2.2.1 x.2.2.2.2.2.2.2.2.2.2.1/\0<=x.2.2.2.2.2.2.2.2.2.2.2/\x.2.2.2.2.2.2.2.2.2.2.2+x.1<=nw+5) (λk x hx=>?_) (k:=(i+1).toNat) ⟨by show i+1=_;clear hn;omega,hi.2,q,hnw.1,by show nw+i<=nw+5;clear hn;omega⟩ ADd;obtain⟨xi,w,h,c,a,nx,l,crew,ts,st,ou,xn⟩:=x;obtain⟨h1,h5,hq,h3,h4⟩:=hx;dsimp only at h1 h5 hq h3 h4;unfold XH;dsimp only;refine Ok.cond (λhb=>?_) λhb=>Ok.pure (.inr ⟨_,rfl,hq,h3,?_⟩)
 ·have hb:=AAs hb;obtain⟨d,c1,c2⟩:=K.di hq;obtain⟨crew2,a1,a2,a3,_,ev⟩:=cT d st c2 xn n hn;have q2:=K.tick hq a1 a2 a3;generalize R9 a ou l crew2 (sendAll a crew ts (QR w h c a crew ts)).2=E at q2 ev;rw[ev,ABT];have hw:Pn (xn+1)=xn+1:=Pr ADb ADb;have hw2:Pn (xi-1)=xi-1:=Pr ADb ADb;rw[hw,hw2];refine Ok.pure (.inl ⟨_,rfl,k-1,⟨?_,?_,q2,?_,?_⟩,ADb⟩)
  ·show xi-1+1=_;clear hn;omega
  ·show xi-1<=5;clear hn;omega
  ·show 0<=xn+1;clear hn;omega
  ·show xn+1+(xi-1)<=_;clear hn;omega
 grind
def QD(Q:iQ)(M:Int)(x:Int×Int×By×It×Int×ADY×ADX×AAH×By×By×Int):Prop:=Q x.1 x.2.1 x.2.2.1 x.2.2.2.1 x.2.2.2.2.1 x.2.2.2.2.2.1 x.2.2.2.2.2.2.1 x.2.2.2.2.2.2.2.1 x.2.2.2.2.2.2.2.2.1 x.2.2.2.2.2.2.2.2.2.1/\0<=x.2.2.2.2.2.2.2.2.2.2/\x.2.2.2.2.2.2.2.2.2.2<=M
theorem QD.take{Q:iQ}(K:gA Q){M desk:Int}{it:ADZ}(q:QD Q M (w,h,c,a,nx,l,crew,ts,st,ou,nw))(hr:mr w h c a nx l crew ts st ou nw desk it r):
  QD Q M (r.1,r.2.1,r.2.2.1,r.2.2.2.1,r.2.2.2.2.1,r.2.2.2.2.2.1,r.2.2.2.2.2.2.1,r.2.2.2.2.2.2.2.1,r.2.2.2.2.2.2.2.2.1,r.2.2.2.2.2.2.2.2.2.1,r.2.2.2.2.2.2.2.2.2.2.1):=by
 rcases hr with rfl|⟨o,l',hl,h29,_,T,hf,_,hle,rfl⟩
 ·exact q
 ·refine⟨?_,q.2⟩;rcases hl with rfl|rfl
  ·exact K.take q.1 T hf h29 hle
  ·exact K.take (K.lK q.1) T hf h29 hle
theorem QD.back{Q:iQ}(K:gA Q){M id:Int}(q:QD Q M (w,h,c,a,nx,l,crew,ts,st,ou,nw)){r:mj}(hr:mi w h c a nx l crew ts st ou nw id r):
  QD Q M (r.1,r.2.1,r.2.2.1,r.2.2.2.1,r.2.2.2.2.1,r.2.2.2.2.2.1,r.2.2.2.2.2.2.1,r.2.2.2.2.2.2.2.1,r.2.2.2.2.2.2.2.2.1,r.2.2.2.2.2.2.2.2.2.1,r.2.2.2.2.2.2.2.2.2.2.1):=by
 rcases hr with⟨rfl,_⟩|⟨o,B,rfl⟩
 ·exact q
 ·exact⟨K.back q.1 B.ord B.wz B.num,q.2⟩
theorem QD.rest{Q:iQ}(K:gA Q){M Pu m:Int}(q:QD Q M (w,h,c,a,nx,l,crew,ts,st,ou,nw))(hr:pD w h c a nx l crew ts st ou nw Pu k m r):
  QD Q M (r.1,r.2.1,r.2.2.1,r.2.2.2.1,r.2.2.2.2.1,r.2.2.2.2.2.1,r.2.2.2.2.2.2.1,r.2.2.2.2.2.2.2.1,r.2.2.2.2.2.2.2.2.1,r.2.2.2.2.2.2.2.2.2.1,r.2.2.2.2.2.2.2.2.2.2.1):=by
 rcases hr with⟨e,_,rfl⟩|⟨_,h0,hm,rfl⟩
 ·exact q
 ·exact⟨K.rest q.1 h0 hm,q.2⟩
theorem jz{Q:iQ}(K:gA Q)(n:Nat)(hn:Ps+1000<=n){b:By}(hcu:Cu b i)(M:Int)(hM:M<=1000):Ok (Xj n b i q M) λx=>QD Q 6000 (x.1,x.2.1,x.2.2.1,x.2.2.2.1,x.2.2.2.2.1,x.2.2.2.2.2.1,x.2.2.2.2.2.2.1,x.2.2.2.2.2.2.2.1,x.2.2.2.2.2.2.2.2.1,x.2.2.2.2.2.2.2.2.2.1,x.2.2.2.2.2.2.2.2.2.2.1)/\Cu x.2.2.2.2.2.2.2.2.2.2.2.1 x.2.2.2.2.2.2.2.2.2.2.2.2.1:=by
 have hB:Ps<=n:=AAv (AB0 _ _) hn;unfold Xj;refine(ik n hB hcu).bind λx hx=>?_;obtain⟨w,h,c,a,b',i',q',hnew,hcu',rfl⟩:=hx;have q0:=K.new hnew;generalize Sz (QZ c) (min (QZ c).length 20)=cw0 at q0 ⊢;generalize SS a 50=st0 at q0 ⊢;generalize List.replicate 51 (0:Int)=ze0 at q0 ⊢;dsimp only;obtain⟨m0,i1,q1,em,hi1,hm0,hm1⟩:=eN b' i' q' hcu'.2 hcu'.1 M;rw[em,ABT];dsimp only;have hm2:m0<=1000:=ADo
 have hm3:0<=6*(1000-m0):=ADo
 have hfuel:m0.toNat<n:=by unfold Ps at hB;omega
 have hinit:m0=(m0.toNat:Int):=ADo
 have qinit:QD Q (6*(1000-m0)) (w,h,c,a,1,[],cw0,[],st0,ze0,0):=⟨q0,ACb _,hm3⟩;refine Ok.bind (P:=λx=>QD Q 6000 x.2.2.2.2/\Cu x.2.1 x.2.2.1) (Ok.iter (λk x=>x.1=(k:Int)/\QD Q (6*(1000-x.1)) x.2.2.2.2/\Cu x.2.1 x.2.2.1/\x.1<=1000) (λk x hx=>?_) (k:=m0.toNat) ⟨hinit,qinit,⟨hcu'.1,hi1⟩,hm2⟩ hfuel) λx hx=>Ok.pure hx;obtain⟨k1,qd,hc,k2⟩:=hx;obtain⟨xi,xb,xj,xq,w,h,c,a,nx,l,crew,ts,st,ou,nw⟩:=x;dsimp only at k1 qd hc k2;have hqd:=qd.2;dsimp only at hqd;unfold ZU;dsimp only;refine Ok.cond (λhb=>?_) λhb=>Ok.pure (.inr ⟨_,rfl,⟨qd.1,hqd.1,?_⟩,hc⟩)
 case _=>
  have hb:=AAs hb;have hw1:Pn (xi-1)=xi-1:=Pr ADo ADo;obtain⟨d,c1,c2⟩:=K.di qd.1;dsimp only at d c1 c2;have z:=d.z c1 c2;have up:∀ {y:Int×Int×By×It×Int×ADY×ADX×AAH×By×By×Int},QD Q (6*(1000-xi)) y->QD Q (6*(1000-(xi-1))) y:=λg=>⟨g.1,g.2.1,by have:=g.2.2;clear hn hB;omega⟩;refine Ok.bind (P:=λz=>QD Q (6*(1000-(xi-1))) z.2.2.2/\Cu z.1 z.2.1) ((Ql hc 8).bind λr hr=>?_) λz hz=>Ok.pure (.inl ⟨_,rfl,k-1,⟨?_,?_,hz.2,?_⟩,ADo⟩)
  ·refine Ok.bind (P:=λ_=>True) (Ok.cond (λ_=>Ok.pure trivial) λ_=>Ok.pure trivial) λv _=>?_;refine Ok.cond (λ_=>?_) λ_=>Ok.cond (λ_=>?_) λ_=>Ok.cond (λ_=>?_) λ_=>?_
   ·refine(jy n hB hr.1 w h c d.fl).bind λs hs=>(l6 n hB hs).bind λt ht=>?_;obtain⟨y,e1,_,hR⟩:=lU w h d.bg z nw s.1 t.1 (by have:=ht.1;clear hn hB;omega) n hB;rw[e1];exact Ok.pure ⟨up (qd.take K hR),ht.2⟩
   ·refine(Ql hr.1 6).bind λs hs=>?_;obtain⟨y,e1,hR⟩:=fp w h d.bg z nw (Pn (1+s.1)) n hB;rw[e1];exact Ok.pure ⟨up (qd.back K hR),hs.1⟩
   ·refine(Ql hr.1 8).bind λs hs=>(Ql hs.1 5).bind λs2 hs2=>(Ql hs2.1 4).bind λs3 hs3=>?_;obtain⟨y,e1,hR⟩:=Yw w h d.bg z nw (Pn (1+s.1)) (Pn (1+s2.1)) (Pn (1+s3.1)) n hB;rw[e1];exact Ok.pure ⟨up (qd.rest K hR),hs3.1⟩
   ·refine(Ql hr.1 6).bind λs hs=>?_;refine(mf K n hn qd.1 ⟨hqd.1,ADo⟩ s.1 ⟨hs.2.1,by have:=hs.2.2 J;clear hn hB;omega⟩).bind λy hy=>Ok.pure ⟨⟨hy.1,hy.2.1,?_⟩,hs.1⟩;have:=hy.2.2;dsimp only;clear hn hB;omega
  ·show Pn (xi-1)=_;rw[hw1];clear hn hB;omega
  ·show QD Q (6*(1000-Pn (xi-1))) _;rw[hw1];exact hz.1
  ·show Pn (xi-1)<=1000;rw[hw1];clear hn hB;omega
 grind
structure BZ(m:Nat)(c:By)(a:It)(crew:ADX)(ts:AAH)(st ou:By):Prop where
 c1:c.length<=1048576
 a1:a.length<=m/\∀p∈a,p.2.2.length<=m
 r1:crew.length<=m
 t1:ts.length<=m
 s1:st.length<=m
 o1:ou.length<=m
theorem BZ.z{m:Nat}(hm:m<=1000000)(b:BZ m c a crew ts st ou):DZ c a crew ts st ou:=by
 obtain⟨c1,⟨a1,a2⟩,r1,t1,s1,o1⟩:=b;exact⟨c1,⟨by show a.length<=1048576;omega,λp hp=>by have:=a2 p hp;show p.2.2.length<=1048576;omega⟩,J,J,J,J⟩
theorem BZ.more{m:Nat}(b:BZ m c a crew ts st ou)(k:Nat)(hk:m<=k):BZ k c a crew ts st ou:=by
 obtain⟨c1,⟨a1,a2⟩,r1,t1,s1,o1⟩:=b;exact⟨c1,⟨J,λp hp=>by have:=a2 p hp;omega⟩,J,J,J,J⟩
theorem DI.tY(d:DI w h c a nx l crew ts)(h1:Ti st)(h2:Ti ou):BZ 100 c a crew ts st ou:=by
 have q1:=(WC d.fl).le;have q2:=d.cw.n20;have q3:=(Q6.1 d.XJ).1;have q4:=h1.1;have q5:=h2.1;have q6:=d.st.1;exact⟨J,⟨J,λp hp=>by have:=(d.st.2.2 p hp).2.2.2.2;omega⟩,J,J,J,J⟩
theorem jx(n:Nat)(hn:Ps<=n){b:By}(hcu:Cu b i)(m:Nat)(hm:m<=900)(w h:Int)(hb:BG nx l)(z:BZ m c a crew ts st ou)(hs:1<=st.length)(ho:1<ou.length)(nw:Int):
  Ok (Xh n b i q w h c a nx l crew ts st ou nw) λx=>BZ (m+1) x.2.2.1 x.2.2.2.1 x.2.2.2.2.2.2.1 x.2.2.2.2.2.2.2.1 x.2.2.2.2.2.2.2.2.1 x.2.2.2.2.2.2.2.2.2.1/\(x.1=w/\x.2.1=h/\x.2.2.1=c/\x.2.2.2.2.1=nx/\x.2.2.2.2.2.1=l)/\Cu x.2.2.2.2.2.2.2.2.2.2.2.1 x.2.2.2.2.2.2.2.2.2.2.2.2.1:=by
 have z2:=z.more (m+1) J;obtain⟨c1,a1,r1,t1,s1,o1⟩:=z2;have st1:=z.t1;unfold Xh;rw[TK w h hb.sm (z.z J) nw n hn,ABT];dsimp only;have i1:O3 ou 1=true:=ZC ⟨J,ADb⟩;refine Ok.bind (P:=λx=>BZ (m+1) x.2.2.2.2.2.1 x.2.2.2.2.2.2.1 x.2.2.2.2.2.2.2.2.2.1 x.2.2.2.2.2.2.2.2.2.2.1 x.2.2.2.2.2.2.2.2.2.2.2.1 x.2.2.2.2.2.2.2.2.2.2.2.2.1/\(x.2.2.2.1=w/\x.2.2.2.2.1=h/\x.2.2.2.2.2.1=c/\x.2.2.2.2.2.2.2.1=nx/\x.2.2.2.2.2.2.2.2.1=l)/\Cu x.1 x.2.1) ((Ql hcu 10).bind λr hr0=>Ok.cond (λ_=>?_) λ_=>Ok.cond (λ_=>?_) λ_=>Ok.cond (λ_=>?_) λ_=>Ok.cond (λ_=>?_) λ_=>Ok.cond (λ_=>?_) λ_=>Ok.cond (λ_=>?_) λ_=>Ok.cond (λ_=>?_) λ_=>Ok.pure ⟨⟨c1,a1,r1,t1,s1,o1⟩,⟨rfl,rfl,rfl,rfl,rfl⟩,hr0.1⟩) λx hx=>Ok.pure hx
 ·refine(kB m ADb n hn hr0.1 a z.a1.1 z.a1.2).bind λy hy=>Ok.pure ⟨⟨c1,⟨?_,λp hp=>?_⟩,r1,t1,s1,o1⟩,⟨rfl,rfl,rfl,rfl,rfl⟩,hy.2⟩
  ·have:=hy.1.1;have:=z.a1.1;show y.1.length<=m+1;clear hn;omega
  ·have:=hy.1.2 p hp;clear hn;omega
 ·refine(mA hr0.1 crew (by have:=z.r1;clear hn;omega)).bind λy hy=>Ok.pure ⟨⟨c1,a1,?_,t1,s1,o1⟩,⟨rfl,rfl,rfl,rfl,rfl⟩,hy.2⟩;show y.1.length<=_;rw[hy.1];exact r1
 ·refine Ok.guard i1 ((Ok.get (by show Int.toNat 1<ou.length;exact ho)).bind λv hv=>(ok_int hr0.1 OF).bind λu hu=>Ok.guard i1 (Ok.pure ⟨⟨c1,a1,r1,t1,s1,?_⟩,⟨rfl,rfl,rfl,rfl,rfl⟩,hu.1⟩));show(Ca ou _ _).length<=_;rw[QX,ACC];exact o1
 ·refine(Ql hr0.1 3).bind λu hu=>(Ql hu.1 3).bind λv hv=>Ok.guard (Ru ADb) (Ok.pure ⟨⟨c1,a1,r1,?_,s1,o1⟩,⟨rfl,rfl,rfl,rfl,rfl⟩,hv.1⟩);show(ts++[_]).length<=_;rw[AAz,ABb];clear hn;omega
 ·refine Ok.cond (λhb=>Ok.guard ?_ (Ok.pure ⟨⟨c1,a1,r1,?_,s1,o1⟩,⟨rfl,rfl,rfl,rfl,rfl⟩,hr0.1⟩)) λ_=>Ok.pure ⟨⟨c1,a1,r1,t1,s1,o1⟩,⟨rfl,rfl,rfl,rfl,rfl⟩,hr0.1⟩
  ·have hb:=AAs hb;simp only[AAJ,AAf];clear hn;omega
  ·show(sub ts _ _).length<=_;unfold sub;rw[AB8,ACF];clear hn;omega
 ·exact(ok_int hr0.1 OF).bind λu hu=>Ok.pure ⟨⟨c1,a1,r1,t1,s1,o1⟩,⟨rfl,rfl,rfl,rfl,rfl⟩,hu.1⟩
 ·refine Ok.guard ?_ (Ok.pure ⟨⟨c1,a1,r1,t1,?_,o1⟩,⟨rfl,rfl,rfl,rfl,rfl⟩,hr0.1⟩)
  ·simp only[AAJ,AAf];clear hn;omega
  ·show(sub st _ _).length<=_;unfold sub;rw[AB8,ACF];clear hn;omega
abbrev w4:=Int×Int×By×It×Int×ADY×ADX×AAH×By×By×Int
def BQ(x:w4):Prop:=BG x.2.2.2.2.1 x.2.2.2.2.2.1/\DZ x.2.2.1 x.2.2.2.1 x.2.2.2.2.2.2.1 x.2.2.2.2.2.2.2.1 x.2.2.2.2.2.2.2.2.1 x.2.2.2.2.2.2.2.2.2.1
theorem fZ(n:Nat)(hn:Ps+1000<=n){b:By}(hcu:Cu b i)(M:Int)(hM:M<=1000):Ok (U8 n b i q M) λx=>(BQ (x.1,x.2.1,x.2.2.1,x.2.2.2.1,x.2.2.2.2.1,x.2.2.2.2.2.1,x.2.2.2.2.2.2.1,x.2.2.2.2.2.2.2.1,x.2.2.2.2.2.2.2.2.1,x.2.2.2.2.2.2.2.2.2.1,x.2.2.2.2.2.2.2.2.2.2.1)/\P3 x.1 x.2.1 x.2.2.1=true)/\Cu x.2.2.2.2.2.2.2.2.2.2.2.1 x.2.2.2.2.2.2.2.2.2.2.2.2.1:=by
 have hB:Ps<=n:=AAv (AB0 _ _) hn;unfold U8;refine(jz qj n hn hcu M hM).bind λx hx=>?_;obtain⟨w,h,c,a,nx,l,crew,ts,st,ou,nw,b',i',q'⟩:=x;obtain⟨⟨⟨d,c1,c2⟩,_⟩,hc⟩:=hx;dsimp only at d c1 c2 hc ⊢;have z:=d.tY c1 c2;have o51:=c2.1;have wq:=c1.1;refine Ok.bind (P:=λy=>((BQ y.2.2.2)/\P3 y.2.2.2.1 y.2.2.2.2.1 y.2.2.2.2.2.1=true)/\Cu y.1 y.2.1) (Ok.bind (P:=λy=>Cu y.2.1 y.2.2.1) (Ok.cond (λ_=>(bA hc 8).bind λr hr=>Ok.pure hr) λ_=>Ok.pure hc) λy hy=>Ok.cond (λ_=>?_) λ_=>Ok.pure ⟨⟨⟨d.bg,z.z J⟩,d.fl⟩,hy⟩) λy hy=>Ok.pure hy;refine(jx n hB hy 100 J w h d.bg z ADo ADo nw).bind λv hv=>Ok.pure ⟨⟨⟨?_,hv.1.z J⟩,?_⟩,hv.2.2⟩
 ·obtain⟨_,_,_,e4,e5⟩:=hv.2.1;show BG v.2.2.2.2.1 v.2.2.2.2.2.1;rw[e4,e5];exact d.bg
 ·obtain⟨e1,e2,e3,_,_⟩:=hv.2.1;show P3 v.1 v.2.1 v.2.2.1=true;rw[e1,e2,e3];exact d.fl
theorem kP(w h:Int)(hb:BG nx l)(z:DZ c a crew ts st ou)(nw Pu k m:Int)(n:Nat)(hn:Ps<=n):
  XR n w h c a nx l crew ts st ou nw Pu k m=S6 n w h c a nx l crew ts st ou nw Pu k m:=by
 obtain⟨b1,e1,i1⟩:=UN w h c z.c1 a z.a1 nx l hb crew AD5 ts AD3 st ou AD4 AD6 nw n hn;obtain⟨b2,e2,i2⟩:=WE w h c z.c1 a z.a1 nx l hb.sm crew AD5 ts AD3 st ou AD4 AD6 nw n hn;have hbb:b2=b1:=by rw[ABy,i1,i2]
 subst hbb;unfold XR S6;rw[Vg w h hb.sm z nw n hn,TK w h hb.sm z nw n hn,ABT,ABT,e1,e2,ABT,ABT,eE a z.a1 Pu k m n hn,Zs a z.a1 Pu k m n hn]
 have hg:JQ st k=bif O3 st k then st[k.toNat]? else none:=by
  unfold JQ O3;by_cases h0:0<=k
  ·rw[AAP h0,ABZ h0,ABx];by_cases h1:k<(st.length:Int)
   ·rw[ABZ h1];rfl
   ·rw[ABd h1];simp;omega
  ·rw[AAQ h0,ABd h0];rfl
 dsimp only;rw[hg];cases b2 with
 |false=>rfl
 |true=>
  simp only[ABT];cases O3 st k with
  |false=>rfl
  |true=>
   simp only[ABU]
theorem ml.iE(d:ml w h c a nx l crew ts st ou nw){Pu m:Int}(hc:(UY a Pu k m).2=0)(hm:st.getD k.toNat 0+m<=1000000):ml w h c (UY a Pu k m).1 nx l crew ts (st.set k.toNat (st.getD k.toNat 0+m)) ou nw:=
 have hb:=kz d.oC Pu k m
 { d with oC:=hb.1,tk:=λt ht=>(d.tk t ht).same hb.2.1 rfl,c1:=d.c1.rest hc hm }
theorem ml.dw(d:ml w h c a nx l crew ts st ou nw):DW w h c a l crew ts:=⟨d.fl,d.oC,d.cw,d.XJ,d.tk⟩
theorem jM{b:It}(ha:Py a)(hsa:P4 a)(hsb:P4 b)(hs:Ti st)(ho:Ti ou){m:Int}(hk:1<=k/\k<=50)(hm:0<=m/\m<=1000000)(hcnt:∀j,Qf b j=Qf a j+bif k==j then m else 0)(w h:Int)(c:By)(nx:Int)(l:ADY)(crew:ADX)(ts:AAH)(nw:Int)(n:Nat)(hn:Ps<=n):
  Ri n w h c b nx l crew ts (st.set k.toNat (st.getD k.toNat 0+m)) ou nw=Ri n w h c a nx l crew ts st ou nw:=by
 have hL:Rn n b (st.set k.toNat (st.getD k.toNat 0+m)) ou=Rn n a st ou:=by
  funext s;unfold Rn;rw[ACC];by_cases h50:s<=50
  case neg=>rw[ABd h50];rfl
  rw[ABZ h50,ABU,ABU,ABd (show ¬s>=(st.length:Int) by have:=hs.1;clear hn;omega),ABV,ABV,ABd (show ¬s>=(ou.length:Int) by have:=ho.1;clear hn;omega),ABV,ABV];simp only[Ud a hsa _ n hn,Ud b hsb _ n hn,hcnt s,V9,Q8,ABT];by_cases h0:0<=s
  case neg=>
   have:JQ ou s=none:=by unfold JQ;rw[AAQ h0]
   rw[this];rfl
  obtain⟨j,rfl⟩:∃j:Nat,s=(j:Int):=⟨s.toNat,ADb⟩;obtain⟨kk,rfl⟩:∃kk:Nat,k=(kk:Int):=⟨k.toNat,ADb⟩;have l1:j<st.length:=by have:=hs.1;clear hn;omega
  have l2:j<ou.length:=by have:=ho.1;clear hn;omega
  have lk:kk<st.length:=by have:=hs.1;clear hn;omega
  have l3:j<(st.set kk (st.getD kk 0+m)).length:=by rw[ACC];exact l1
  rw[ABX,Pk l2,Pk l1,Pk l3];simp only[ABT];have hcb:=aQ a (j:Int);have ob:=ho.2.1 _ (ABW l2);have sb:=hs.2.1 _ (ABW l1)
  have hset:(st.set kk (st.getD kk 0+m))[j]=st[j]+bif(kk:Int)==(j:Int)then m else 0:=by
   rw[List.getElem_set];by_cases e:kk=j
   ·subst e;rw[AAP rfl,ABi,ABU];simp[lk]
   ·rw[AAQ e,show((kk:Int)==(j:Int))=false by rw[ABa];omega,ABV,Int.add_zero]
  rw[hset]
  have hbd:0<=(bif(kk:Int)==(j:Int)then m else 0)/\(bif(kk:Int)==(j:Int)then m else 0)<=1000000:=by
   cases(kk:Int)==(j:Int)
   ·rw[ABV];clear hn;omega
   ·exact hm
  generalize (bif(kk:Int)==(j:Int)then m else 0)=δ at hbd
  have hx:(Pn (Qf a (j:Int)+δ+ou[j]) != st[j]+δ)=(Pn (Qf a (j:Int)+ou[j]) != st[j]):=by rw[Pr (n:=Qf a (j:Int)+δ+ou[j]) ADb ADb,Pr (n:=Qf a (j:Int)+ou[j]) ADb ADb,ABy,AB2,AB2];clear hn;omega
  rw[hx]
 unfold Ri;rw[hL]
theorem bd(hp:P4 a)(hs:Ti st)(ho:Ti ou)(w h:Int)(c:By)(nx:Int)(l:ADY)(crew:ADX)(ts:AAH)(nw:Int)(n:Nat)(hn:Ps<=n):
  ∃b,Ri n w h c a nx l crew ts st ou nw=some b:=by
 have h1:=RQ (Rn n a st ou) (λk=>((k+1:Nat):Int)) 50 (λk=>Pn (Qf a ((k+1:Nat):Int)+ou.getD (k+1) 0)==st.getD (k+1) 0) (λi hi=>by
  have l1:i+1<st.length:=by rw[hs.1];clear hn;omega
  have l2:i+1<ou.length:=by rw[ho.1];clear hn;omega
  have ob:=ho.2.1 _ (ABW l2);unfold Rn;dsimp only;rw[show decide (((i+1:Nat):Int)<=50)=true by grind,show decide (((i+1:Nat):Int)>=(st.length:Int))=false by grind,show decide (((i+1:Nat):Int)>=(ou.length:Int))=false by grind];simp only[ABU,ABV,Pk l1,Pk l2,ABT,V9,Q8,Ud a hp _ n hn];rw[YO.2 ob,Pr (n:=((i+1:Nat):Int)+1) ADb ADb];rw[show ou.getD (i+1) 0=ou[i+1] by simp[l2],show st.getD (i+1) 0=st[i+1] by simp[l1]];simp only[ABc,ABV,ABT,bne];cases Pn (Qf a ((i+1:Nat):Int)+ou[i+1])==st[i+1]
  ·rfl
  ·rfl) (by unfold Rn;simp) n ADd
 rw[show((0+1:Nat):Int)=1 from rfl]at h1;unfold Ri;rw[h1];cases(List.range 50).all λk=>Pn (Qf a ((k+1:Nat):Int)+ou.getD (k+1) 0)==st.getD (k+1) 0
 ·exact⟨_,rfl⟩
 ·exact⟨_,rfl⟩
theorem fm(a:By)(ha:a.length<=1048576)(n:Nat)(hn:Ps<=n):We n a a=some true:=by
 unfold We;rw[bne_self_eq_false,ABV]
 rw[Rl (UK a a) a (λ_=>true) (λi x hi hx=>by
  unfold UK;rw[show decide ((i:Int)<(a.length:Int))=true by simp only[AAf];omega,ABU,RU,hx,Pj hi J];simp) (by unfold UK;simp) n ADd]
 rw[show a.all (λ_=>true)=true from AAW.2 λ_ _=>rfl];rfl
theorem dn(n:Nat)(hn:Ps+1000<=n)(code:By)(hl:code.length<=1048576):Ok (UP n code) λx=>BQ (x.1,x.2.1,x.2.2.1,x.2.2.2.1,x.2.2.2.2.1,x.2.2.2.2.2.1,x.2.2.2.2.2.2.1,x.2.2.2.2.2.2.2.1,x.2.2.2.2.2.2.2.2.1,x.2.2.2.2.2.2.2.2.2.1,x.2.2.2.2.2.2.2.2.2.2.1):=by have hB:Ps<=n:=AAv (AB0 _ _) hn;obtain⟨h0,e0⟩:=nL code hl n hB;obtain⟨r,e2,r0,r1⟩:=l7 code hl 10 ADj;unfold UP;rw[e0,ABT,e2,ABT];refine(fZ n hn (b:=code) (i:=0) ⟨hl,ACb _⟩ r ADo).bind λx hx=>?_;exact(Ql hx.2 8).bind λu hu=>(ok_int hu.1 OF).bind λv hv=>(ok_int hv.1 OF).bind λt ht=>Ok.pure hx.1.1
theorem oJ(hb:BG nx l)(d:ml w h c a nx l crew ts st ou nw)(z:DZ c a crew ts st ou)(n:Nat)(hn:Ps+1000<=n):
  SA n w h c a nx l crew ts st ou nw=some true/\∃t,Z3 n w h c a nx l crew ts st ou nw=some t/\(nw<1000000->t.2.2.2.2.2.2.2.2.2.2=Pn (nw+1)):=by
 have hB:Ps<=n:=AAv (AB0 _ _) hn;obtain⟨b2,e2,i2⟩:=WE w h c z.c1 a z.a1 nx l hb.sm crew (AAv z.r1 ADj) ts (AAv z.t1 ADj) st ou (AAv z.s1 ADj) (AAv z.o1 ADj) nw n hB;have hD:=i2.2 d;subst hD;refine⟨e2,?_⟩;unfold Z3;rw[Vg w h hb.sm z nw n hB,ABT,e2,ABT,ABU,ABT];by_cases zA:nw<1000000
 ·rw[ABZ zA,ABU];obtain⟨crew2,_,_,_,ev⟩:=fY d.dw hb st d.c2.ob nw n hn;rw[ev];exact⟨_,rfl,λ_=>rfl⟩
 ·rw[ABd zA];exact⟨_,rfl,λe=>(zA e).elim⟩
theorem ZZ(code:By)(hx:(w7 w8) code):∃n,WK n code=some true:=by
 obtain⟨n,hn⟩:∃n,Ps+1000<=n:=⟨_,AAc _⟩;have hB:Ps<=n:=AAv (AB0 _ _) hn;refine⟨n,?_⟩;unfold WK eR;rw[ABT];by_cases hbig:(code.length:Int)>1048576
 ·rw[ABZ hbig];rfl
 rw[ABd hbig,ABV];have hl:code.length<=1048576:=ADo
 obtain⟨x,e0,hb,z⟩:=dn n hn code hl;obtain⟨w,h,c,a,nx,l,crew,ts,st,ou,nw,Pu,k,m⟩:=x;dsimp only at hb z;rw[e0,ABT];dsimp only;obtain⟨r,er,hr⟩:=Yw w h hb z nw Pu k m n hB;rw[kP w h hb z nw Pu k m n hB,er,ABT,ABT];rw[bne_self_eq_false,ABV];rcases hr with⟨e,he,rfl⟩|⟨D,h0,hle,rfl⟩
 ·dsimp only;rw[show(e != 0)=true from AB2.2 he,ABU,iF a z.a1 n hB,fm st (AAv z.s1 ADj) n hB];rfl
 dsimp only;obtain⟨hk,hm⟩:=nv h0;have D2:=D.iE h0 hle;have hsb:=D2.oC.sm;have z2:DZ c (UY a Pu k m).1 crew ts (st.set k.toNat (st.getD k.toNat 0+m)) ou:=⟨z.c1,hsb,z.r1,z.t1,by rw[ACC];exact z.s1,z.o1⟩;obtain⟨eo,t,et,htn⟩:=oJ hb D2 z2 n hn
 have hcnt:∀j,Qf (UY a Pu k m).1 j=Qf a j+bif k==j then m else 0:=λj=>by rw[ko D2.oC,ko D.oC,nR D.oC h0]
 have hpc:=jM D.oC z.a1 hsb D.c1 D.c2 hk ADo hcnt w h c nx l crew ts nw n hB;obtain⟨pb,ei⟩:=bd z.a1 D.c1 D.c2 w h c nx l crew ts nw n hB;rw[ei]at hpc;have h51:=D.c1.1;have hkl:k.toNat<st.length:=ADo
 have hkl2:k.toNat<(st.set k.toNat (st.getD k.toNat 0+m)).length:=by rw[ACC];exact hkl
 have hgi:JQ st k=some (st.getD k.toNat 0):=by unfold JQ;rw[AAP (show 0<=k by clear hn hB;omega),AAI hkl];simp[hkl]
 have hinb:O3 (st.set k.toNat (st.getD k.toNat 0+m)) k=true:=by unfold O3;rw[AAJ,AAf,AAf,ACC];clear hn hB;omega
 have hset:(st.set k.toNat (st.getD k.toNat 0+m))[k.toNat]?=some (st.getD k.toNat 0+m):=by rw[ACP hkl]
 have hb2:=D.c1.ob.getD ADj k.toNat;have hcl:=aQ a k;have hw1:Pn (st.getD k.toNat 0+m)=st.getD k.toNat 0+m:=Pr ADo ADo;have hw2:Pn (Qf a k+m)=Qf a k+m:=Pr ADo ADo;have hck:Qf (UY a Pu k m).1 k=Qf a k+m:=by rw[hcnt,ABi];rfl
 rw[show((0:Int) != 0)=false from rfl,ABV,et,ABT,eo,ABT,ABU,hinb,ABU,hset,ABT,hgi,ABT,hw1,ABi,ABU,
  Ud _ hsb k n hB,ABT,Ud a z.a1 k n hB,ABT,hw2,hck,ABi,ABU]
 by_cases zA:nw<1000000
 ·rw[ABd (show ¬nw>=1000000 by clear hn hB;omega),ABV,htn zA,ABi,ABU,hpc,ei];simp
 ·rw[ABZ (show nw>=1000000 by clear hn hB;omega),ABU,hpc,ei];simp
end Go.Ev.N
