/- FnAccepted,as a plain law aq native forms: what the program's function answers is what the reference's answers. Conditions: none but the lengths' and numbers' bounds. -/
import Derived.Test.YtglbgceejloiaaaFnAcceptedNat
namespace Go.Ev.N
open Go Go.Ev
set_option linter.unusedVariables false
set_option linter.unusedSimpArgs false
theorem PS {n:Int} (h1 : -9223372036854775808≤n) (h2:n≤9223372036854775807):Pe n=n:=by
 unfold Pe IntKind.wrap
 simp only [IntKind.bits,IntKind.signed]
 simp
 split <;> omega
theorem j8 {i:Int} {m:Nat} (h0:0≤i) (h:i<(m:Int)) (hm:m≤9223372036854775807):Pe (i+1)=i+1:=PS (by omega) (by omega)
theorem PF {i m:Nat} (h:i<m) (hm:m≤9223372036854775807):Pe ((i:Int)+1)=((i+1:Nat):Int):=by rw [PS (by omega) (by omega)];omega
theorem UU {α:Type} (xs:List α) (i:Nat):ND xs (i:Int)=xs[i]? := by
 unfold ND
 rw [if_pos (by omega)]
 simp
theorem PD {α:Type} {xs:List α} {i:Nat} (h:i<xs.length):ND xs (i:Int)=some xs[i]:=by rw [UU];exact List.getElem?_eq_getElem h
theorem Yh {α:Type} (xs:List α) (i:Nat):Of xs (i:Int)=decide (i<xs.length):=by
 unfold Of
 have:decide (0≤(i:Int))=true:=by simp
 rw [this,Bool.true_and]
 simp
theorem Qr {α:Type} {xs:List α} {i:Nat} (h:i<xs.length):Of xs (i:Int)=true:=by rw [Yh];simpa using h
theorem cK {α:Type} (l:List α) (n:Nat) (y:α):CV l n y=l.set n y:=Bk l n y
def fI (x:Int):Prop:=IntKind.min .i64≤x∧x≤IntKind.max .i64
def fB (_:Bool):Prop:=True
def ko (x:List UInt8):Prop:=List.length x≤maxLen
def jW {α:Type} (p:α→Prop) (x:List α):Prop:=List.length x≤maxLen∧∀ y,List.Mem y x→p y
def fP {α β:Type} (p:α→Prop) (q:β→Prop) (x:α×β):Prop:=p x.1∧q x.2
theorem km {x:Int} (h:fI x) : -9223372036854775808≤x∧x≤9223372036854775807:=by
 unfold fI IntKind.min IntKind.max at h
 simpa [IntKind.bits,IntKind.signed] using h
theorem iD {α:Type} {p:α→Prop} {x:List α} (h:jW p x):x.length≤9223372036854775807:=h.1
theorem iE {α:Type} {p:α→Prop} {x:List α} (h:jW p x) {y:α} (hy:y∈x):p y:=h.2 y hy
section
variable {α γ σ β:Type}
theorem QW {f:α→Option (α⊕γ)} {x y:α} (h:f x=some (.inl y)) (n:Nat):iter (n+1) f x=iter n f y:=by simp [iter,h]
theorem Pf {f:α→Option (α⊕γ)} {x:α} {z:γ} (h:f x=some (.inr z)) (n:Nat):iter (n+1) f x=some z:=by simp [iter,h]
theorem TY (f:α→Option (α⊕γ)) (st:Nat→α) (m:Nat) (r:γ) (hs:∀ i,i<m→f (st i)=some (.inl (st (i+1)))) (he:f (st m)=some (.inr r)):∀ n,m<n→iter n f (st 0)=some r:=by
 have key:∀ d i n,i+d=m→d<n→iter n f (st i)=some r:=by
  intro d
  induction d with
  | zero =>
   intro i n hi hn
   obtain ⟨n,rfl⟩:∃ k,n=k+1:=⟨n - 1,by omega⟩
   have:i=m:=by omega
   subst this
   exact Pf he n
  | succ d ih =>
   intro i n hi hn
   obtain ⟨n,rfl⟩:∃ k,n=k+1:=⟨n - 1,by omega⟩
   rw [QW (hs i (by omega)) n]
   exact ih (i+1) n (by omega) (by omega)
 exact fun n hn=>key m 0 n (by omega) hn
theorem Pm (f:α→Option (α⊕γ)) (st:Nat→σ→α) (xs:List β) (G:List β→σ→γ) (Inv:Nat→σ→Prop)
  (hend:∀ s,Inv xs.length s→f (st xs.length s)=some (.inr (G [] s)))
  (hstep:∀ i x l s,i<xs.length→xs[i]? = some x→xs.drop i=x::l→xs.drop (i+1)=l→Inv i s→(∃ s',f (st i s)=some (.inl (st (i+1) s'))∧Inv (i+1) s'∧G (x::l) s=G l s')∨f (st i s)=some (.inr (G (x::l) s))) :
  ∀ n,xs.length<n→∀ s,Inv 0 s→iter n f (st 0 s)=some (G xs s):=by
 have key:∀ d i n s,i+d=xs.length→d<n→Inv i s→iter n f (st i s)=some (G (xs.drop i) s):=by
  intro d
  induction d with
  | zero =>
   intro i n s hi hn hI
   obtain ⟨n,rfl⟩:∃ k,n=k+1:=⟨n - 1,by omega⟩
   have:i=xs.length:=by omega
   subst this
   rw [Pf (hend s hI) n,List.drop_length]
  | succ d ih =>
   intro i n s hi hn hI
   obtain ⟨n,rfl⟩:∃ k,n=k+1:=⟨n - 1,by omega⟩
   have hlt:i<xs.length:=by omega
   have hd:xs.drop i=xs[i]::xs.drop (i+1):=List.drop_eq_getElem_cons hlt
   rcases hstep i xs[i] (xs.drop (i+1)) s hlt (List.getElem?_eq_getElem hlt) hd rfl hI with ⟨s',h1,h2,h3⟩ | h1
   ·rw [QW h1 n,ih (i+1) n s' (by omega) (by omega) h2,hd,h3]
   ·rw [Pf h1 n,hd]
 intro n hn s hI
 have:=key xs.length 0 n s (by omega) hn hI
 simpa using this
theorem Wl (f:Int→Option (Int⊕γ)) (xs:List β) (G:List β→List β→γ) (hend:f (xs.length:Int)=some (.inr (G xs [])))
  (hstep:∀ i x l p,i<xs.length→xs[i]? = some x→xs=p++x::l→p.length=i→p=xs.take i→(f (i:Int)=some (.inl ((i+1:Nat):Int))∧G p (x::l)=G (p++[x]) l)∨f (i:Int)=some (.inr (G p (x::l)))) :
  ∀ n,xs.length<n→iter n f 0=some (G [] xs):=by
 intro n hn
 refine Pm (σ:=List β) f (fun i _=>(i:Int)) xs (fun l p=>G p l) (fun i p=>p=xs.take i) (fun s hs => ?_) (fun i x l s h1 h2 h3 h4 h5 => ?_) n hn [] (by simp)
 ·have:s=xs:=by rw [hs];simp
  rw [this];exact hend
 ·have hlen:s.length=i:=by rw [h5];simp;omega
  have hx:xs=s++x::l:=by rw [← h3,h5,List.take_append_drop]
  rcases hstep i x l s h1 h2 hx hlen h5 with ⟨q1,q2⟩ | q1
  ·refine .inl ⟨s++[x],q1, ?_,q2⟩
   have hxi:x=xs[i]:=by rw [List.getElem?_eq_getElem h1] at h2;exact (Option.some.inj h2).symm
   rw [h5,List.take_succ_eq_append_getElem h1,hxi]
  ·exact .inr q1
end
theorem SK {β:Type} (f:Int→Option (Int⊕(Int⊕Bool))) (xs:List β) (P:β→Bool) (hs:∀ (i:Nat) (x:β),i<xs.length→xs[i]? = some x→f (i:Int)=some (bif P x then .inl ((i+1:Nat):Int) else .inr (.inr false)))
  (he:f (xs.length:Int)=some (.inr (.inl (xs.length:Int)))):∀ n,xs.length<n→iter n f 0=some (bif xs.all P then .inl (xs.length:Int) else .inr false):=by
 intro n hn
 refine Wl f xs (fun p l=>bif l.all P then .inl (xs.length:Int) else .inr false) ?_ ?_ n hn
 ·rw [he];simp
 ·intro i x l p h1 h2 h3 h4 h5
  rw [hs i x h1 h2]
  cases hp:P x with
  | true=>exact .inl ⟨by simp,by simp [hp]⟩
  | false=>exact .inr (by simp [hp])
theorem lA (b c:Bool):(bif b then some true else some c)=some (b||c):=by cases b <;> rfl
theorem kZ (b c:Bool):(bif b then some c else some false)=some (b&&c):=by cases b <;> rfl
theorem kd (b c:Bool):(bif b then some false else some c)=some (!b&&c):=by cases b <;> rfl
theorem lB (b c:Bool):(bif b then some c else some true)=some (!b||c):=by cases b <;> rfl
theorem Wg {α:Type} (b:Bool) (x y:α):(bif b then some x else some y)=some (bif b then x else y):=by cases b <;> rfl
theorem iC {β:Type} (L:Int×List β→Option ((Int×List β)⊕(Int×List β))) (xs:List β) (z:β)
  (hL:∀ (i:Nat) (h:i<xs.length) (out:List β),out.length=xs.length→L ((i:Int),out)=some (.inl (((i+1:Nat):Int),out.set i xs[i]))) (hend:∀ out,L ((xs.length:Int),out)=some (.inr ((xs.length:Int),out))) :
  ∀ n,xs.length<n→iter n L (0,List.replicate xs.length z)=some ((xs.length:Int),xs):=by
 intro n hn
 have:=Pm (σ:=List β) L (fun i s=>((i:Int),s)) xs (fun l s=>((xs.length:Int),s.take (xs.length - l.length)++l)) (fun i s=>s.length=xs.length∧s.take i=xs.take i)
  (fun s hs=>by
   rw [hend s,show s.take (xs.length - ([]:List β).length)++[]=s by simp [← hs.1]])
  (fun i x l s h1 h2 h3 h4 h5=>by
   left
   have hx:xs[i]=x:=by rw [List.getElem?_eq_getElem h1] at h2;exact Option.some.inj h2
   refine ⟨s.set i xs[i],hL i h1 s h5.1,⟨by simp [h5.1], ?_⟩, ?_⟩
   ·rw [List.take_succ_eq_append_getElem h1,List.take_succ_eq_append_getElem (by simp [h5.1];exact h1)]
    congr 1
    ·rw [List.take_set_of_le (Nat.le_refl i),h5.2]
    ·simp
   ·have hl:l.length=xs.length - (i+1):=by rw [← h4];simp
    congr 1
    rw [List.length_cons,hl,show xs.length - (xs.length - (i+1)+1)=i by omega,show xs.length - (xs.length - (i+1))=i+1 by omega]
    rw [List.take_succ_eq_append_getElem (by simp [h5.1];exact h1),List.take_set_of_le (Nat.le_refl i)]
    simp [hx])
  n hn (List.replicate xs.length z) ⟨by simp,by simp⟩
 simpa using this
def PY:Nat:=18446744073709551616
theorem cN:maxLen=9223372036854775807:=rfl
def YA (a:List (Int×Int)):Prop:=a.length≤1048576
def YB (a:List (Int×Int×Int)):Prop:=a.length≤1048576
def TB (a:Int×Int×(List (Int×Int))×(List (Int×Int×Int))×Int):Prop:=YA a.2.2.1∧YB a.2.2.2.1
def W6 (a:List (Int×Int×(List (Int×Int))×(List (Int×Int×Int))×Int)):Prop:=a.length≤1048576∧∀ y∈a,TB y
def Q1 (a:Int×(List (Int×Int×(List (Int×Int))×(List (Int×Int×Int))×Int))):Prop:=W6 a.2
def W7 (a:List (Int×Int×Int)):Prop:=a.length≤1048576
def cI (a:Int×Int×(List (Int×Int×Int))):Prop:=W7 a.2.2
def Pc (a:List (Int×Int×(List (Int×Int×Int)))):Prop:=a.length≤1048576∧∀ y∈a,cI y
theorem S0 {m:Nat} (h:m≤1048576):decide (m+1≤DZ)=true:=by
 have hm:DZ=68719476736:=rfl
 rw [hm];simp;omega
theorem Tc {m:Nat} (h:m≤1048576):decide (m≤DZ)=true:=by
 have hm:DZ=68719476736:=rfl
 rw [hm];simp;omega
theorem Qs {α γ:Type} (f g:α→Option (α⊕γ)) (I:Nat→α→Prop) (Q:γ→Prop) (m:Nat)
  (h:∀ i x,i≤m→I i x→g x=f x∧((∃ y,f x=some (.inl y)∧I (i+1) y∧i<m)∨∃ r,f x=some (.inr r)∧Q r)) :
  ∀ n,m<n→∀ x,I 0 x→iter n g x=iter n f x∧∃ r,iter n f x=some r∧Q r:=by
 have key:∀ d i n x,i+d=m→d<n→I i x→iter n g x=iter n f x∧∃ r,iter n f x=some r∧Q r:=by
  intro d
  induction d with
  | zero =>
   intro i n x hi hn hI
   obtain ⟨n,rfl⟩:∃ k,n=k+1:=⟨n - 1,by omega⟩
   obtain ⟨e,h1 | ⟨r,h1,h2⟩⟩:=h i x (by omega) hI
   ·obtain ⟨y,_,_,hlt⟩:=h1;omega
   ·exact ⟨by rw [Pf h1 n,Pf (e.trans h1) n],r,Pf h1 n,h2⟩
  | succ d ih =>
   intro i n x hi hn hI
   obtain ⟨n,rfl⟩:∃ k,n=k+1:=⟨n - 1,by omega⟩
   obtain ⟨e,⟨y,h1,h2,_⟩ | ⟨r,h1,h2⟩⟩:=h i x (by omega) hI
   ·obtain ⟨j1,j2⟩:=ih (i+1) n y (by omega) (by omega) h2
    rw [QW h1 n,QW (e.trans h1) n]
    exact ⟨j1,j2⟩
   ·exact ⟨by rw [Pf h1 n,Pf (e.trans h1) n],r,Pf h1 n,h2⟩
 exact fun n hn x hx=>key m 0 n x (by omega) hn hx
def kp (x:Int):Prop:=IntKind.min .u8≤x∧x≤IntKind.max .u8
theorem Th (x:Int):0≤OO .i64 x 255∧OO .i64 x 255≤255:=by
 unfold OO
 have h:(BitVec.ofInt (IntKind.bits .i64) x &&& BitVec.ofInt (IntKind.bits .i64) 255).toNat≤255:=by
  rw [BitVec.toNat_and]
  have:(BitVec.ofInt (IntKind.bits .i64) 255).toNat=255:=by decide
  rw [this]
  exact Nat.and_le_right
 generalize (BitVec.ofInt (IntKind.bits .i64) x &&& BitVec.ofInt (IntKind.bits .i64) 255).toNat=m at h
 have:IntKind.wrap .i64 (m:Int)=(m:Int):=PS (by omega) (by omega)
 rw [this]
 omega
theorem T4 (b:List Int) (i h:Int) (hi:0≤i) (hb:b.length≤1048576):∃ x i' h':Int,QS b i h=some (x,b,i',h')∧0≤x∧x≤255∧0≤i':=by
 unfold QS
 rw [show decide ((0:Nat)≤33)=true from rfl,show decide ((0:Nat)≤47)=true from rfl]
 simp only [cond_true]
 by_cases hl:i<(b.length:Int)
 ·obtain ⟨j,rfl⟩:∃ j:Nat,i=(j:Int):=⟨i.toNat,by omega⟩
  have hj:j<b.length:=by omega
  rw [show decide ((j:Int)<(b.length:Int))=true by simpa using hl,cond_true,PD hj]
  simp only [Option.bind_some]
  refine ⟨_,_,_,rfl,(Th _).1,(Th _).2, ?_⟩
  rw [PF hj (by omega)];omega
 ·rw [show decide (i<(b.length:Int))=false by simpa using hl,cond_false]
  simp only [Option.bind_some]
  exact ⟨_,_,_,rfl,(Th _).1,(Th _).2,hi⟩
theorem QL (b:List Int) (i h:Int) (hi:0≤i) (hb:b.length≤1048576) (n:Int):∃ x i' h':Int,PQ b i h n=some (x,b,i',h')∧0≤i'∧0≤x∧(x<n∨n≤0∧x=0):=by
 unfold PQ
 by_cases h0:n≤0
 ·rw [show decide (n≤0)=true by simpa using h0,cond_true]
  exact ⟨0,i,h,rfl,hi,by omega, .inr ⟨h0,rfl⟩⟩
 rw [show decide (n≤0)=false by simpa using h0,cond_false]
 have hz:(n==0)=false:=by rw [← Bool.not_eq_true];simp;omega
 rw [hz]
 have fin:∀ x:Int,0≤x→0≤Int.tmod x n∧Int.tmod x n<n:=fun x hx=>by
  rw [Int.tmod_eq_emod_of_nonneg hx]
  exact ⟨Int.emod_nonneg _ (by omega),Int.emod_lt_of_pos _ (by omega)⟩
 obtain ⟨x,i1,h1,e1,x0,x1,j1⟩:=T4 b i h hi hb
 rw [e1]
 simp only [Option.bind_some,cond_false]
 by_cases h2:n≤256
 ·rw [show decide (n≤256)=true by simpa using h2,cond_true]
  exact ⟨_,_,_,rfl,j1,(fin x x0).1, .inl (fin x x0).2⟩
 rw [show decide (n≤256)=false by simpa using h2,cond_false]
 obtain ⟨y,i2,h2',e2,y0,y1,j2⟩:=T4 b i1 h1 j1 hb
 rw [e2]
 simp only [Option.bind_some]
 obtain ⟨z,i3,h3',e3,z0,z1,j3⟩:=T4 b i2 h2' j2 hb
 rw [e3]
 simp only [Option.bind_some]
 rw [PS (n:=x * 65536) (by omega) (by omega),PS (n:=y * 256) (by omega) (by omega),PS (n:=x * 65536+y * 256) (by omega) (by omega),PS (n:=x * 65536+y * 256+z) (by omega) (by omega)]
 exact ⟨_,_,_,rfl,j3,(fin _ (by omega)).1, .inl (fin _ (by omega)).2⟩
theorem XN (a:List Int) (ha:a.length≤1048576) (n:Nat) (hn:PY≤n):∃ h:Int,SP n a=some (a,0,h):=by
 obtain ⟨_,r,e,_⟩:=Qs (α:=Int×Int) (γ:=Int×Int) (R1 a) (R1 a) (fun i x=>x.2=(i:Int)) (fun _=>True) a.length (fun i x hi hI=>by
  refine ⟨rfl, ?_⟩
  obtain ⟨h,k⟩:=x
  dsimp only at hI
  subst hI
  unfold R1
  dsimp only
  by_cases hl:i<a.length
  ·rw [show decide ((i:Int)<(a.length:Int))=true by simp;omega,cond_true]
   simp only [Option.bind_some]
   cases decide ((i:Int)<4000) with
   | false=>exact .inr ⟨_,rfl,trivial⟩
   | true =>
    rw [cond_true,PD hl]
    exact .inl ⟨_,rfl,PF hl (by omega),hl⟩
  ·rw [show decide ((i:Int)<(a.length:Int))=false by simp;omega]
   exact .inr ⟨_,rfl,trivial⟩) n (by unfold PY at hn;omega) (Pe (275275+(a.length:Int)),0) rfl
 unfold SP
 rw [e]
 exact ⟨r.1,rfl⟩
theorem Wn (a:List Int) (ha:a.length≤1048576) (m:Int) (hm:0≤m):∃ r:Int,R6 a m=some r∧0≤r∧r≤m:=by
 unfold R6
 have e:Int.tdiv (a.length:Int) 12=((a.length / 12:Nat):Int):=by rw [Int.tdiv_eq_ediv_of_nonneg (by omega)];omega
 rw [e,PS (n:=((a.length / 12:Nat):Int)) (by omega) (by omega),PS (n:=3+((a.length / 12:Nat):Int)) (by omega) (by omega)]
 by_cases h:3+((a.length / 12:Nat):Int)>m
 ·rw [show decide (3+((a.length / 12:Nat):Int)>m)=true by simpa using h]
  exact ⟨m,rfl,hm,Int.le_refl _⟩
 ·rw [show decide (3+((a.length / 12:Nat):Int)>m)=false by simpa using h]
  exact ⟨_,rfl,by omega,by omega⟩
theorem Tu {β:Type} (f:Int→Option (Int⊕(Int⊕Int))) (xs:List β) (P:β→Bool) (hs:∀ (i:Nat) (x:β),i<xs.length→xs[i]? = some x→f (i:Int)=some (bif P x then .inr (.inr (i:Int)) else .inl ((i+1:Nat):Int)))
  (he:f (xs.length:Int)=some (.inr (.inl (xs.length:Int)))):∀ n,xs.length<n→iter n f 0=some (.inl (xs.length:Int))∨∃ i,∃ h:i<xs.length,P xs[i]=true∧iter n f 0=some (.inr (i:Int)):=by
 have key:∀ d i n,i+d=xs.length→d<n→iter n f (i:Int)=some (.inl (xs.length:Int))∨∃ j,∃ h:j<xs.length,P xs[j]=true∧iter n f (i:Int)=some (.inr (j:Int)):=by
  intro d
  induction d with
  | zero =>
   intro i n hi hn
   obtain ⟨n,rfl⟩:∃ k,n=k+1:=⟨n - 1,by omega⟩
   have:i=xs.length:=by omega
   subst this
   exact .inl (Pf he n)
  | succ d ih =>
   intro i n hi hn
   obtain ⟨n,rfl⟩:∃ k,n=k+1:=⟨n - 1,by omega⟩
   have hlt:i<xs.length:=by omega
   have hf:=hs i xs[i] hlt (List.getElem?_eq_getElem hlt)
   cases hp:P xs[i] with
   | true=>rw [hp,cond_true] at hf;exact .inr ⟨i,hlt,hp,Pf hf n⟩
   | false=>rw [hp,cond_false] at hf;rw [QW hf n];exact ih (i+1) n (by omega) (by omega)
 exact fun n hn=>key xs.length 0 n (by omega) hn
theorem RS (a0:Int) (a:List PA) (h:a.length≤1048576) (c:Int) (n:Nat) (hn:PY≤n):QY n a0 a c=some (-1)∨∃ i,i<a.length∧QY n a0 a c=some (i:Int):=by
 have:=Tu (RR a c) a (fun x=>x.1==c) (fun i x h1 h2=>by
  have hx:a[i]=x:=by rw [List.getElem?_eq_getElem h1] at h2;exact Option.some.inj h2
  simp only [RR,PD h1,hx,Option.bind_some,PF h1 (by omega)]
  rw [show decide ((i:Int)<(a.length:Int))=true by simpa using h1]
  cases hq:(x.1==c) <;> rfl) (by simp [RR]) n (by unfold PY at hn;omega)
 unfold QY
 rcases this with e | ⟨i,hi,_,e⟩
 ·rw [e];exact .inl rfl
 ·rw [e];exact .inr ⟨i,hi,rfl⟩
theorem TC (a:PA) (h:TB a):QJ a.1 a.2.1 a.2.2.1 a.2.2.2.1 a.2.2.2.2=some a:=by
 obtain ⟨h1,h2⟩:=h
 unfold QJ
 simp [Tc h1,Tc h2]
theorem SV (a:PA) (h:TB a):QP a.1 a.2.1 a.2.2.1 a.2.2.2.1 a.2.2.2.2=some a:=by
 obtain ⟨h1,h2⟩:=h
 unfold QP Pj Rj
 simp [Tc h1,Tc h2]
theorem TU:Pr=Pd:=rfl
theorem WV (a b c:Int):Pd a b c=some (decide (b≤a)&&decide (a≤c)):=by
 unfold Pd
 by_cases h:a≥b <;> simp [h]
theorem V8 (n:Nat) (a:List (Int×Int)):QE n a=Pk n a:=by
 have h:SB a=PX a:=by
  funext i
  unfold SB PX
  rw [TU]
  cases decide (i<(a.length:Int)) with
  | false=>rfl
  | true =>
   cases hg:ND a i with
   | none=>simp [hg]
   | some x=>simp [hg]
 unfold QE Pk
 rw [h]
theorem TZ {γ:Type} (f:Int→Option (Int⊕γ)) (m:Nat) (hs:∀ i:Nat,i<m→f (i:Int)=some (.inl ((i+1:Nat):Int))∨∃ r,f (i:Int)=some (.inr r)) (he:∃ r,f (m:Int)=some (.inr r)):∀ n,m<n→∃ r,iter n f 0=some r:=by
 have key:∀ d i n,i+d=m→d<n→∃ r,iter n f (i:Int)=some r:=by
  intro d
  induction d with
  | zero =>
   intro i n hi hn
   obtain ⟨n,rfl⟩:∃ k,n=k+1:=⟨n - 1,by omega⟩
   have:i=m:=by omega
   subst this
   obtain ⟨r,hr⟩:=he
   exact ⟨r,Pf hr n⟩
  | succ d ih =>
   intro i n hi hn
   obtain ⟨n,rfl⟩:∃ k,n=k+1:=⟨n - 1,by omega⟩
   rcases hs i (by omega) with h | ⟨r,h⟩
   ·rw [QW h n];exact ih (i+1) n (by omega) (by omega)
   ·exact ⟨r,Pf h n⟩
 intro n hn
 exact key m 0 n (by omega) hn
theorem VK (n:Nat) (hn:PY≤n) (a:List (Int×Int)) (ha:a.length≤1048576):∃ b,Pk n a=some b:=by
 obtain ⟨r,hr⟩:=TZ (PX a) a.length (fun i hi=>by
  unfold PX
  rw [show decide ((i:Int)<(a.length:Int))=true by simp only [decide_eq_true_eq];omega,cond_true,PD hi,PF hi (by omega)]
  simp only [Option.bind_some,WV]
  by_cases h0:i=0
  ·subst h0
   simp
   cases decide (1≤(a[0]).1) <;> cases decide ((a[0]).1≤50) <;> cases decide (1≤(a[0]).2) <;> cases decide ((a[0]).2≤1000) <;> simp
  ·obtain ⟨j,rfl⟩:∃ j,i=j+1:=⟨i - 1,by omega⟩
   have e:Pe (((j+1:Nat):Int) - 1)=(j:Int):=by rw [PS (by omega) (by omega)];omega
   rw [e,PD (by omega:j<a.length)]
   simp only [Option.bind_some]
   have e2:decide (((j+1:Nat):Int)>0)=true:=by simp only [decide_eq_true_eq];omega
   rw [e2]
   generalize (decide (1≤(a[j+1]).1)&&decide ((a[j+1]).1≤50))=b1
   generalize (decide (1≤(a[j+1]).2)&&decide ((a[j+1]).2≤1000))=b2
   generalize decide ((a[j]).1≥(a[j+1]).1)=b3
   cases b1 <;> cases b2 <;> cases b3 <;> simp) (by unfold PX;simp) n (by unfold PY at hn;omega)
 unfold Pk
 rw [hr]
 cases r with
 | inl k=>exact ⟨_,rfl⟩
 | inr b=>exact ⟨_,rfl⟩
theorem RU {α:Type} (f:α→Option (α⊕(α⊕Bool))) (st:Nat→α) (m:Nat) (P:Nat→Bool) (hs:∀ i,i<m→f (st i)=some (bif P i then .inl (st (i+1)) else .inr (.inr false))) (he:f (st m)=some (.inr (.inl (st m)))) :
  ∀ n,m<n→iter n f (st 0)=some (bif (List.range m).all P then .inl (st m) else .inr false):=by
 have key:∀ d i n,i+d=m→d<n→iter n f (st i)=some (bif (List.range' i d).all P then .inl (st m) else .inr false):=by
  intro d
  induction d with
  | zero =>
   intro i n hi hn
   obtain ⟨n,rfl⟩:∃ k,n=k+1:=⟨n - 1,by omega⟩
   have:i=m:=by omega
   subst this
   rw [Pf he n];rfl
  | succ d ih =>
   intro i n hi hn
   obtain ⟨n,rfl⟩:∃ k,n=k+1:=⟨n - 1,by omega⟩
   have hf:=hs i (by omega)
   rw [List.range'_succ,List.all_cons]
   cases hp:P i with
   | true=>rw [hp,cond_true] at hf;rw [QW hf n,ih (i+1) n (by omega) (by omega)];rfl
   | false=>rw [hp,cond_false] at hf;rw [Pf hf n];rfl
 intro n hn
 rw [List.range_eq_range']
 exact key m 0 n (by omega) hn
theorem WJ (f:Int→Option (Int⊕Int)) (m:Nat) (P:Nat→Bool) (hs:∀ i,i<m→f (i:Int)=some (bif P i then .inl ((i+1:Nat):Int) else .inr (i:Int))) (he:f (m:Int)=some (.inr (m:Int))) :
  ∀ n,m<n→∃ j,j≤m∧iter n f 0=some (j:Int)∧(∀ i,i<j→P i=true)∧(j<m→P j=false):=by
 have key:∀ d i n,i+d=m→d<n→∃ j,i≤j∧j≤m∧iter n f (i:Int)=some (j:Int)∧(∀ q,i≤q→q<j→P q=true)∧(j<m→P j=false):=by
  intro d
  induction d with
  | zero =>
   intro i n hi hn
   obtain ⟨n,rfl⟩:∃ k,n=k+1:=⟨n - 1,by omega⟩
   have:i=m:=by omega
   subst this
   exact ⟨i,Nat.le_refl _,Nat.le_refl _,Pf he n,fun q h1 h2=>by omega,fun h=>by omega⟩
  | succ d ih =>
   intro i n hi hn
   obtain ⟨n,rfl⟩:∃ k,n=k+1:=⟨n - 1,by omega⟩
   have hf:=hs i (by omega)
   cases hp:P i with
   | true =>
    rw [hp,cond_true] at hf
    obtain ⟨j,h1,h2,h3,h4,h5⟩:=ih (i+1) n (by omega) (by omega)
    refine ⟨j,by omega,h2,by rw [QW hf n];exact h3,fun q q1 q2 => ?_,h5⟩
    by_cases e:q=i
    ·subst e;exact hp
    ·exact h4 q (by omega) q2
   | false=>rw [hp,cond_false] at hf;exact ⟨i,Nat.le_refl _,by omega,Pf hf n,fun q h1 h2=>by omega,fun _=>hp⟩
 intro n hn
 obtain ⟨j,_,h2,h3,h4,h5⟩:=key m 0 n (by omega) hn
 exact ⟨j,h2,h3,fun i hi=>h4 i (by omega) hi,h5⟩
theorem Vv {β:Type} {a:List β} {i j:Nat} {y:β} (h:j<(a.take i).length) (hy:(a.take i)[j]? = some y):j<i∧∃ h:j<a.length,a[j]=y:=by
 rw [List.length_take] at h
 rw [List.getElem?_take,if_pos (by omega),List.getElem?_eq_getElem (by omega)] at hy
 exact ⟨by omega,by omega,Option.some.inj hy⟩
def P4 {β:Type} (key:β→Int) (a:List β) (i:Nat) (x:β):Bool:=match i with
 | 0=>true
 | j+1=>match a[j]? with
  | some y => !decide (key y≥key x)
  | none=>true
theorem Ss {β γ:Type} (key:β→Int) (a:List β) (x:β) (i:Nat) (hi:i<a.length) (hl:a.length≤1048576) (F:Bool→Option γ) :
  (bif decide ((i:Int)>0) then (ND a (Pe ((i:Int) - 1))).bind (fun y=>F (decide (key y≥key x))) else F false)=F (!P4 key a i x):=by
 cases i with
 | zero=>rfl
 | succ j =>
  have hw:Pe (((j+1:Nat):Int) - 1)=(j:Int):=by rw [PS (by omega) (by omega)];omega
  rw [show decide (((j+1:Nat):Int)>0)=true by rw [decide_eq_true_eq];omega,cond_true,hw,PD (by omega),Option.bind_some]
  simp only [P4,List.getElem?_eq_getElem (show j<a.length by omega),Bool.not_not]
def Pp (a b c:Int):Bool:=decide (b≤a)&&decide (a≤c)
theorem Qc (a b c:Int):Pd a b c=some (Pp a b c):=WV a b c
def SF (l:List PB) (i:Nat):Bool:=match l[i]? with
 | none=>false
 | some x=>Pp x.1 1 50&&Pp x.2.1 1 1000&&Pp x.2.2 0 x.2.1&&P4 (·.1) l i x
def Qw (l:List PB):Bool:=(List.range l.length).all (SF l)&&decide (l.length≤8)
abbrev PV:=Int×Int×List PB
def Tm (a:List PV) (i:Nat):Bool:=match a[i]? with
 | none=>false
 | some x=>Pp x.1 1 999&&Pp x.2.1 0 99&&Qw x.2.2&&P4 (·.1) a i x&&(a.take i).all fun y => !(y.2.1==x.2.1)
def Pw (a:List PV):Bool:=decide (a.length≤12)&&(List.range a.length).all (Tm a)
theorem UA (l:List PB) (hl:l.length≤1048576) (n:Nat) (hn:PY≤n):RF n l=some (Qw l):=by
 have:=RU (Q4 l) (fun i=>(i:Int)) l.length (SF l) (fun i hi=>by
  have hp:(bif decide ((i:Int)>0) then (ND l (Pe ((i:Int) - 1))).bind (fun y=>some (decide (y.1≥l[i].1))) else some false)=some (!P4 (·.1) l i l[i]):=Ss (·.1) l l[i] i hi hl some
  simp only [Q4,SF,PD hi,List.getElem?_eq_getElem hi,Option.bind_some,Qc,PF hi (by omega),hp]
  rw [show decide ((i:Int)<(l.length:Int))=true by simpa using hi]
  generalize l[i]=x
  generalize P4 (·.1) l i x=b4
  cases Pp x.1 1 50 <;> cases Pp x.2.1 1 1000 <;> cases Pp x.2.2 0 x.2.1 <;> cases b4 <;> rfl) (by simp [Q4]) n (by unfold PY at hn;omega)
 unfold RF Qw
 rw [show ((0:Nat):Int)=0 from rfl] at this
 rw [this]
 rw [show decide ((l.length:Int)≤8)=decide (l.length≤8) by rw [Bool.eq_iff_iff];simp;omega]
 cases (List.range l.length).all (SF l) <;> rfl
theorem UM (a:List PV) (hl:a.length≤1048576) (i:Nat) (hi:i<a.length) (x:PV) (n:Nat) (hn:PY≤n) :
  iter n (QD a (i:Int) x) 0=some (bif (a.take i).all fun y => !(y.2.1==x.2.1) then .inl (i:Int) else .inr false):=by
 have hlen:(a.take i).length=i:=by simp;omega
 have:=SK (QD a (i:Int) x) (a.take i) (fun y => !(y.2.1==x.2.1)) (fun j y h1 h2=>by
  obtain ⟨hj,hj2,hy⟩:=Vv h1 h2
  simp only [QD,PD hj2,hy,Option.bind_some,PF hj2 (by omega)]
  rw [show decide ((j:Int)<(i:Int))=true by rw [decide_eq_true_eq];omega]
  cases (y.2.1==x.2.1) <;> rfl) (by first | (simp [QD,hlen];done) | (simp [QD,hlen];omega)) n (by unfold PY at hn;omega)
 rw [hlen] at this
 exact this
theorem Pl (a:List PV) (hs:Pc a) (n:Nat) (hn:PY≤n):QI n a=some (Pw a):=by
 have hl:a.length≤1048576:=hs.1
 have:=RU (RN n a) (fun i=>(i:Int)) a.length (Tm a) (fun i hi=>by
  have hp:(bif decide ((i:Int)>0) then (ND a (Pe ((i:Int) - 1))).bind (fun y=>some (decide (y.1≥a[i].1))) else some false)=some (!P4 (·.1) a i a[i]):=Ss (·.1) a a[i] i hi hl some
  have hst:a[i].2.2.length≤1048576:=hs.2 _ (List.getElem_mem hi)
  simp only [RN,Tm,PD hi,List.getElem?_eq_getElem hi,Option.bind_some,Qc,PF hi (by omega),hp,UA _ hst n hn,UM a hl i hi a[i] n hn]
  rw [show decide ((i:Int)<(a.length:Int))=true by simpa using hi]
  generalize a[i]=x
  generalize ((a.take i).all fun y => !(y.2.1==x.2.1))=b5
  generalize P4 (·.1) a i x=b4
  cases Pp x.1 1 999 <;> cases Pp x.2.1 0 99 <;> cases Qw x.2.2 <;> cases b4 <;> cases b5 <;> rfl) (by simp [RN]) n (by unfold PY at hn;omega)
 unfold QI Pw
 rw [show ((0:Nat):Int)=0 from rfl] at this
 rw [this,show decide ((a.length:Int)>12) = !decide (a.length≤12) by by_cases q:a.length≤12 <;> simp [q] <;> omega]
 cases decide (a.length≤12) <;> cases (List.range a.length).all (Tm a) <;> rfl
theorem Ur (p:PV) (hl:p.2.2.length≤1048576) (n:Nat) (hn:PY≤n):SO n p.1 p.2.1 p.2.2=some (Pp p.1 1 999&&Pp p.2.1 0 99&&Qw p.2.2):=by
 have:=RU (R0 p.2.2) (fun i=>(i:Int)) p.2.2.length (SF p.2.2) (fun i hi=>by
  have hp:(bif decide ((i:Int)>0) then (ND p.2.2 (Pe ((i:Int) - 1))).bind (fun y=>some (decide (y.1≥p.2.2[i].1))) else some false)=some (!P4 (·.1) p.2.2 i p.2.2[i]):=Ss (·.1) p.2.2 p.2.2[i] i hi hl some
  simp only [R0,SF,PD hi,List.getElem?_eq_getElem hi,Option.bind_some,TU,Qc,PF hi (by omega),hp]
  rw [show decide ((i:Int)<(p.2.2.length:Int))=true by simpa using hi]
  generalize p.2.2[i]=x
  generalize P4 (·.1) p.2.2 i x=b4
  cases Pp x.1 1 50 <;> cases Pp x.2.1 1 1000 <;> cases Pp x.2.2 0 x.2.1 <;> cases b4 <;> rfl) (by simp [R0]) n (by unfold PY at hn;omega)
 unfold SO Qw
 rw [show ((0:Nat):Int)=0 from rfl] at this
 rw [this,show decide ((p.2.2.length:Int)>8) = !decide (p.2.2.length≤8) by by_cases q:p.2.2.length≤8 <;> simp [q] <;> omega]
 simp only [TU,Qc,Option.bind_some]
 cases Pp p.1 1 999 <;> cases Pp p.2.1 0 99 <;> cases decide (p.2.2.length≤8) <;> cases (List.range p.2.2.length).all (SF p.2.2) <;> rfl
theorem UJ (a:List PV) (hl:a.length≤1048576) (i:Nat) (hi:i<a.length) (x:PV) (n:Nat) (hn:PY≤n) :
  iter n (Qb a (i:Int) x) 0=some (bif (a.take i).all fun y => !(y.2.1==x.2.1) then .inl (i:Int) else .inr false):=by
 have hsub:sub a (Int.toNat (0:Int)) (Int.toNat (i:Int))=a.take i:=by simp [sub]
 have hlen:(a.take i).length=i:=by simp;omega
 have:=SK (Qb a (i:Int) x) (a.take i) (fun y => !(y.2.1==x.2.1)) (fun j y h1 h2=>by
  obtain ⟨hj,hj2,hy⟩:=Vv h1 h2
  simp only [Qb,hsub,UU,h2,Option.bind_some,PF hj2 (by omega),hlen]
  rw [show decide ((j:Int)<(i:Int))=true by rw [decide_eq_true_eq];omega]
  cases (y.2.1==x.2.1) <;> rfl) (by simp only [Qb,hsub,hlen];simp) n (by unfold PY at hn;omega)
 rw [hlen] at this
 exact this
theorem Pz (a:List PV) (hs:Pc a) (n:Nat) (hn:PY≤n):P1 n a=some (Pw a):=by
 have hl:a.length≤1048576:=hs.1
 have:=RU (RG n a) (fun i=>(i:Int)) a.length (Tm a) (fun i hi=>by
  have hp:(bif decide ((i:Int)>0) then (ND a (Pe ((i:Int) - 1))).bind (fun y=>some (decide (y.1≥a[i].1))) else some false)=some (!P4 (·.1) a i a[i]):=Ss (·.1) a a[i] i hi hl some
  have hst:a[i].2.2.length≤1048576:=hs.2 _ (List.getElem_mem hi)
  have hr:(decide (0≤(0:Int))&&decide ((0:Int)≤(i:Int))&&decide ((i:Int)≤(a.length:Int)))=true:=by simp;omega
  simp only [RG,Tm,PD hi,List.getElem?_eq_getElem hi,Option.bind_some,PF hi (by omega),hp,Ur _ hst n hn,UJ a hl i hi a[i] n hn,hr]
  rw [show decide ((i:Int)<(a.length:Int))=true by simpa using hi]
  generalize a[i]=x
  generalize ((a.take i).all fun y => !(y.2.1==x.2.1))=b5
  generalize P4 (·.1) a i x=b4
  cases Pp x.1 1 999 <;> cases Pp x.2.1 0 99 <;> cases Qw x.2.2 <;> cases b4 <;> cases b5 <;> rfl) (by simp [RG]) n (by unfold PY at hn;omega)
 unfold P1 Pw
 rw [show ((0:Nat):Int)=0 from rfl] at this
 rw [this]
 rw [show decide ((a.length:Int)≤12)=decide (a.length≤12) by rw [Bool.eq_iff_iff];simp;omega]
 cases decide (a.length≤12) <;> cases (List.range a.length).all (Tm a) <;> rfl
theorem PO (a:List PV) (hs:Pc a) (n:Nat) (hn:PY≤n):PW n a=some a:=by
 have hl:a.length≤1048576:=hs.1
 have hc:=Pm (σ:=List PV) (Rp a) (fun i s=>((i:Int),s)) a (fun l s=>((a.length:Int),s++l)) (fun i s=>s.length=i)
  (fun s hs=>by simp [Rp])
  (fun i x l s h1 h2 h3 h4 h5=>by
   left
   have hx:a[i]=x:=by rw [List.getElem?_eq_getElem h1] at h2;exact Option.some.inj h2
   have hst:x.2.2.length≤1048576:=by rw [← hx];exact hs.2 _ (List.getElem_mem h1)
   have hr:decide (s.length+1≤DZ)=true:=S0 (by omega)
   exact ⟨s++[x],by simp [Rp,h1,PD h1,hx,Tc hst,hr,PF h1 (by omega)],by simp [h5],by simp⟩)
  n (by unfold PY at hn;omega) [] rfl
 unfold PW
 rw [show ((0:Nat):Int)=0 from rfl] at hc
 rw [hc];rfl
theorem Pa (a:List PV) (hs:Pc a) (n:Nat) (hn:PY≤n):PR n a=some a:=by
 have hl:a.length≤1048576:=hs.1
 have hc:=Pm (σ:=List PV) (Qj a) (fun i s=>((i:Int),s)) a (fun l s=>((a.length:Int),s++l)) (fun i s=>s.length=i)
  (fun s hs=>by simp [Qj])
  (fun i x l s h1 h2 h3 h4 h5=>by
   left
   have hx:a[i]=x:=by rw [List.getElem?_eq_getElem h1] at h2;exact Option.some.inj h2
   have hst:x.2.2.length≤1048576:=by rw [← hx];exact hs.2 _ (List.getElem_mem h1)
   have hr:decide (s.length+1≤DZ)=true:=S0 (by omega)
   exact ⟨s++[x],by simp [Qj,h1,PD h1,hx,Tc hst,hr,PF h1 (by omega)],by simp [h5],by simp⟩)
  n (by unfold PY at hn;omega) [] rfl
 unfold PR
 rw [show ((0:Nat):Int)=0 from rfl] at hc
 rw [hc];rfl
theorem U0 (b:List Int) (i h:Int) (hi:0≤i) (hb:b.length≤1048576) (n:Int):∃ (x:Bool) (i' h':Int),RZ b i h n=some (x,b,i',h')∧0≤i':=by
 obtain ⟨x,i',h',e,hi',_⟩:=QL b i h hi hb n
 unfold RZ
 rw [e]
 exact ⟨_,_,_,rfl,hi'⟩
theorem UX (b:List Int) (i h:Int) (hi:0≤i) (hb:b.length≤1048576) (xs:List Int) (hx:0<xs.length):∃ x i' h':Int,Ph b i h xs=some (x,b,i',h')∧0≤i'∧x∈xs:=by
 obtain ⟨x,i',h',e,hi',x0,x1⟩:=QL b i h hi hb (xs.length:Int)
 unfold Ph
 rw [e,Option.bind_some]
 obtain ⟨k,rfl⟩:∃ k:Nat,x=(k:Int):=⟨x.toNat,by omega⟩
 have hk:k<xs.length:=by omega
 dsimp only
 rw [PD hk,Option.bind_some]
 exact ⟨_,_,_,rfl,hi',List.getElem_mem hk⟩
def R3 (l:List PB):Prop:=l.Pairwise (fun a b=>a.1<b.1)∧(∀ x∈l,1≤x.1∧x.1≤50∧1≤x.2.1∧x.2.1≤1000∧0≤x.2.2∧x.2.2≤x.2.1)∧l.length≤8
def PE (a:List PV):Prop:=a.length≤12∧a.Pairwise (fun x y=>x.1<y.1∧x.2.1≠y.2.1)∧∀ p∈a,(1≤p.1∧p.1≤999)∧(0≤p.2.1∧p.2.1≤99)∧R3 p.2.2
theorem TA {β:Type} {key:β→Int} {a:List β} {R:β→β→Prop} (h:a.Pairwise R) (hR:∀ x y,R x y→key x<key y) (i:Nat) (hi:i<a.length):P4 key a i a[i]=true:=by
 cases i with
 | zero=>rfl
 | succ j =>
  have:=hR _ _ (List.pairwise_iff_getElem.1 h j (j+1) (by omega) hi (by omega))
  simp only [P4,List.getElem?_eq_getElem (show j<a.length by omega)]
  simpa using this
theorem R3.ok {l:List PB} (h:R3 l):Qw l=true:=by
 obtain ⟨h1,h2,h3⟩:=h
 unfold Qw
 simp only [Bool.and_eq_true,List.all_eq_true,List.mem_range,decide_eq_true_eq]
 refine ⟨fun i hi => ?_,h3⟩
 obtain ⟨a1,a2,a3,a4,a5,a6⟩:=h2 _ (List.getElem_mem hi)
 simp only [SF,List.getElem?_eq_getElem hi,TA h1 (fun x y h=>h) i hi,Pp,Bool.and_eq_true,decide_eq_true_eq]
 exact ⟨⟨⟨⟨a1,a2⟩,a3,a4⟩,a5,a6⟩,trivial⟩
theorem PE.ok {a:List PV} (h:PE a):Pw a=true:=by
 obtain ⟨h1,h2,h3⟩:=h
 unfold Pw
 simp only [Bool.and_eq_true,List.all_eq_true,List.mem_range,decide_eq_true_eq]
 refine ⟨h1,fun i hi => ?_⟩
 obtain ⟨⟨a1,a2⟩,⟨a3,a4⟩,a5⟩:=h3 _ (List.getElem_mem hi)
 have hp:=TA (key:=(·.1)) h2 (fun x y h=>h.1) i hi
 have hh:((a.take i).all fun y => !(y.2.1==a[i].2.1))=true:=List.all_eq_true.2 fun y hy=>by
  obtain ⟨j,hj,rfl⟩:=List.getElem_of_mem hy
  have hj':j<i:=by rw [List.length_take] at hj;omega
  have:=(List.pairwise_iff_getElem.1 h2 j i (by omega) hi hj').2
  rw [List.getElem_take]
  simpa using this
 simp only [Tm,List.getElem?_eq_getElem hi,hp,hh,a5.ok,Pp,Bool.and_eq_true,decide_eq_true_eq]
 exact ⟨⟨⟨⟨⟨a1,a2⟩,a3,a4⟩,trivial⟩,trivial⟩,trivial⟩
theorem PE.sm {a:List PV} (h:PE a):Pc a:=⟨by have:=h.1;omega,fun y hy=>by show y.2.2.length≤_;have:=(h.2.2 y hy).2.2.2.2;omega⟩
theorem Wp (n:Nat) (hn:PY≤n) (b:List Int) (hb:b.length≤1048576) (ci ch:Int) (hci:0≤ci) (id home:Int) :
  ∃ (c:Int) (ci' ch':Int) (l:List PB),iter n QR (1,b,ci,ch,id,home,([]:List PB))=some (c,b,ci',ch',id,home,l)∧0≤ci'∧R3 l:=by
 obtain ⟨_,r,e,hr⟩:=Qs QR QR (fun i (x:Int×(List Int)×Int×Int×Int×Int×(List PB))=>x.1=(i:Int)+1∧i≤5∧x.2.1=b∧0≤x.2.2.1∧x.2.2.2.2.1=id∧x.2.2.2.2.2.1=home∧x.2.2.2.2.2.2.Pairwise (fun a b=>a.1<b.1)∧(∀ y∈x.2.2.2.2.2.2,1≤y.1∧y.1≤(i:Int)∧1≤y.2.1∧y.2.1≤1000∧0≤y.2.2∧y.2.2≤y.2.1)∧x.2.2.2.2.2.2.length≤i)
  (fun r=>r.2.1=b∧0≤r.2.2.1∧r.2.2.2.2.1=id∧r.2.2.2.2.2.1=home∧R3 r.2.2.2.2.2.2) 5 (fun i x hi hI=>by
  refine ⟨rfl, ?_⟩
  obtain ⟨s,b0,ci,ch,id0,home0,l⟩:=x
  obtain ⟨h1,h2,h3,h4,h5,h6,h7,h8,h9⟩:=hI
  dsimp only at h1 h3 h4 h5 h6 h7 h8 h9
  subst h1;subst h3;subst h5;subst h6
  by_cases h5:i<5
  ·left
   obtain ⟨v,i1,g1,e1,j1,m1⟩:=UX b0 ci ch h4 hb [0,0,1,3,5,12] (by simp)
   have hv:0≤v∧v≤12:=by
    simp at m1
    omega
   unfold QR
   dsimp only
   rw [show decide ((i:Int)+1<6)=true by simp;omega,cond_true,e1,Option.bind_some]
   dsimp only
   rw [PS (n:=(i:Int)+1+1) (by omega) (by omega)]
   by_cases hv0:v>0
   ·rw [show decide (v>0)=true by simpa using hv0,cond_true,PS (n:=v+1) (by omega) (by omega)]
    obtain ⟨u,i2,g2,e2,j2,u0,u1⟩:=QL b0 i1 g1 j1 hb (v+1)
    rw [e2,Option.bind_some]
    dsimp only
    obtain ⟨t,i3,g3,e3,j3,m3⟩:=UX b0 i2 g2 j2 hb [0,0,0,u] (by simp)
    have ht:0≤t∧t≤v:=by
     simp at m3
     omega
    rw [e3,Option.bind_some]
    dsimp only
    rw [show decide (l.length+[((i:Int)+1,v,t)].length≤DZ)=true from S0 (by omega),cond_true,Option.bind_some]
    refine ⟨_,rfl,⟨by show (i:Int)+1+1=((i+1:Nat):Int)+1;omega,by omega,rfl,j3,rfl,rfl, ?_, ?_, ?_⟩,h5⟩
    ·refine List.pairwise_append.2 ⟨h7,List.pairwise_singleton _ _,fun x hx y hy => ?_⟩
     rw [List.mem_singleton.1 hy]
     have:=h8 x hx
     show x.1<(i:Int)+1
     omega
    ·intro y hy
     rcases List.mem_append.1 hy with hy | hy
     ·obtain ⟨q1,q2,q3⟩:=h8 y hy
      exact ⟨q1,by omega,q3⟩
     ·rw [List.mem_singleton.1 hy]
      refine ⟨by show 1≤(i:Int)+1;omega,by show (i:Int)+1≤((i+1:Nat):Int);omega,by show 1≤v;omega,by show v≤1000;omega,ht.1,ht.2⟩
    ·show (l++[_]).length≤i+1
     rw [List.length_append,List.length_singleton];omega
   ·rw [show decide (v>0)=false by simpa using hv0,cond_false,Option.bind_some]
    refine ⟨_,rfl,⟨by show (i:Int)+1+1=((i+1:Nat):Int)+1;omega,by omega,rfl,j1,rfl,rfl,h7,fun y hy => ?_,by show l.length≤i+1;omega⟩,h5⟩
    obtain ⟨q1,q2,q3⟩:=h8 y hy
    exact ⟨q1,by omega,q3⟩
  ·right
   have:i=5:=by omega
   subst this
   refine ⟨_,by unfold QR;rfl,rfl,h4,rfl,rfl,h7,fun y hy => ?_,by show l.length≤8;omega⟩
   obtain ⟨q1,q2,q3⟩:=h8 y hy
   exact ⟨q1,by omega,q3⟩) n (by unfold PY at hn;omega) (1,b,ci,ch,id,home,([]:List PB)) ⟨rfl,by omega,rfl,hci,rfl,rfl,List.Pairwise.nil,(fun y hy=>by cases hy),by simp⟩
 obtain ⟨c,b0,ci',ch',id0,home0,l⟩:=r
 obtain ⟨h1,h2,h3,h4,h5⟩:=hr
 dsimp only at h1 h2 h3 h4 h5
 subst h1;subst h3;subst h4
 exact ⟨c,ci',ch',l,e,h2,h5⟩
theorem Wq (n:Nat) (hn:PY≤n) (b:List Int) (hb:b.length≤1048576) (ci ch:Int) (hci:0≤ci) :
  ∃ (s:List PV) (ci' ch':Int),R8 n b ci ch=some (s,b,ci',ch')∧0≤ci'∧PE s:=by
 obtain ⟨_,r,e,hr⟩:=Qs (Qu n) (Qu n) (fun i (x:Int×(List Int)×Int×Int×(List PV))=>x.1=(i:Int)+1∧i≤5∧x.2.1=b∧0≤x.2.2.1∧x.2.2.2.2.length≤i∧x.2.2.2.2.Pairwise (fun x y=>x.1<y.1∧x.2.1≠y.2.1)∧∀ p∈x.2.2.2.2,(1≤p.1∧p.1≤10 * (i:Int))∧(20 - (i:Int)≤p.2.1∧p.2.1≤19)∧R3 p.2.2)
  (fun r=>r.2.1=b∧0≤r.2.2.1∧PE r.2.2.2.2) 5 (fun i x hi hI=>by
  refine ⟨rfl, ?_⟩
  obtain ⟨s,b0,ci,ch,l⟩:=x
  obtain ⟨h1,h2,h3,h4,h5,h6,h7⟩:=hI
  dsimp only at h1 h3 h4 h5 h6 h7
  subst h1;subst h3
  by_cases hlt:i<5
  ·left
   obtain ⟨v,i1,g1,e1,j1⟩:=U0 b0 ci ch h4 hb 4
   unfold Qu
   dsimp only
   rw [show decide ((i:Int)+1<6)=true by simp;omega,cond_true,e1,Option.bind_some]
   dsimp only
   rw [PS (n:=(i:Int)+1+1) (by omega) (by omega)]
   have more:∀ p∈l,(1≤p.1∧p.1≤10 * ((i+1:Nat):Int))∧(20 - ((i+1:Nat):Int)≤p.2.1∧p.2.1≤19)∧R3 p.2.2:=fun p hp=>by
    obtain ⟨⟨q1,q2⟩,⟨q3,q4⟩,q5⟩:=h7 p hp
    exact ⟨⟨q1,by omega⟩,⟨by omega,q4⟩,q5⟩
   cases v with
   | true =>
    rw [cond_true,Option.bind_some]
    exact ⟨_,rfl,⟨by show (i:Int)+1+1=((i+1:Nat):Int)+1;omega,by omega,rfl,j1,by show l.length≤i+1;omega,h6,more⟩,hlt⟩
   | false =>
    rw [cond_false,PS (n:=((i:Int)+1) * 10) (by omega) (by omega),PS (n:=20 - ((i:Int)+1)) (by omega) (by omega)]
    obtain ⟨c,ci',ch',st,e2,j2,hst⟩:=Wp n hn b0 hb i1 g1 j1 (((i:Int)+1) * 10) (20 - ((i:Int)+1))
    rw [e2,Option.bind_some]
    dsimp only
    rw [show decide (l.length+[(((i:Int)+1) * 10,20 - ((i:Int)+1),st)].length≤DZ)=true from S0 (by omega),cond_true,Option.bind_some]
    refine ⟨_,rfl,⟨by show (i:Int)+1+1=((i+1:Nat):Int)+1;omega,by omega,rfl,j2, ?_, ?_, ?_⟩,hlt⟩
    ·show (l++[_]).length≤i+1
     rw [List.length_append,List.length_singleton];omega
    ·refine List.pairwise_append.2 ⟨h6,List.pairwise_singleton _ _,fun x hx y hy => ?_⟩
     rw [List.mem_singleton.1 hy]
     obtain ⟨⟨q1,q2⟩,⟨q3,q4⟩,_⟩:=h7 x hx
     show x.1<((i:Int)+1) * 10∧x.2.1≠20 - ((i:Int)+1)
     omega
    ·intro p hp
     rcases List.mem_append.1 hp with hp | hp
     ·exact more p hp
     ·rw [List.mem_singleton.1 hp]
      refine ⟨⟨by show 1≤((i:Int)+1) * 10;omega,by show ((i:Int)+1) * 10≤10 * ((i+1:Nat):Int);omega⟩,⟨by show 20 - ((i+1:Nat):Int)≤20 - ((i:Int)+1);omega,by show 20 - ((i:Int)+1)≤19;omega⟩,hst⟩
  ·right
   have:i=5:=by omega
   subst this
   refine ⟨_,by unfold Qu;rfl,rfl,h4,by show l.length≤12;omega,h6,fun p hp => ?_⟩
   obtain ⟨⟨q1,q2⟩,⟨q3,q4⟩,q5⟩:=h7 p hp
   exact ⟨⟨q1,by omega⟩,⟨by omega,by omega⟩,q5⟩) n (by unfold PY at hn;omega) (1,b,ci,ch,([]:List PV)) ⟨rfl,by omega,rfl,hci,by simp,List.Pairwise.nil,fun y hy=>by cases hy⟩
 obtain ⟨c,b0,ci',ch',s⟩:=r
 obtain ⟨h1,h2,h3⟩:=hr
 dsimp only at h1 h2 h3
 subst h1
 unfold R8
 rw [e]
 exact ⟨s,ci',ch',rfl,h2,h3⟩
def PK (l:List PB) (k:Int):PB:=match l.find? (fun x=>x.1==k) with
 | some x=>x
 | none=>(k,0,0)
theorem S8 (p:PV) (hl:p.2.2.length≤1048576) (k:Int) (n:Nat) (hn:PY≤n):Q3 n p.1 p.2.1 p.2.2 k=some (PK p.2.2 k):=by
 unfold PK
 have hc:=Pm (σ:=Unit) (Qf p.2.2 k) (fun i _=>((i:Int),(0:Int),(0:Int),(0:Int))) p.2.2 (fun l _=>match l.find? (fun x=>x.1==k) with | some x => .inr x | none => .inl ((p.2.2.length:Int),0,0,0)) (fun _ _=>True)
  (fun s hs=>by simp [Qf])
  (fun i x l s h1 h2 h3 h4 h5=>by
   have hx:p.2.2[i]=x:=by rw [List.getElem?_eq_getElem h1] at h2;exact Option.some.inj h2
   cases hq:(x.1==k) with
   | true=>right;simp [Qf,h1,PD h1,hx,hq]
   | false=>left;exact ⟨(),by simp [Qf,h1,PD h1,hx,hq,PF h1 (by omega)],trivial,by simp [hq]⟩)
  n (by unfold PY at hn;omega) () trivial
 unfold Q3
 rw [show ((0:Nat):Int)=0 from rfl] at hc
 rw [hc]
 cases p.2.2.find? fun x=>x.1==k <;> rfl
def Tn (x:PB) (l:List PB):List PB:=l.map fun y=>bif y.1==x.1 then x else y
theorem U2 (l:List PB) (h:R3 l) (x:PB) (hx:∃ z∈l,z.1=x.1) (h0:(x.2.1==0)=false) (n:Nat) (hn:PY≤n):R9 n l x.1 x.2.1 x.2.2=some (Tn x l):=by
 obtain ⟨x0,x1,x2⟩:=x
 dsimp only at h0 hx ⊢
 have h8:=h.2.2
 have hc:=Pm (σ:=List PB×Bool) (Rq l x0 x1 x2) (fun i s=>(s.1,s.2,(i:Int))) l (fun r s=>(s.1++Tn (x0,x1,x2) r,s.2||r.any (fun z=>z.1==x0),(l.length:Int)))
  (fun i s=>s.1.length≤i∧((s.2=false∧∃ z∈l.drop i,z.1=x0)∨(s.2=true∧∀ z∈l.drop i,z.1≠x0)))
  (fun s hs=>by simp [Rq,Tn])
  (fun i y r s h1 h2 h3 h4 h5=>by
   left
   have hy:l[i]=y:=by rw [List.getElem?_eq_getElem h1] at h2;exact Option.some.inj h2
   obtain ⟨hlen,hs⟩:=h5
   obtain ⟨out,put⟩:=s
   dsimp only at hlen hs ⊢
   rw [h3] at hs
   have hpw:(y::r).Pairwise (fun a b=>a.1<b.1):=h3 ▸ h.1.drop
   have hyr:=(List.pairwise_cons.1 hpw).1
   unfold Rq
   dsimp only
   rw [show decide ((i:Int)<(l.length:Int))=true by simpa using h1,cond_true,PD h1,hy,PF h1 (by omega)]
   simp only [Option.bind_some]
   have r1:∀ (o:List PB) (w:PB),o.length≤i+1→decide (o.length+[w].length≤DZ)=true:=fun o w ho=>S0 (by omega)
   rcases hs with ⟨rfl,z,hz,hzx⟩ | ⟨rfl,hs⟩
   ·simp only [Bool.not_false,cond_true,Option.bind_some]
    by_cases he:y.1=x0
    ·rw [show decide (y.1≥x0)=true by simp;omega,cond_true,r1 out _ (by omega),cond_true,Option.bind_some]
     rw [show (y.1 != x0)=false by simp [he],cond_false,Option.bind_some]
     refine ⟨(out++[(x0,x1,x2)],true),rfl,⟨by show (out++[_]).length≤i+1;rw [List.length_append,List.length_singleton];omega, .inr ⟨rfl,fun w hw => ?_⟩⟩, ?_⟩
     ·have:=hyr w (by rwa [h4] at hw);omega
     ·have:∀ w∈r,(w.1==x0)=false:=fun w hw=>by have:=hyr w hw;rw [← Bool.not_eq_true];simp;omega
      have e1:Tn (x0,x1,x2) r=r:=by
       unfold Tn
       rw [List.map_congr_left (g:=id) fun w hw=>by dsimp only;rw [this w hw];rfl]
       simp
      simp only [Tn,List.map_cons,he,beq_self_eq_true,cond_true,List.any_cons,Bool.true_or,Bool.or_true,List.append_assoc,List.singleton_append]
    ·have hzr:z∈r:=by
      rcases List.mem_cons.1 hz with e | e
      ·subst e;exact absurd hzx he
      ·exact e
     have hlt:=hyr z hzr
     rw [show decide (y.1≥x0)=false by simp;omega,cond_false,Option.bind_some]
     rw [show (y.1 != x0)=true by simpa using he,cond_true,r1 out _ (by omega),cond_true,Option.bind_some]
     refine ⟨(out++[y],false),rfl,⟨by show (out++[_]).length≤i+1;rw [List.length_append,List.length_singleton];omega, .inl ⟨rfl,z,by rw [h4];exact hzr,hzx⟩⟩, ?_⟩
     have hb:(y.1==x0)=false:=by simpa using he
     simp only [Tn,List.map_cons,hb,cond_false,List.any_cons,Bool.false_or,List.append_assoc,List.singleton_append]
   ·simp only [Bool.not_true,cond_false,Option.bind_some]
    have he:y.1≠x0:=hs y List.mem_cons_self
    rw [show (y.1 != x0)=true by simpa using he,cond_true,r1 out _ (by omega),cond_true,Option.bind_some]
    refine ⟨(out++[y],true),rfl,⟨by show (out++[_]).length≤i+1;rw [List.length_append,List.length_singleton];omega, .inr ⟨rfl,fun w hw=>hs w (List.mem_cons_of_mem _ (by rwa [h4] at hw))⟩⟩, ?_⟩
    have hb:(y.1==x0)=false:=by simpa using he
    simp only [Tn,List.map_cons,hb,cond_false,Bool.true_or,List.append_assoc,List.singleton_append])
  n (by unfold PY at hn;omega) (([]:List PB),false) ⟨by simp, .inl ⟨rfl,by simpa using hx⟩⟩
 unfold R9
 rw [h0]
 rw [show ((0:Nat):Int)=0 from rfl] at hc
 rw [hc,Option.bind_some]
 have ha:l.any (fun z=>z.1==x0)=true:=by
  obtain ⟨z,hz,hzx⟩:=hx
  exact List.any_eq_true.2 ⟨z,hz,by simpa using hzx⟩
 simp only [ha,Bool.or_true,Bool.not_true,cond_false,Option.bind_some,List.nil_append]
theorem Yn {l:List PB} (h:R3 l) (x:PB) (hx:1≤x.1∧x.1≤50∧1≤x.2.1∧x.2.1≤1000∧0≤x.2.2∧x.2.2≤x.2.1):R3 (Tn x l):=by
 obtain ⟨h1,h2,h3⟩:=h
 have key:∀ y:PB,(bif y.1==x.1 then x else y).1=y.1:=by
  intro y
  cases hq:(y.1==x.1) with
  | true =>
       have:y.1=x.1:=by simpa using hq
       exact this.symm
  | false=>rfl
 refine ⟨?_,fun z hz => ?_,by unfold Tn;rw [List.length_map];exact h3⟩
 ·unfold Tn
  rw [List.pairwise_map]
  exact h1.imp fun h=>by rw [key,key];exact h
 ·unfold Tn at hz
  obtain ⟨y,hy,rfl⟩:=List.mem_map.1 hz
  cases hq:(y.1==x.1) with
  | true=>exact hx
  | false=>exact h2 y hy
theorem Wv {a:List PV} (h:PE a) (k:Nat) (hk:k<a.length) (l:List PB) (hl:R3 l):PE (a.modify k fun y=>(y.1,y.2.1,l)):=by
 obtain ⟨h1,h2,h3⟩:=h
 refine ⟨by rw [List.length_modify];exact h1, ?_,fun p hp => ?_⟩
 ·rw [List.pairwise_iff_getElem] at h2 ⊢
  intro i j hi hj hij
  rw [List.length_modify] at hi hj
  have:=h2 i j hi hj hij
  rw [List.getElem_modify,List.getElem_modify]
  split <;> split <;> exact this
 ·obtain ⟨i,hi,rfl⟩:=List.getElem_of_mem hp
  rw [List.length_modify] at hi
  have:=h3 _ (List.getElem_mem hi)
  rw [List.getElem_modify]
  split
  ·exact ⟨this.1,this.2.1,hl⟩
  ·exact this
theorem Vb (a:List PV) (h:PE a) (k:Nat) (hk:k<a.length) (x:PB) (hx:1≤x.1∧x.1≤50∧1≤x.2.1∧x.2.1≤1000∧0≤x.2.2∧x.2.2≤x.2.1) (hz:∃ z∈a[k].2.2,z.1=x.1) (n:Nat) (hn:PY≤n) :
  ∃ s,QZ n a (k:Int) x.1 x.2.1 x.2.2=some s∧PE s:=by
 have hst:=(h.2.2 _ (List.getElem_mem hk)).2.2
 unfold QZ
 rw [PO a h.sm n hn,Option.bind_some,Qr hk,cond_true]
 have hg:a[(k:Int).toNat]? = some a[k]:=by simp [hk]
 rw [hg,Option.bind_some,Option.bind_some,U2 a[k].2.2 hst x hz (by rw [← Bool.not_eq_true];simp;omega) n hn,Option.bind_some,cond_true]
 exact ⟨_,rfl,Wv h k hk _ (Yn hst x hx)⟩
theorem XO (a:List PV) (h:a.length≤1048576) (c:Int) (n:Nat) (hn:PY≤n):P0 n a c=some (-1)∨∃ i,i<a.length∧P0 n a c=some (i:Int):=by
 have:=Tu (Pq a c) a (fun x=>x.1==c) (fun i x h1 h2=>by
  have hx:a[i]=x:=by rw [List.getElem?_eq_getElem h1] at h2;exact Option.some.inj h2
  simp only [Pq,PD h1,hx,Option.bind_some,PF h1 (by omega)]
  rw [show decide ((i:Int)<(a.length:Int))=true by simpa using h1]
  cases hq:(x.1==c) <;> rfl) (by simp [Pq]) n (by unfold PY at hn;omega)
 unfold P0
 rcases this with e | ⟨i,hi,_,e⟩
 ·rw [e];exact .inl rfl
 ·rw [e];exact .inr ⟨i,hi,rfl⟩
theorem U1 (a:List PV) (h:PE a) (Pb k m:Int) (n:Nat) (hn:PY≤n) :
  (∃ c,P6 n a Pb k m=some (0,0,0,0,c)∧(c != 0)=true)∨∃ (i:Nat) (hi:i<a.length) (x:PB),P6 n a Pb k m=some ((i:Int),x.1,x.2.1,x.2.2,0)∧1≤m∧m≤1000∧(x∈a[i].2.2∨x.2.1=0∧x.2.2=0):=by
 unfold P6
 rw [Pl a h.sm n hn,h.ok]
 simp only [Option.bind_some,Qc,Bool.not_true,cond_false]
 cases h1:Pp k 1 50 with
 | false=>left;exact ⟨1,rfl,rfl⟩
 | true =>
  cases h2:Pp m 1 1000 with
  | false=>left;exact ⟨1,rfl,rfl⟩
  | true =>
   simp only [Bool.not_true,cond_false,Option.bind_some]
   have h2:1≤m∧m≤1000:=by simpa [Pp] using h2
   rcases XO a h.sm.1 Pb n hn with e | ⟨i,hi,e⟩
   ·left;rw [e];exact ⟨2,rfl,rfl⟩
   ·right
    have hst:=(h.2.2 _ (List.getElem_mem hi)).2.2
    refine ⟨i,hi,PK a[i].2.2 k, ?_,h2.1,h2.2, ?_⟩
    ·rw [e,Option.bind_some,show decide ((i:Int)<0)=false by simp,cond_false,PD hi,Option.bind_some,S8 a[i] (by have:=hst.2.2;omega) k n hn,Option.bind_some]
    ·unfold PK
     cases hf:a[i].2.2.find? (fun x=>x.1==k) with
     | some x=>exact .inl (List.mem_of_find?_eq_some hf)
     | none=>exact .inr ⟨rfl,rfl⟩
theorem YH (a:List PV) (h:PE a) (Pb k m:Int) (n:Nat) (hn:PY≤n):∃ s c,Rv n a Pb k m=some (s,c)∧PE s:=by
 unfold Rv
 rcases U1 a h Pb k m n hn with ⟨c,e,hc⟩ | ⟨i,hi,x,e,m0,m1,hx⟩
 ·rw [e,Option.bind_some,hc,cond_true,PO a h.sm n hn]
  exact ⟨_,_,rfl,h⟩
 ·rw [e,Option.bind_some]
  dsimp only
  rw [show ((0:Int) != 0)=false from rfl,cond_false]
  have hst:=(h.2.2 _ (List.getElem_mem hi)).2.2
  have hb:0≤x.2.1∧x.2.1≤1000∧0≤x.2.2∧x.2.2≤x.2.1:=by
   rcases hx with hx | ⟨q1,q2⟩
   ·have:=hst.2.1 x hx;omega
   ·omega
  rw [PS (n:=x.2.1 - x.2.2) (by omega) (by omega)]
  by_cases hs:x.2.1 - x.2.2<m
  ·rw [show decide (x.2.1 - x.2.2<m)=true by simpa using hs,cond_true,PO a h.sm n hn]
   exact ⟨_,_,rfl,h⟩
  ·rw [show decide (x.2.1 - x.2.2<m)=false by simpa using hs,cond_false,PS (n:=x.2.2+m) (by omega) (by omega)]
   rcases hx with hx | ⟨q1,q2⟩
   ·obtain ⟨p1,p2,p3,p4,p5,p6⟩:=hst.2.1 x hx
    obtain ⟨s,e2,hs2⟩:=Vb a h i hi (x.1,x.2.1,x.2.2+m) ⟨p1,p2,p3,p4,by show 0≤x.2.2+m;omega,by show x.2.2+m≤x.2.1;omega⟩ ⟨x,hx,rfl⟩ n hn
    dsimp only at e2
    rw [e2]
    exact ⟨_,_,rfl,hs2⟩
   ·omega
theorem Vy (a:List PV) (h:PE a) (Pb k m:Int) (n:Nat) (hn:PY≤n):∃ s c,Rn n a Pb k m=some (s,c)∧PE s:=by
 unfold Rn
 rcases U1 a h Pb k m n hn with ⟨c,e,hc⟩ | ⟨i,hi,x,e,m0,m1,hx⟩
 ·rw [e,Option.bind_some,hc,cond_true,PO a h.sm n hn]
  exact ⟨_,_,rfl,h⟩
 ·rw [e,Option.bind_some]
  dsimp only
  rw [show ((0:Int) != 0)=false from rfl,cond_false]
  have hst:=(h.2.2 _ (List.getElem_mem hi)).2.2
  by_cases hs:x.2.2<m
  ·rw [show decide (x.2.2<m)=true by simpa using hs,cond_true,PO a h.sm n hn]
   exact ⟨_,_,rfl,h⟩
  ·rw [show decide (x.2.2<m)=false by simpa using hs,cond_false]
   rcases hx with hx | ⟨q1,q2⟩
   ·obtain ⟨p1,p2,p3,p4,p5,p6⟩:=hst.2.1 x hx
    rw [PS (n:=x.2.2 - m) (by omega) (by omega)]
    obtain ⟨s,e2,hs2⟩:=Vb a h i hi (x.1,x.2.1,x.2.2 - m) ⟨p1,p2,p3,p4,by show 0≤x.2.2 - m;omega,by show x.2.2 - m≤x.2.1;omega⟩ ⟨x,hx,rfl⟩ n hn
    dsimp only at e2
    rw [e2]
    exact ⟨_,_,rfl,hs2⟩
   ·omega
theorem U3 (a:List PV) (h:PE a) (p:List PB) (hp:p.length≤1048576) (w:Int) (hw:w=1∨w=2) (n:Nat) (hn:PY≤n):∃ s b,Qv n a p w=some (s,b)∧PE s:=by
 obtain ⟨_,r,e,hr⟩:=Qs (QB n a p w) (QB n a p w) (fun i (x:Int×(List PV)×(List PV))=>x.1=(i:Int)∧PE x.2.2)
  (fun r=>match r with | .inl x=>PE x.2.2 | .inr x=>PE x.1) p.length (fun i x hi hI=>by
  refine ⟨rfl, ?_⟩
  obtain ⟨k,z,s⟩:=x
  obtain ⟨hk,hs⟩:=hI
  dsimp only at hk hs
  subst hk
  unfold QB
  dsimp only
  by_cases hl:i<p.length
  ·rw [show decide ((i:Int)<(p.length:Int))=true by simpa using hl,cond_true,PD hl,Option.bind_some,PO a h.sm n hn,PF hl (by omega)]
   have fin:∀ (s':List PV) (c:Int),PE s'→(∃ y,((some (c,s')).bind fun (x4:Int×(List PV))=>bif (x4.1 != 0) then (some a).bind fun x8=>some (.inr (.inr (x8,false))) else some (.inl (((i+1:Nat):Int),z,x4.2)))=(some (.inl y):Option ((Int×(List PV)×(List PV))⊕((Int×(List PV)×(List PV))⊕((List PV)×Bool))))∧(y.1=((i+1:Nat):Int)∧PE y.2.2)∧i<p.length) ∨
     ∃ r,((some (c,s')).bind fun (x4:Int×(List PV))=>bif (x4.1 != 0) then (some a).bind fun x8=>some (.inr (.inr (x8,false))) else some (.inl (((i+1:Nat):Int),z,x4.2)))=(some (.inr r):Option ((Int×(List PV)×(List PV))⊕((Int×(List PV)×(List PV))⊕((List PV)×Bool))))∧(match r with | .inl x=>PE x.2.2 | .inr x=>PE x.1):=by
    intro s' c hs'
    cases hc:(c != 0) with
    | true=>right;exact ⟨.inr (a,false),by rw [Option.bind_some];dsimp only;rw [hc];rfl,h⟩
    | false=>left;exact ⟨(((i+1:Nat):Int),z,s'),by rw [Option.bind_some];dsimp only;rw [hc];rfl,⟨rfl,hs'⟩,hl⟩
   rcases hw with rfl | rfl
   ·obtain ⟨s',c,e,hs'⟩:=YH s hs p[i].1 p[i].2.1 p[i].2.2 n hn
    rw [show ((1:Int)==1)=true from rfl,cond_true,e,Option.bind_some]
    exact fin s' c hs'
   ·obtain ⟨s',c,e,hs'⟩:=Vy s hs p[i].1 p[i].2.1 p[i].2.2 n hn
    rw [show ((2:Int)==1)=false from rfl,cond_false,show ((2:Int)==2)=true from rfl,cond_true,e,Option.bind_some]
    exact fin s' c hs'
  ·right
   rw [show decide ((i:Int)<(p.length:Int))=false by simpa using hl]
   exact ⟨.inl ((i:Int),z,s),rfl,hs⟩) n (by unfold PY at hn;omega) ((0:Int),([]:List PV),a) ⟨rfl,h⟩
 unfold Qv
 rw [PO a h.sm n hn,Option.bind_some,e,Option.bind_some]
 cases r with
 | inl x=>exact ⟨_,_,rfl,hr⟩
 | inr x=>exact ⟨x.1,x.2,rfl,hr⟩
section
variable {α β γ δ:Type}
theorem Va {f:α→Option (α⊕γ)} {g:β→Option (β⊕δ)} (R:α→β→Prop) (S:γ→δ→Prop) (μ:α→Nat)
  (h:∀ x y,R x y→(∃ z w,f x=some (.inr z)∧g y=some (.inr w)∧S z w)∨(∃ x' y',f x=some (.inl x')∧g y=some (.inl y')∧R x' y'∧μ x'<μ x)) :
  ∀ n x y,R x y→μ x<n→∃ z w,S z w∧iter n f x=some z∧iter n g y=some w:=by
 intro n
 induction n with
 | zero=>intro x y _ hn;omega
 | succ n ih =>
  intro x y hR hn
  rcases h x y hR with ⟨z,w,h1,h2,h3⟩ | ⟨x',y',h1,h2,h3,h4⟩
  ·exact ⟨z,w,h3,Pf h1 n,Pf h2 n⟩
  ·obtain ⟨z,w,h5,h6,h7⟩:=ih x' y' h3 (by omega)
   exact ⟨z,w,h5,(QW h1 n).trans h6,(QW h2 n).trans h7⟩
theorem cM {f:α→Option (α⊕γ)} {g:β→Option (β⊕δ)} (R:α→β→Prop) (S:γ→δ→Prop) (μ:α→Nat)
  (h:∀ x y,R x y→(∃ z w,f x=some (.inr z)∧g y=some (.inr w)∧S z w)∨(∃ x' y',f x=some (.inl x')∧g y=some (.inl y')∧R x' y'∧μ x'<μ x)) :
  ∀ n n' x y,R x y→μ x<n→μ x<n'→∃ z w,S z w∧iter n f x=some z∧iter n' g y=some w:=by
 intro n
 induction n with
 | zero=>intro n' x y _ hn;omega
 | succ n ih =>
  intro n' x y hR hn hn'
  obtain ⟨n',rfl⟩:∃ k,n'=k+1:=⟨n' - 1,by omega⟩
  rcases h x y hR with ⟨z,w,h1,h2,h3⟩ | ⟨x',y',h1,h2,h3,h4⟩
  ·exact ⟨z,w,h3,Pf h1 n,Pf h2 n'⟩
  ·obtain ⟨z,w,h5,h6,h7⟩:=ih n' x' y' h3 (by omega) (by omega)
   exact ⟨z,w,h5,(QW h1 n).trans h6,(QW h2 n').trans h7⟩
theorem XL {f:α→Option (α⊕γ)} (R:α→Prop) (S:γ→Prop) (μ:α→Nat)
  (h:∀ x,R x→(∃ z,f x=some (.inr z)∧S z)∨(∃ x',f x=some (.inl x')∧R x'∧μ x'<μ x)) :
  ∀ n x,R x→μ x<n→∃ z,S z∧iter n f x=some z:=by
 intro n
 induction n with
 | zero=>intro x _ hn;omega
 | succ n ih =>
  intro x hR hn
  rcases h x hR with ⟨z,h1,h3⟩ | ⟨x',h1,h3,h4⟩
  ·exact ⟨z,h3,Pf h1 n⟩
  ·obtain ⟨z,h5,h6⟩:=ih x' h3 (by omega)
   exact ⟨z,h5,(QW h1 n).trans h6⟩
end
theorem sub_zero {α:Type} (xs:List α) (i:Nat):sub xs (Int.toNat (0:Int)) (Int.toNat (i:Int))=xs.take i:=by simp [sub]
def AS:List (Nat→Int)→List Nat→Int→Prop
 | [],_,x=>x=0
 | r::rs,S,x=>∃ k∈S,∃ y,AS rs (S.erase k) y∧x=r k+y
def cQ (R:List (Nat→Int)) (S:List Nat) (x:Int):Prop:=AS R S x∧∀ y,AS R S y→x≤y
theorem cQ.uniq {R:List (Nat→Int)} {S:List Nat} {x y:Int} (h1:cQ R S x) (h2:cQ R S y):x=y :=
 Int.le_antisymm (h1.2 y h2.1) (h2.2 x h1.1)
def SZ:List Int→Int
 | []=>0
 | x::l=>x+SZ l
theorem YD:∀ a b:List Int,SZ (a++b)=SZ a+SZ b
 | [],b=>by simp [SZ]
 | x::a,b=>by simp only [List.cons_append,SZ,YD a b];omega
theorem Td (v:Nat→Int):∀ (S:List Nat) (k:Nat),k∈S→SZ (S.map v)=v k+SZ ((S.erase k).map v)
 | [],k,h=>by cases h
 | a::S,k,h=>by
  by_cases e:a=k
  ·subst e;simp [SZ]
  ·have hk:k∈S:=by
    rcases List.mem_cons.1 h with h | h
    ·exact absurd h.symm e
    ·exact h
   have e2:(a==k)=false:=by simpa using e
   rw [List.erase_cons,e2]
   simp only [Bool.false_eq_true,if_false,List.map_cons,SZ,Td v S k hk]
   omega
theorem Vt (v:Nat→Int):∀ (S:List Nat),(∀ k∈S,v k≤0)→SZ (S.map v)≤0
 | [],_=>by simp [SZ]
 | a::S,h=>by
  simp only [List.map_cons,SZ]
  have:=Vt v S (fun k hk=>h k (List.mem_cons_of_mem _ hk))
  have:=h a List.mem_cons_self
  omega
theorem AS.ge (v:Nat→Int):∀ (R:List (Nat→Int)) (u:List Int) (S:List Nat) (x:Int),u.length=R.length→(∀ i (hi:i<R.length) (hu:i<u.length),∀ k∈S,u[i]+v k≤R[i] k)→(∀ k∈S,v k≤0)→AS R S x→SZ u+SZ (S.map v)≤x
 | [],u,S,x,hl,_,hv,hx=>by
  obtain rfl:u=[]:=List.eq_nil_of_length_eq_zero hl
  have:=Vt v S hv
  simp only [AS] at hx
  simp only [SZ];omega
 | r::R,[],S,x,hl,_,_,_=>by simp at hl
 | r::R,u0::u,S,x,hl,hc,hv,hx=>by
  obtain ⟨k,hk,y,hy,rfl⟩:=hx
  have ih:=AS.ge v R u (S.erase k) y (by simpa using hl) (fun i hi hu q hq=>by
   have:=hc (i+1) (by simp;omega) (by simp;omega) q (List.mem_of_mem_erase hq)
   simpa using this) (fun q hq=>hv q (List.mem_of_mem_erase hq)) hy
  have h0:=hc 0 (by simp) (by simp) k hk
  simp only [List.getElem_cons_zero] at h0
  rw [Td v S k hk]
  simp only [SZ];omega
theorem U7 (f:Nat→Int):∀ (S:List Nat),(∀ k∈S,f k=0)→SZ (S.map f)=0
 | [],_=>rfl
 | a::S,h=>by
  simp only [List.map_cons,SZ,U7 f S (fun k hk=>h k (List.mem_cons_of_mem _ hk)),h a List.mem_cons_self]
  omega
theorem cJ (f:Nat→Int):∀ (cs S:List Nat),cs.Nodup→S.Nodup→(∀ k∈cs,k∈S)→(∀ k∈S,k∉cs→f k=0)→SZ (S.map f)=SZ (cs.map f)
 | [],S,_,_,_,h=>by rw [U7 f S (fun k hk=>h k hk (by simp))];rfl
 | k::cs,S,hn,hS,hs,h=>by
  obtain ⟨h1,h2⟩:=List.nodup_cons.1 hn
  rw [Td f S k (hs k List.mem_cons_self),cJ f cs (S.erase k) h2 (hS.erase k) (fun q hq => ?_) (fun q hq hc => ?_)]
  ·rfl
  ·have hne:q≠k:=fun e=>h1 (e ▸ hq)
   exact (List.mem_erase_of_ne hne).2 (hs q (List.mem_cons_of_mem _ hq))
  ·have hne:q≠k:=fun e=>hS.not_mem_erase (e ▸ hq)
   refine h q (List.mem_of_mem_erase hq) (fun hq2 => ?_)
   rcases List.mem_cons.1 hq2 with hq2 | hq2
   ·exact hne hq2
   ·exact hc hq2
theorem Vh:∀ (a b:List Nat),a.Nodup→(∀ x∈a,x∈b)→a.length≤b.length
 | [],_,_,_=>by simp
 | x::a,b,hn,hs=>by
  obtain ⟨h1,h2⟩:=List.nodup_cons.1 hn
  have hx:=hs x List.mem_cons_self
  have:=Vh a (b.erase x) h2 (fun q hq=>(List.mem_erase_of_ne (fun e:q=x=>h1 (e ▸ hq))).2 (hs q (List.mem_cons_of_mem _ hq)))
  rw [List.length_erase_of_mem hx] at this
  have:=List.length_pos_of_mem hx
  simp only [List.length_cons];omega
def au:List (Nat→Int)→List Nat→Int
 | r::rs,k::ks=>r k+au rs ks
 | _,_=>0
theorem AS.of:∀ (R:List (Nat→Int)) (cs:List Nat) (S:List Nat),cs.length=R.length→cs.Nodup→(∀ k∈cs,k∈S)→AS R S (au R cs)
 | [],[],S,_,_,_=>rfl
 | [],c::cs,S,hl,_,_=>by simp at hl
 | r::R,[],S,hl,_,_=>by simp at hl
 | r::R,k::cs,S,hl,hn,hs=>by
  obtain ⟨h1,h2⟩:=List.nodup_cons.1 hn
  refine ⟨k,hs k List.mem_cons_self,au R cs,AS.of R cs (S.erase k) (by simpa using hl) h2 (fun q hq => ?_),rfl⟩
  have hne:q≠k:=fun e=>h1 (e ▸ hq)
  exact (List.mem_erase_of_ne hne).2 (hs q (List.mem_cons_of_mem _ hq))
def VN:Option Int→Option Int→Option Int
 | none,b=>b
 | some x,none=>some x
 | some x,some y=>some (if y<x then y else x)
theorem Yk {a b:Option Int} {x:Int} (h:VN a b=some x):a=some x∨b=some x:=by
 cases a with
 | none=>exact .inr h
 | some y=>cases b with
  | none=>exact .inl h
  | some z =>
   simp only [VN,Option.some.injEq] at h
   by_cases hz:z<y
   ·rw [if_pos hz] at h;exact .inr (by rw [h])
   ·rw [if_neg hz] at h;exact .inl (by rw [h])
theorem ak {a b:Option Int} {y:Int} (h:a=some y):∃ z,VN a b=some z∧z≤y:=by
 subst h
 cases b with
 | none=>exact ⟨y,rfl,Int.le_refl _⟩
 | some z=>exact ⟨_,rfl,by split <;> omega⟩
theorem ao {a b:Option Int} {y:Int} (h:b=some y):∃ z,VN a b=some z∧z≤y:=by
 subst h
 cases a with
 | none=>exact ⟨y,rfl,Int.le_refl _⟩
 | some z=>exact ⟨_,rfl,by split <;> omega⟩
theorem T5 (g:Nat→Option Int):∀ (l:List Nat) (b:Option Int),
  (∀ x,l.foldl (fun b k=>VN b (g k)) b=some x→b=some x∨∃ k∈l,g k=some x) ∧
  (∀ y,b=some y→∃ x,l.foldl (fun b k=>VN b (g k)) b=some x∧x≤y) ∧
  (∀ k∈l,∀ y,g k=some y→∃ x,l.foldl (fun b k=>VN b (g k)) b=some x∧x≤y)
 | [],b=>⟨fun x h => .inl h,fun y h=>⟨y,h,Int.le_refl _⟩,fun k hk=>by cases hk⟩
 | k::l,b=>by
  obtain ⟨i1,i2,i3⟩:=T5 g l (VN b (g k))
  simp only [List.foldl_cons]
  refine ⟨fun x hx => ?_,fun y hy => ?_,fun q hq y hy => ?_⟩
  ·rcases i1 x hx with h | ⟨q,hq,e⟩
   ·rcases Yk h with h | h
    ·exact .inl h
    ·exact .inr ⟨k,List.mem_cons_self,h⟩
   ·exact .inr ⟨q,List.mem_cons_of_mem _ hq,e⟩
  ·obtain ⟨z,h1,h2⟩:=ak (b:=g k) hy
   obtain ⟨x,h3,h4⟩:=i2 z h1
   exact ⟨x,h3,by omega⟩
  ·rcases List.mem_cons.1 hq with rfl | hq
   ·obtain ⟨z,h1,h2⟩:=ao (a:=b) hy
    obtain ⟨x,h3,h4⟩:=i2 z h1
    exact ⟨x,h3,by omega⟩
   ·exact i3 q hq y hy
def UQ:List (Nat→Int)→List Nat→Option Int
 | [],_=>some 0
 | r::rs,S=>S.foldl (fun b k=>VN b ((UQ rs (S.erase k)).map fun y=>r k+y)) none
theorem Qo:∀ (R:List (Nat→Int)) (S:List Nat),(∀ x,UQ R S=some x→cQ R S x)∧(∀ y,AS R S y→∃ x,UQ R S=some x∧x≤y)
 | [],S=>⟨fun x h=>by
   simp only [UQ,Option.some.injEq] at h
   subst h
   exact ⟨rfl,fun y hy=>by simp only [AS] at hy;omega⟩,fun y hy=>⟨0,rfl,by simp only [AS] at hy;omega⟩⟩
 | r::R,S=>by
  obtain ⟨f1,_,f3⟩:=T5 (fun k=>(UQ R (S.erase k)).map fun y=>r k+y) S none
  have up:∀ y,AS (r::R) S y→∃ x,UQ (r::R) S=some x∧x≤y:=by
   rintro _ ⟨k,hk,y,hy,rfl⟩
   obtain ⟨x,h1,h2⟩:=(Qo R (S.erase k)).2 y hy
   obtain ⟨z,h3,h4⟩:=f3 k hk (r k+x) (by rw [h1];rfl)
   exact ⟨z,h3,by omega⟩
  refine ⟨fun x hx=>⟨?_,fun y hy => ?_⟩,up⟩
  ·rcases f1 x hx with h | ⟨k,hk,e⟩
   ·cases h
   ·cases hb:UQ R (S.erase k) with
    | none=>rw [hb] at e;cases e
    | some y =>
     rw [hb] at e
     simp only [Option.map_some,Option.some.injEq] at e
     exact ⟨k,hk,y,((Qo R (S.erase k)).1 y hb).1,e.symm⟩
  ·obtain ⟨z,h1,h2⟩:=up y hy
   rw [hx] at h1
   injection h1 with h1
   omega
theorem iB {R:List (Nat→Int)} {S:List Nat} {x:Int} (h:cQ R S x):UQ R S=some x:=by
 obtain ⟨y,h1,h2⟩:=(Qo R S).2 x h.1
 rw [h1,((Qo R S).1 y h1).uniq h]
theorem Zx (R:List (Nat→Int)) (S:List Nat) (hn:S.Nodup) (hl:R.length≤S.length):∃ x,UQ R S=some x:=by
 obtain ⟨x,h,_⟩:=(Qo R S).2 _ (AS.of R (S.take R.length) S (by simp;omega) (hn.sublist (List.take_sublist _ _)) (fun k hk=>List.mem_of_mem_take hk))
 exact ⟨x,h⟩
theorem Zy {R:List (Nat→Int)} {S:List Nat} {x:Int} (h:UQ R S=some x) (hc:∀ r∈R,∀ k∈S,0≤r k):0≤x:=by
 induction R generalizing S x with
 | nil=>simp only [UQ,Option.some.injEq] at h;omega
 | cons r R ih =>
  obtain ⟨⟨k,hk,y,hy,rfl⟩,_⟩:=(Qo _ _).1 x h
  obtain ⟨z,h1,h2⟩:=(Qo R (S.erase k)).2 y hy
  have:=ih h1 (fun r hr q hq=>hc r (List.mem_cons_of_mem _ hr) q (List.mem_of_mem_erase hq))
  have:=hc r List.mem_cons_self k hk
  omega
theorem iV {R:List (Nat→Int)} {S:List Nat} {x:Int} {M:Int} (h:UQ R S=some x) (hM:0≤M) (hc:∀ r∈R,∀ k∈S,r k≤M):x≤M * R.length:=by
 induction R generalizing S x with
 | nil=>simp only [UQ,Option.some.injEq] at h;simp;omega
 | cons r R ih =>
  obtain ⟨⟨k,hk,y,hy,rfl⟩,_⟩:=(Qo _ _).1 x h
  obtain ⟨z,h1,h2⟩:=(Qo R (S.erase k)).2 y hy
  have hl:=((Qo _ _).1 _ h).2 (r k+z) ⟨k,hk,z,((Qo _ _).1 z h1).1,rfl⟩
  have i:=ih h1 (fun r hr q hq=>hc r (List.mem_cons_of_mem _ hr) q (List.mem_of_mem_erase hq))
  have:=hc r List.mem_cons_self k hk
  rw [List.length_cons,Int.natCast_add,Int.mul_add]
  omega
def pk:List (Nat→Int)→List Nat→List Nat
 | [],_=>[]
 | r::rs,S=>match S.find? fun k=>(UQ rs (S.erase k)).map (fun y=>r k+y)==UQ (r::rs) S with
  | some k=>k::pk rs (S.erase k)
  | none=>[]
theorem Ym {r:Nat→Int} {R:List (Nat→Int)} {S:List Nat} {x:Int} (h:UQ (r::R) S=some x):∃ k∈S,(S.find? fun k=>(UQ R (S.erase k)).map (fun y=>r k+y)==UQ (r::R) S)=some k∧∃ y,UQ R (S.erase k)=some y∧x=r k+y:=by
 obtain ⟨f1,_,_⟩:=T5 (fun k=>(UQ R (S.erase k)).map fun y=>r k+y) S none
 rcases f1 x h with h2 | ⟨k,hk,e⟩
 ·cases h2
 cases hf:S.find? fun k=>(UQ R (S.erase k)).map (fun y=>r k+y)==UQ (r::R) S with
 | none =>
  have:=List.find?_eq_none.1 hf k hk
  rw [e,h] at this
  simp at this
 | some q =>
  have hq:=List.find?_some hf
  refine ⟨q,List.mem_of_find?_eq_some hf,rfl, ?_⟩
  rw [h] at hq
  cases hb:UQ R (S.erase q) with
  | none=>rw [hb] at hq;simp at hq
  | some y =>
   rw [hb] at hq
   simp only [Option.map_some,beq_iff_eq,Option.some.injEq] at hq
   exact ⟨y,rfl,hq.symm⟩
theorem gP:∀ (R:List (Nat→Int)) (S:List Nat),S.Nodup→R.length≤S.length→(pk R S).length=R.length∧(pk R S).Nodup∧∀ k∈pk R S,k∈S
 | [],S,_,_=>by simp [pk]
 | r::R,S,hn,hl=>by
  obtain ⟨x,hx⟩:=Zx (r::R) S hn hl
  obtain ⟨k,hk,hf,_⟩:=Ym hx
  have hle:(S.erase k).length=S.length - 1:=List.length_erase_of_mem hk
  obtain ⟨i1,i2,i3⟩:=gP R (S.erase k) (hn.erase k) (by simp at hl;omega)
  have e:pk (r::R) S=k::pk R (S.erase k):=by simp only [pk,hf]
  rw [e]
  refine ⟨by simp [i1],List.nodup_cons.2 ⟨fun h => ?_,i2⟩,fun q hq => ?_⟩
  ·exact (hn.not_mem_erase) (i3 k h)
  ·rcases List.mem_cons.1 hq with rfl | hq
   ·exact hk
   ·exact List.mem_of_mem_erase (i3 q hq)
structure HF (C:Nat→Nat→Int) (n m:Nat) (u v:Nat→Int):Prop where
 aW:∀ r j,1≤r→r≤n→1≤j→j≤m→u r+v j≤C r j
 hZ:∀ j,1≤j→j≤m→v j≤0
 hY:∀ r,1≤r→r≤n→0≤u r
structure HM (m i:Nat) (w:Nat→Int):Prop where
 aw:∀ j,1≤j→j≤m→0≤w j∧w j<(i:Int)
 inj:∀ j k,1≤j→j≤m→1≤k→k≤m→w j=w k→0<w j→j=k
 kf:∀ r:Nat,1≤r→r<i→∃ j,1≤j∧j≤m∧w j=(r:Int)
structure HT (C:Nat→Nat→Int) (m:Nat) (u v w:Nat→Int):Prop where
 tight:∀ j (r:Nat),1≤j→j≤m→1≤r→w j=(r:Int)→u r+v j=C r j
 free:∀ j,1≤j→j≤m→w j=0→v j=0
theorem HM.open {m i:Nat} {w:Nat→Int} (h:HM m i w) (h1:1≤i) (hi:i≤m):∃ j,1≤j∧j≤m∧w j=0:=by
 refine Classical.byContradiction fun hno => ?_
 have hp:∀ j,1≤j→j≤m→0<w j:=fun j a b=>by
  have:=(h.aw j a b).1
  have:w j≠0:=fun e=>hno ⟨j,a,b,e⟩
  omega
 have:=Vh ((List.range m).map fun k=>(w (k+1)).toNat) (List.range' 1 (i - 1)) ?_ ?_
 ·simp at this;omega
 ·unfold List.Nodup
  rw [List.pairwise_map]
  refine List.Pairwise.imp_of_mem (fun {a b} ha hb hab e => ?_) (List.pairwise_lt_range (n:=m))
  rw [List.mem_range] at ha hb
  have p1:=hp (a+1) (by omega) (by omega)
  have p2:=hp (b+1) (by omega) (by omega)
  have:=h.inj (a+1) (b+1) (by omega) (by omega) (by omega) (by omega) (by omega) p1
  omega
 ·intro x hx
  obtain ⟨k,hk,rfl⟩:=List.mem_map.1 hx
  rw [List.mem_range] at hk
  have p1:=hp (k+1) (by omega) (by omega)
  have p2:=(h.aw (k+1) (by omega) (by omega)).2
  rw [List.mem_range'_1]
  omega
theorem HF.Mt {C:Nat→Nat→Int} {n m i:Nat} {u v w:Nat→Int} (hf:HF C n m u v) (ht:HT C m u v w) (hm:HM m i w) (h1:1≤i) (hi:i≤m) (hin:i≤n) {M:Int} (hC:∀ r j,1≤r→r≤n→1≤j→j≤m→0≤C r j∧C r j≤M) :
  (∀ r,1≤r→r≤n→0≤u r∧u r≤M)∧∀ j,1≤j→j≤m → -M≤v j∧v j≤0:=by
 obtain ⟨f,f1,f2,f3⟩:=hm.open h1 hi
 have hu:∀ r,1≤r→r≤n→0≤u r∧u r≤M:=fun r a b=>by
  have:=hf.aW r f a b f1 f2
  rw [ht.free f f1 f2 f3] at this
  have:=(hC r f a b f1 f2).2
  exact ⟨hf.hY r a b,by omega⟩
 refine ⟨hu,fun j a b=>⟨?_,hf.hZ j a b⟩⟩
 obtain ⟨q1,q2⟩:=hm.aw j a b
 by_cases h0:w j=0
 ·rw [ht.free j a b h0]
  have:=hC i f h1 hin f1 f2
  omega
 ·have:=ht.tight j (w j).toNat a b (by omega) (by omega)
  have:=hu (w j).toNat (by omega) (by omega)
  have:=hC (w j).toNat j (by omega) (by omega) a b
  omega
def Ch (P:Nat→Nat→Prop):List Nat→Prop
 | []=>True
 | a::l=>(a=0∧l=[])∨(1≤a∧(∃ x∈l,P a x)∧Ch P l)
theorem Ch.mono {P Q:Nat→Nat→Prop}:∀ {l:List Nat},(∀ a x,a∈l→x∈l→P a x→Q a x)→Ch P l→Ch Q l
 | [],_,_=>trivial
 | a::l,h,hc=>by
  rcases hc with hc | ⟨h1,⟨x,hx,hP⟩,h3⟩
  ·exact .inl hc
  ·exact .inr ⟨h1,⟨x,hx,h a x List.mem_cons_self (List.mem_cons_of_mem _ hx) hP⟩,Ch.mono (fun a x ha hx=>h a x (List.mem_cons_of_mem _ ha) (List.mem_cons_of_mem _ hx)) h3⟩
theorem Ch.tail {P:Nat→Nat→Prop} {a:Nat} {l:List Nat} (h:Ch P (a::l)):Ch P l:=by
 rcases h with ⟨_,h⟩ | ⟨_,_,h⟩
 ·rw [h];trivial
 ·exact h
theorem Ch.drop {P:Nat→Nat→Prop} {l:List Nat}:∀ {p:List Nat},Ch P (p++l)→Ch P l
 | [],h=>h
 | a::p,h=>Ch.drop (p:=p) (Ch.tail h)
def Fr (C:Nat→Nat→Int) (u v w fr:Nat→Int) (a x:Nat):Prop:=fr a=(x:Int)∧∃ r:Nat,1≤r∧w x=(r:Int)∧u r+v a=C r a
structure HG (C:Nat→Nat→Int) (n m:Nat) (u v w ls fr:Nat→Int) (Q:List Nat) (j0:Nat):Prop where
 hf:HF C n m u v
 ht:HT C m u v w
 kG:j0≤m
 nd:(j0::Q).Nodup
 qm:∀ j∈Q,j≤m
 qp:∀ j∈Q,1≤w j
 ch:Ch (Fr C u v w fr) (j0::Q)
 l1:∀ j,1≤j→j≤m→j∉Q→∀ b∈Q,∀ r:Nat,w b=(r:Int)→ls j≤C r j - u r - v j
 l2:Q=[]∨∀ j,1≤j→j≤m→j∉Q→∃ b∈Q,fr j=(b:Int)∧∃ r:Nat,1≤r∧w b=(r:Int)∧ls j=C r j - u r - v j
structure HS (C:Nat→Nat→Int) (n m:Nat) (u v w ls fr:Nat→Int) (Q:List Nat):Prop where
 hf:HF C n m u v
 ht:HT C m u v w
 nd:Q.Nodup
 qm:∀ j∈Q,j≤m
 qp:∀ j∈Q,1≤w j
 ch:Ch (Fr C u v w fr) Q
 l1:∀ j,1≤j→j≤m→j∉Q→∀ b∈Q,∀ r:Nat,w b=(r:Int)→ls j≤C r j - u r - v j
 l2:∀ j,1≤j→j≤m→j∉Q→∃ b∈Q,fr j=(b:Int)∧∃ r:Nat,1≤r∧w b=(r:Int)∧ls j=C r j - u r - v j
theorem HG.scan {C:Nat→Nat→Int} {n m:Nat} {u v w ls fr ls' fr':Nat→Int} {Q:List Nat} {j0:Nat} (h:HG C n m u v w ls fr Q j0) {i0:Nat} (hi:1≤i0) (hw:w j0=(i0:Int))
  (hfar:Q=[]→∀ j,1≤j→j≤m→C i0 j - u i0 - v j<ls j)
  (hused:∀ j,j≤m→j∈j0::Q→fr' j=fr j)
  (hnew:∀ j,1≤j→j≤m→j∉j0::Q→(C i0 j - u i0 - v j<ls j∧ls' j=C i0 j - u i0 - v j∧fr' j=(j0:Int))∨(¬ C i0 j - u i0 - v j<ls j∧ls' j=ls j∧fr' j=fr j)) :
  HS C n m u v w ls' fr' (j0::Q):=by
 refine ⟨h.hf,h.ht,h.nd,fun j hj => ?_,fun j hj => ?_, ?_,fun j a b hj x hx r hr => ?_,fun j a b hj => ?_⟩
 ·rcases List.mem_cons.1 hj with rfl | hj
  ·exact h.kG
  ·exact h.qm j hj
 ·rcases List.mem_cons.1 hj with rfl | hj
  ·omega
  ·exact h.qp j hj
 ·refine h.ch.mono fun a x ha hx hP=>⟨?_,hP.2⟩
  rw [hused a ?_ ha]
  ·exact hP.1
  ·rcases List.mem_cons.1 ha with rfl | ha
   ·exact h.kG
   ·exact h.qm a ha
 ·have hjQ:j∉Q:=fun e=>hj (List.mem_cons_of_mem _ e)
  rcases hnew j a b hj with ⟨h1,h2,h3⟩ | ⟨h1,h2,h3⟩
  ·rcases List.mem_cons.1 hx with rfl | hx
   ·rw [h2,show r=i0 by omega];omega
   ·have:=h.l1 j a b hjQ x hx r hr
    omega
  ·rcases List.mem_cons.1 hx with rfl | hx
   ·rw [h2,show r=i0 by omega];omega
   ·rw [h2];exact h.l1 j a b hjQ x hx r hr
 ·have hjQ:j∉Q:=fun e=>hj (List.mem_cons_of_mem _ e)
  rcases hnew j a b hj with ⟨h1,h2,h3⟩ | ⟨h1,h2,h3⟩
  ·exact ⟨j0,List.mem_cons_self,h3,i0,hi,hw,h2⟩
  ·rcases h.l2 with e | e
   ·exact absurd (hfar e j a b) h1
   ·obtain ⟨x,hx,p1,r,p2,p3,p4⟩:=e j a b hjQ
    exact ⟨x,List.mem_cons_of_mem _ hx,by rw [h3,p1],r,p2,p3,by rw [h2,p4]⟩
theorem HS.step {C:Nat→Nat→Int} {n m i:Nat} {u v w ls fr u' v' ls':Nat→Int} {Q:List Nat} (h:HS C n m u v w ls fr Q) (hm:HM m i w) (hw0:w 0=(i:Int)) (hin:i≤n) {d:Int} {j1:Nat}
  (a1:1≤j1) (a2:j1≤m) (a3:j1∉Q) (hd:ls j1=d) (hmin:∀ j,1≤j→j≤m→j∉Q→d≤ls j)
  (hu1:∀ r:Nat,1≤r→r≤n→(∃ b∈Q,w b=(r:Int))→u' r=u r+d)
  (hu2:∀ r:Nat,1≤r→r≤n→¬ (∃ b∈Q,w b=(r:Int))→u' r=u r)
  (hv1:∀ j,1≤j→j≤m→j∈Q→v' j=v j - d) (hv2:∀ j,1≤j→j≤m→j∉Q→v' j=v j)
  (hl:∀ j,1≤j→j≤m→j∉Q→ls' j=ls j - d):0≤d∧HG C n m u' v' w ls' fr Q j1:=by
 have rn:∀ b∈Q,∀ r:Nat,w b=(r:Int)→1≤r∧r≤n:=fun b hb r hr=>by
  have h1:=h.qp b hb
  refine ⟨by omega, ?_⟩
  by_cases hb0:b=0
  ·subst hb0;rw [hw0] at hr;omega
  ·have:=hm.aw b (by omega) (h.qm b hb)
   omega
 have hd0:0≤d:=by
  obtain ⟨b,hb,_,r,p2,p3,p4⟩:=h.l2 j1 a1 a2 a3
  obtain ⟨r1,r2⟩:=rn b hb r p3
  have:=h.hf.aW r j1 r1 r2 a1 a2
  omega
 have inQ:∀ j (r:Nat),1≤j→j≤m→j∉Q→1≤r→w j=(r:Int)→¬ ∃ b∈Q,w b=(r:Int):=fun j r c1 c2 c3 c4 c5=>by
  rintro ⟨b,hb,e⟩
  by_cases hb0:b=0
  ·subst hb0
   have:=hm.aw j c1 c2
   rw [hw0] at e;omega
  ·have:=hm.inj j b c1 c2 (by omega) (h.qm b hb) (by omega) (by omega)
   exact c3 (this ▸ hb)
 have tq:∀ a x,a∈Q→1≤a→x∈Q→Fr C u v w fr a x→Fr C u' v' w fr a x:=fun a x ha ha1 hx hP=>by
  obtain ⟨p1,r,p2,p3,p4⟩:=hP
  obtain ⟨r1,r2⟩:=rn x hx r p3
  refine ⟨p1,r,p2,p3, ?_⟩
  rw [hu1 r r1 r2 ⟨x,hx,p3⟩,hv1 a ha1 (h.qm a ha) ha];omega
 refine ⟨hd0,⟨fun r j r1 r2 j1 j2 => ?_,fun j c1 c2 => ?_,fun r c1 c2 => ?_⟩,⟨fun j r c1 c2 c3 c4 => ?_,fun j c1 c2 c3 => ?_⟩,a2,List.nodup_cons.2 ⟨a3,h.nd⟩,h.qm,h.qp, ?_,fun j c1 c2 hj b hb r hr => ?_, .inr fun j c1 c2 hj => ?_⟩
 ·have hf:=h.hf.aW r j r1 r2 j1 j2
  by_cases hr:∃ b∈Q,w b=(r:Int)
  ·rw [hu1 r r1 r2 hr]
   by_cases hj:j∈Q
   ·rw [hv1 j j1 j2 hj];omega
   ·obtain ⟨b,hb,e⟩:=hr
    have:=h.l1 j j1 j2 hj b hb r e
    have:=hmin j j1 j2 hj
    rw [hv2 j j1 j2 hj];omega
  ·rw [hu2 r r1 r2 hr]
   by_cases hj:j∈Q
   ·rw [hv1 j j1 j2 hj];omega
   ·rw [hv2 j j1 j2 hj];omega
 ·have:=h.hf.hZ j c1 c2
  by_cases hj:j∈Q
  ·rw [hv1 j c1 c2 hj];omega
  ·rw [hv2 j c1 c2 hj];omega
 ·have:=h.hf.hY r c1 c2
  by_cases hr:∃ b∈Q,w b=(r:Int)
  ·rw [hu1 r c1 c2 hr];omega
  ·rw [hu2 r c1 c2 hr];omega
 ·have ht:=h.ht.tight j r c1 c2 c3 c4
  have:=hm.aw j c1 c2
  have hrn:r≤n:=by omega
  by_cases hj:j∈Q
  ·rw [hv1 j c1 c2 hj,hu1 r c3 hrn ⟨j,hj,c4⟩];omega
  ·rw [hv2 j c1 c2 hj,hu2 r c3 hrn (inQ j r c1 c2 hj c3 c4)];omega
 ·have hj:j∉Q:=fun hj=>by have:=h.qp j hj;omega
  rw [hv2 j c1 c2 hj,h.ht.free j c1 c2 c3]
 ·refine .inr ⟨a1, ?_, ?_⟩
  ·obtain ⟨b,hb,p1,r,p2,p3,p4⟩:=h.l2 j1 a1 a2 a3
   obtain ⟨r1,r2⟩:=rn b hb r p3
   refine ⟨b,hb,p1,r,p2,p3, ?_⟩
   rw [hu1 r r1 r2 ⟨b,hb,p3⟩,hv2 j1 a1 a2 a3];omega
  ·have key:∀ (l:List Nat),(∀ a∈l,a∈Q)→Ch (Fr C u v w fr) l→Ch (Fr C u' v' w fr) l:=by
    intro l
    induction l with
    | nil=>intro _ _;trivial
    | cons a l ih =>
     intro hs hc
     rcases hc with hc | ⟨h1,⟨x,hx,hP⟩,h3⟩
     ·exact .inl hc
     ·exact .inr ⟨h1,⟨x,hx,tq a x (hs a List.mem_cons_self) h1 (hs x (List.mem_cons_of_mem _ hx)) hP⟩,ih (fun b hb=>hs b (List.mem_cons_of_mem _ hb)) h3⟩
   exact key Q (fun a ha=>ha) h.ch
 ·obtain ⟨r1,r2⟩:=rn b hb r hr
  have:=h.l1 j c1 c2 hj b hb r hr
  rw [hl j c1 c2 hj,hu1 r r1 r2 ⟨b,hb,hr⟩,hv2 j c1 c2 hj];omega
 ·obtain ⟨b,hb,p1,r,p2,p3,p4⟩:=h.l2 j c1 c2 hj
  obtain ⟨r1,r2⟩:=rn b hb r p3
  refine ⟨b,hb,p1,r,p2,p3, ?_⟩
  rw [hl j c1 c2 hj,hu1 r r1 r2 ⟨b,hb,p3⟩,hv2 j c1 c2 hj];omega
def ga (l:List Int) (i:Nat):Int:=l.getD i 0
theorem jX {l:List Int} {i:Nat} (h:i<l.length):l[i]? = some (ga l i):=by
 unfold ga;rw [List.getD,List.getElem?_eq_getElem h];rfl
theorem jZ {l:List Int} {i:Nat} (h:i<l.length) (x:Int) (j:Nat):ga (l.set i x) j=if j=i then x else ga l j:=by
 unfold ga
 rw [List.getD,List.getD,List.getElem?_set]
 by_cases e:i=j
 ·subst e;simp [h]
 ·rw [if_neg e,if_neg (fun q=>e q.symm)]
theorem jY (m:Nat) (x:Int) (j:Nat) (h:j<m):ga (List.replicate m x) j=x:=by
 unfold ga;rw [List.getD,List.getElem?_replicate,if_pos h];rfl
structure CM (a0:List (List Int)) (m:Nat):Prop where
 row:∀ r∈a0,r.length=m
 nm:a0.length≤m
 kt:m≤10
 Mt:∀ r∈a0,∀ x∈r,0≤x∧x≤100000
def cC (a0:List (List Int)) (r j:Nat):Int:=ga (a0.getD (r - 1) []) (j - 1)
theorem CM.at {a0:List (List Int)} {m:Nat} (h:CM a0 m) {r j:Nat} (r1:1≤r) (r2:r≤a0.length) (j1:1≤j) (j2:j≤m) :
  ∃ l,ND a0 (Pe ((r:Int) - 1))=some l∧ND l (Pe ((j:Int) - 1))=some (cC a0 r j)∧0≤cC a0 r j∧cC a0 r j≤100000:=by
 have hm:=h.kt
 have hn:=h.nm
 have hr:r - 1<a0.length:=by omega
 have e1:Pe ((r:Int) - 1)=((r - 1:Nat):Int):=by rw [PS (by omega) (by omega)];omega
 have e2:Pe ((j:Int) - 1)=((j - 1:Nat):Int):=by rw [PS (by omega) (by omega)];omega
 have hl:=h.row _ (List.getElem_mem hr)
 have hj:j - 1<a0[r - 1].length:=by omega
 have e3:cC a0 r j=a0[r - 1][j - 1]:=by
  unfold cC ga
  rw [List.getD,List.getD,List.getElem?_eq_getElem hr,Option.getD_some,List.getElem?_eq_getElem hj]
  rfl
 refine ⟨a0[r - 1],by rw [e1,PD hr],by rw [e2,PD hj,e3], ?_⟩
 rw [e3]
 exact h.Mt _ (List.getElem_mem hr) _ (List.getElem_mem hj)
theorem HM.congr {m i:Nat} {w w':Nat→Int} (h:HM m i w) (e:∀ j,1≤j→j≤m→w' j=w j):HM m i w' :=
 ⟨fun j a b=>by rw [e j a b];exact h.aw j a b,fun j k a b c d=>by rw [e j a b,e k c d];exact h.inj j k a b c d,fun r a b=>by
  obtain ⟨j,p,q,s⟩:=h.kf r a b
  exact ⟨j,p,q,by rw [e j p q,s]⟩⟩
theorem HT.congr {C:Nat→Nat→Int} {m:Nat} {u v w w':Nat→Int} (h:HT C m u v w) (e:∀ j,1≤j→j≤m→w' j=w j):HT C m u v w' :=
 ⟨fun j r a b c d=>h.tight j r a b c (by rw [← e j a b];exact d),fun j a b c=>h.free j a b (by rw [← e j a b];exact c)⟩
theorem Wm {α γ:Type} {f:α→Option (α⊕γ)} (R:Nat→α→Prop) (S:γ→Prop)
  (h:∀ k x,R k x→(∃ z,f x=some (.inr z)∧S z)∨(∃ x' k',f x=some (.inl x')∧R k' x'∧k'<k)) :
  ∀ n k x,R k x→k<n→∃ z,S z∧iter n f x=some z:=by
 intro n
 induction n with
 | zero=>intro k x _ hn;omega
 | succ n ih =>
  intro k x hR hn
  rcases h k x hR with ⟨z,h1,h3⟩ | ⟨x',k',h1,h3,h4⟩
  ·exact ⟨z,h3,Pf h1 n⟩
  ·obtain ⟨z,h5,h6⟩:=ih k' x' h3 (by omega)
   exact ⟨z,h5,(QW h1 n).trans h6⟩
theorem Ch.zero {P:Nat→Nat→Prop}:∀ {a:Nat} {l:List Nat},Ch P (a::l)→0∈a::l
 | a,[],h=>by
  rcases h with ⟨h,_⟩ | ⟨_,⟨x,hx,_⟩,_⟩
  ·rw [h];exact List.mem_cons_self
  ·cases hx
 | a,b::l,h=>by
  rcases h with ⟨_,h⟩ | ⟨_,_,h⟩
  ·cases h
  ·exact List.mem_cons_of_mem _ (Ch.zero h)
def RY (a:List PV) (id:Int):Int:=(P0 PY a id).getD (-1)
theorem Sf (a:List PV) (hl:a.length≤1048576) (id:Int) (n:Nat) (hn:PY≤n):P0 n a id=some (RY a id)∧(RY a id = -1∧(∀ p∈a,p.1≠id)∨∃ i,∃ h:i<a.length,RY a id=(i:Int)∧a[i].1=id):=by
 have hs:∀ (i:Nat) (x:PV),i<a.length→a[i]? = some x→Pq a id (i:Int)=some (bif x.1==id then .inr (.inr (i:Int)) else .inl ((i+1:Nat):Int)):=fun i x h1 h2=>by
  have hx:a[i]=x:=by rw [List.getElem?_eq_getElem h1] at h2;exact Option.some.inj h2
  simp only [Pq,PD h1,hx,Option.bind_some,PF h1 (show a.length≤9223372036854775807 by clear hn;omega)]
  rw [show decide ((i:Int)<(a.length:Int))=true by simpa using h1]
  cases hq:(x.1==id) <;> rfl
 have he:Pq a id (a.length:Int)=some (.inr (.inl (a.length:Int))):=by simp [Pq]
 have key:∃ v:Int,(∀ n,PY≤n→P0 n a id=some v)∧(v = -1∧(∀ p∈a,p.1≠id)∨∃ i,∃ h:i<a.length,v=(i:Int)∧a[i].1=id):=by
  cases hf:a.findIdx? fun p=>p.1==id with
  | none =>
   have hno:∀ p∈a,p.1≠id:=fun p hp=>by
    have:=List.findIdx?_eq_none_iff.1 hf p hp
    simpa using this
   refine ⟨-1,fun n hn => ?_, .inl ⟨rfl,hno⟩⟩
   have:=TY (Pq a id) (fun i=>(i:Int)) a.length (.inl (a.length:Int)) (fun i hi=>by
    rw [hs i a[i] hi (List.getElem?_eq_getElem hi),show (a[i].1==id)=false by simpa using hno _ (List.getElem_mem hi),cond_false]) he n (by unfold PY at hn;omega)
   unfold P0
   rw [show ((0:Nat):Int)=0 from rfl] at this
   rw [this];rfl
  | some i =>
   obtain ⟨hi,hp,hb⟩:=List.findIdx?_eq_some_iff_getElem.1 hf
   have hp':a[i].1=id:=by simpa using hp
   refine ⟨(i:Int),fun n hn => ?_, .inr ⟨i,hi,rfl,hp'⟩⟩
   have:=TY (Pq a id) (fun i=>(i:Int)) i (.inr (i:Int)) (fun j hj=>by
    have hb':=hb j hj
    rw [hs j a[j] (by omega) (List.getElem?_eq_getElem (by omega)),show (a[j].1==id)=false by simpa using hb',cond_false]) (by
    rw [hs i a[i] hi (List.getElem?_eq_getElem hi),show (a[i].1==id)=true by simpa using hp',cond_true]) n (by unfold PY at hn;omega)
   unfold P0
   rw [show ((0:Nat):Int)=0 from rfl] at this
   rw [this];rfl
 obtain ⟨v,v1,v2⟩:=key
 have e:RY a id=v:=by unfold RY;rw [v1 PY (Nat.le_refl _)];rfl
 rw [e]
 exact ⟨v1 n hn,v2⟩
theorem XX:Sp=P0:=rfl
abbrev Ul:=Int×Int×Int×Bool×Int
abbrev Um:=Int×Int×Int×Int
def XK (l:List Um) (r:Ul):Bool:=r.2.2.1 == -1 && !r.2.2.2.1&&l.all fun t => !(t.2.2.1==r.1)
def XJ (crew:List Ul) (l:List Um) (i:Nat):Bool:=match crew[i]? with
 | some r=>XK l r
 | none=>false
def VH (crew:List Ul) (l:List Um):List Nat:=((List.range crew.length).filter (XJ crew l)).take 10
theorem aZ {crew:List Ul} {l:List Um} {k:Nat} (h:k∈VH crew l):∃ hk:k<crew.length,XK l crew[k]=true:=by
 have:=List.mem_of_mem_take h
 obtain ⟨h1,h2⟩:=List.mem_filter.1 this
 rw [List.mem_range] at h1
 refine ⟨h1, ?_⟩
 unfold XJ at h2
 rw [List.getElem?_eq_getElem h1] at h2
 exact h2
theorem aY (crew:List Ul) (l:List Um):(VH crew l).length≤10:=by unfold VH;rw [List.length_take];omega
theorem cL (crew:List Ul) (l:List Um):(VH crew l).Nodup:=(List.nodup_range.filter _).sublist (List.take_sublist _ _)
theorem cP (xs:List Nat) (k m:Nat):(xs++[k]).take m=if xs.length<m then xs.take m++[k] else xs.take m:=by
 by_cases h:xs.length<m
 ·rw [if_pos h,List.take_of_length_le (by simp;omega),List.take_of_length_le (by omega)]
 ·rw [if_neg h,List.take_append_of_le_length (by omega)]
def Vm (s:List Int) (x:PB):List Int:=bif s.any (fun y=>y==x.1) then s else s++[x.1]
theorem W5 (s:List Int) (x:PB):(Vm s x).length≤s.length+1:=by
 unfold Vm;cases s.any (fun y=>y==x.1) <;> simp
def XY (a:List PB):List Int:=a.foldl Vm []
theorem XZ:∀ (a:List PB) (s:List Int),(a.foldl Vm s).length≤s.length+a.length
 | [],s=>by simp
 | x::a,s=>by
  have h1:=XZ a (Vm s x)
  have h2:=W5 s x
  simp only [List.foldl_cons,List.length_cons];omega
def iF (crew:List Ul) (k:Nat):Ul:=crew.getD k (0,0,0,false,0)
def iP (l:List Um) (i:Nat):Um:=l.getD i (0,0,0,0)
theorem Yo {crew:List Ul} {k:Nat} (h:k<crew.length):crew[k]? = some (iF crew k):=by unfold iF;rw [List.getD,List.getElem?_eq_getElem h];rfl
theorem Yv {l:List Um} {k:Nat} (h:k<l.length):l[k]? = some (iP l k):=by unfold iP;rw [List.getD,List.getElem?_eq_getElem h];rfl
def aX (a:List PV) (id:Int):Int:=match a[(RY a id).toNat]? with
 | some p=>p.2.1
 | none=>0
def Sv (a:List PV) (crew:List Ul) (l:List Um) (p:Nat×Nat) (st:List Ul×List Um):List Ul×List Um :=
 (List.modify (List.modify st.1 p.2 fun y=>(y.1,y.2.1,aX a (iP l p.1).2.1,y.2.2.2.1,y.2.2.2.2)) p.2 fun y=>(y.1,y.2.1,y.2.2.1,y.2.2.2.1,0),
  List.modify (List.modify st.2 p.1 fun y=>(y.1,y.2.1,(iF crew p.2).1,y.2.2.2)) p.1 fun y=>(y.1,y.2.1,y.2.2.1,2))
def sendAll (a:List PV) (crew:List Ul) (l:List Um) (prs:List (Nat×Nat)):List Ul×List Um:=prs.foldl (fun st p=>Sv a crew l p st) (crew,l)
structure SI (crew:List Ul) (l:List Um) (st:List Ul×List Um):Prop where
 l1:st.1.length=crew.length
 l2:st.2.length=l.length
 id:∀ k,k<crew.length→∃ r,st.1[k]? = some r∧r.1=(iF crew k).1
 Pb:∀ i,i<l.length→∃ t,st.2[i]? = some t∧t.2.1=(iP l i).2.1
theorem SI.first (crew:List Ul) (l:List Um):SI crew l (crew,l):=⟨rfl,rfl,fun k h=>⟨_,Yo h,rfl⟩,fun i h=>⟨_,Yv h,rfl⟩⟩
theorem SI.one {a:List PV} {crew:List Ul} {l:List Um} {st:List Ul×List Um} (h:SI crew l st) (p:Nat×Nat):SI crew l (Sv a crew l p st):=by
 refine ⟨by simp [Sv,h.l1],by simp [Sv,h.l2],fun k hk => ?_,fun i hi => ?_⟩
 ·obtain ⟨r,h1,h2⟩:=h.id k hk
  simp only [Sv,List.getElem?_modify,h1]
  by_cases e:p.2=k
  ·simp [e,h2]
  ·simp [e,h2]
 ·obtain ⟨r,h1,h2⟩:=h.Pb i hi
  simp only [Sv,List.getElem?_modify,h1]
  by_cases e:p.1=i
  ·simp [e,h2]
  ·simp [e,h2]
theorem SI.all {a:List PV} {crew:List Ul} {l:List Um}:∀ (prs:List (Nat×Nat)) (st:List Ul×List Um),SI crew l st→SI crew l (prs.foldl (fun st p=>Sv a crew l p st) st)
 | [],st,h=>h
 | p::prs,st,h=>SI.all prs _ (h.one p)
theorem Su {β:Type} (f:β→Int) (l:List β) (h:∀ i (hi:i+1<l.length),f l[i]<f l[i+1]):l.Pairwise fun x y=>f x<f y:=by
 rw [List.pairwise_iff_getElem]
 have key:∀ d i (hj:i+d+1<l.length),f (l[i]'(by omega))<f l[i+d+1]:=by
  intro d
  induction d with
  | zero=>intro i hj;exact h i hj
  | succ d ih =>
   intro i hj
   have h1:=ih i (by omega)
   have h2:=h (i+d+1) (by omega)
   have e:i+(d+1)+1=i+d+1+1:=by omega
   simp only [e]
   omega
 intro i j hi hj hij
 have:=key (j - i - 1) i (by omega)
 have e:i+(j - i - 1)+1=j:=by omega
 simpa only [e] using this
theorem SX {β:Type} (key:β→Int) (a:List β) (i:Nat) (hi:i<a.length):P4 key a i a[i]=true↔∀ j (hj:j+1=i),key (a[j]'(by omega))<key a[i]:=by
 cases i with
 | zero=>exact ⟨fun _ j hj=>by omega,fun _=>rfl⟩
 | succ k =>
  simp only [P4,List.getElem?_eq_getElem (show k<a.length by omega),Bool.not_eq_true',decide_eq_false_iff_not]
  exact ⟨fun h j hj=>by
   have:j=k:=by omega
   subst this
   omega,fun h=>by have:=h k rfl;omega⟩
theorem VO {l:List PB}:Qw l=true↔R3 l:=by
 constructor
 ·intro h
  unfold Qw at h
  simp only [Bool.and_eq_true,List.all_eq_true,List.mem_range,decide_eq_true_eq] at h
  obtain ⟨h1,h2⟩:=h
  have each:∀ i (hi:i<l.length),(1≤l[i].1∧l[i].1≤50)∧(1≤l[i].2.1∧l[i].2.1≤1000)∧(0≤l[i].2.2∧l[i].2.2≤l[i].2.1)∧∀ j (hj:j+1=i),(l[j]'(by omega)).1<l[i].1:=fun i hi=>by
   have:=h1 i hi
   unfold SF at this
   rw [List.getElem?_eq_getElem hi] at this
   unfold Pp at this
   simp only [Bool.and_eq_true,decide_eq_true_eq,SX (·.1) l i hi] at this
   exact ⟨this.1.1.1,this.1.1.2,this.1.2,this.2⟩
  refine ⟨Su _ _ fun i hi=>(each (i+1) hi).2.2.2 i rfl,fun x hx => ?_,h2⟩
  obtain ⟨i,hi,rfl⟩:=List.mem_iff_getElem.1 hx
  obtain ⟨e1,e2,e3,_⟩:=each i hi
  exact ⟨e1.1,e1.2,e2.1,e2.2,e3.1,e3.2⟩
 ·exact R3.ok
theorem QK {a:List PV}:Pw a=true↔PE a:=by
 constructor
 ·intro h
  unfold Pw at h
  simp only [Bool.and_eq_true,List.all_eq_true,List.mem_range,decide_eq_true_eq] at h
  obtain ⟨h1,h2⟩:=h
  have each:∀ i (hi:i<a.length),(1≤a[i].1∧a[i].1≤999)∧(0≤a[i].2.1∧a[i].2.1≤99)∧R3 a[i].2.2∧(∀ j (hj:j+1=i),(a[j]'(by omega)).1<a[i].1)∧∀ j (hj:j<i),(a[j]'(by omega)).2.1≠a[i].2.1:=fun i hi=>by
   have:=h2 i hi
   unfold Tm at this
   rw [List.getElem?_eq_getElem hi] at this
   unfold Pp at this
   simp only [Bool.and_eq_true,decide_eq_true_eq,SX (·.1) a i hi,VO,List.all_eq_true] at this
   refine ⟨this.1.1.1.1,this.1.1.1.2,this.1.1.2,this.1.2,fun j hj => ?_⟩
   have:=this.2 (a[j]'(by omega)) (List.mem_iff_getElem.2 ⟨j,by simp;omega,by simp⟩)
   simpa using this
  have ids:=Su (fun x:PV=>x.1) a fun i hi=>(each (i+1) hi).2.2.2.1 i rfl
  refine ⟨h1,List.pairwise_iff_getElem.2 fun i j hi hj hij=>⟨List.pairwise_iff_getElem.1 ids i j hi hj hij,(each j hj).2.2.2.2 i hij⟩,fun p hp => ?_⟩
  obtain ⟨i,hi,rfl⟩:=List.mem_iff_getElem.1 hp
  obtain ⟨e1,e2,e3,_⟩:=each i hi
  exact ⟨e1,e2,e3⟩
 ·exact PE.ok
def TF (l:List PB) (k:Int) (f:PB→PB):List PB:=l.map fun y=>bif y.1==k then f y else y
def UI (a:List PV) (Pb:Int) (f:List PB→List PB):List PV:=a.map fun p=>bif p.1==Pb then (p.1,p.2.1,f p.2.2) else p
theorem Ub {a:List PV} (h:PE a) {i:Nat} (hi:i<a.length) (f:List PB→List PB):a.modify i (fun p=>(p.1,p.2.1,f p.2.2))=UI a a[i].1 f:=by
 apply List.ext_getElem?
 intro j
 unfold UI
 rw [List.getElem?_modify,List.getElem?_map]
 by_cases hj:j<a.length
 ·rw [List.getElem?_eq_getElem hj]
  by_cases e:i=j
  ·subst e;simp
  ·have hne:(a[j].1==a[i].1)=false:=by
    rw [beq_eq_false_iff_ne]
    intro q
    rcases Nat.lt_trichotomy i j with hl | hl | hl
    ·have:=(List.pairwise_iff_getElem.1 h.2.1 i j hi hj hl).1;omega
    ·exact e hl
    ·have:=(List.pairwise_iff_getElem.1 h.2.1 j i hj hi hl).1;omega
   simp [e,hne]
 ·rw [List.getElem?_eq_none (by omega)];rfl
theorem Yu {l:List PB} (h:R3 l) {i:Nat} (hi:i<l.length) (f:PB→PB):l.modify i f=TF l l[i].1 f:=by
 apply List.ext_getElem?
 intro j
 unfold TF
 rw [List.getElem?_modify,List.getElem?_map]
 by_cases hj:j<l.length
 ·rw [List.getElem?_eq_getElem hj]
  by_cases e:i=j
  ·subst e;simp
  ·have hne:(l[j].1==l[i].1)=false:=by
    rw [beq_eq_false_iff_ne]
    intro q
    rcases Nat.lt_trichotomy i j with hl | hl | hl
    ·have:=List.pairwise_iff_getElem.1 h.1 i j hi hj hl;omega
    ·exact e hl
    ·have:=List.pairwise_iff_getElem.1 h.1 j i hj hi hl;omega
   simp [e,hne]
 ·rw [List.getElem?_eq_none (by omega)];rfl
theorem SQ {l:List PB} (h:R3 l) {x:PB} (hx:x∈l):PK l x.1=x:=by
 unfold PK
 cases hf:l.find? fun y=>y.1==x.1 with
 | none=>have:=List.find?_eq_none.1 hf x hx;simp at this
 | some y =>
  have hy:=List.mem_of_find?_eq_some hf
  have he:y.1=x.1:=by simpa using List.find?_some hf
  obtain ⟨i,hi,rfl⟩:=List.mem_iff_getElem.1 hx
  obtain ⟨j,hj,rfl⟩:=List.mem_iff_getElem.1 hy
  rcases Nat.lt_trichotomy i j with hl | hl | hl
  ·have:=List.pairwise_iff_getElem.1 h.1 i j hi hj hl;omega
  ·subst hl;rfl
  ·have:=List.pairwise_iff_getElem.1 h.1 j i hj hi hl;omega
theorem SR {l:List PB} {k:Int} (h:∀ x∈l,x.1≠k):PK l k=(k,0,0):=by
 unfold PK
 rw [List.find?_eq_none.2 fun x hx=>by simpa using h x hx]
theorem TH {l:List PB} (h:R3 l) (k:Int):0≤(PK l k).2.1∧(PK l k).2.1≤1000∧0≤(PK l k).2.2∧(PK l k).2.2≤(PK l k).2.1∧(PK l k).1=k:=by
 unfold PK
 cases hf:l.find? fun y=>y.1==k with
 | none=>dsimp only;omega
 | some y =>
  have:=h.2.1 y (List.mem_of_find?_eq_some hf)
  have he:y.1=k:=by simpa using List.find?_some hf
  dsimp only;omega
theorem Xa {l:List PB} (h:R3 l) {k:Int} (hk:∃ z∈l,z.1=k) (d:Int):Tn (k,(PK l k).2.1,(PK l k).2.2+d) l=TF l k fun y=>(y.1,y.2.1,y.2.2+d):=by
 unfold Tn TF
 refine List.map_congr_left fun y hy => ?_
 by_cases e:y.1=k
 ·subst e
  rw [SQ h hy]
 ·show (bif y.1==k then _ else _)=(bif y.1==k then _ else _)
  rw [show (y.1==k)=false by simpa using e];rfl
theorem YG {l:List PB} (h:R3 l) (k d:Int) (hd:∀ y∈l,y.1=k→0≤y.2.2+d∧y.2.2+d≤y.2.1):R3 (TF l k fun y=>(y.1,y.2.1,y.2.2+d)):=by
 have key:∀ y:PB,(bif y.1==k then (y.1,y.2.1,y.2.2+d) else y).1=y.1:=fun y=>by cases y.1==k <;> rfl
 refine ⟨?_,fun z hz => ?_,by unfold TF;rw [List.length_map];exact h.2.2⟩
 ·unfold TF
  rw [List.pairwise_map]
  exact h.1.imp fun h=>by rw [key,key];exact h
 ·unfold TF at hz
  obtain ⟨y,hy,rfl⟩:=List.mem_map.1 hz
  have hy2:=h.2.1 y hy
  by_cases e:y.1=k
  ·have:=hd y hy e
   rw [show (y.1==k)=true by simpa using e,cond_true]
   dsimp only;omega
  ·rw [show (y.1==k)=false by simpa using e,cond_false]
   exact hy2
theorem YF {a:List PV} (h:PE a) (Pb:Int) (f:List PB→List PB) (hf:∀ p∈a,p.1=Pb→R3 (f p.2.2)):PE (UI a Pb f):=by
 have key:∀ p:PV,(bif p.1==Pb then (p.1,p.2.1,f p.2.2) else p).1=p.1∧(bif p.1==Pb then (p.1,p.2.1,f p.2.2) else p).2.1=p.2.1:=fun p=>by cases p.1==Pb <;> exact ⟨rfl,rfl⟩
 refine ⟨by unfold UI;rw [List.length_map];exact h.1, ?_,fun z hz => ?_⟩
 ·unfold UI
  rw [List.pairwise_map]
  exact h.2.1.imp fun h=>by rw [(key _).1,(key _).1,(key _).2,(key _).2];exact h
 ·unfold UI at hz
  obtain ⟨p,hp,rfl⟩:=List.mem_map.1 hz
  have hp2:=h.2.2 p hp
  by_cases e:p.1=Pb
  ·rw [show (p.1==Pb)=true by simpa using e,cond_true]
   exact ⟨hp2.1,hp2.2.1,hf p hp e⟩
  ·rw [show (p.1==Pb)=false by simpa using e,cond_false]
   exact hp2
def Sg (a:List PV) (Pb k:Int):PB:=match a[(RY a Pb).toNat]? with
 | some p=>PK p.2.2 k
 | none=>(k,0,0)
def P2 (a:List PV) (Pb k m:Int):Int:=bif Pw a&&(Pp k 1 50&&Pp m 1 1000) then (if RY a Pb<0 then 2 else 0) else 1
def VA (a:List PV) (Pb k d:Int):List PV:=UI a Pb fun l=>TF l k fun y=>(y.1,y.2.1,y.2.2+d)
def TO (a:List PV) (Pb k m:Int):List PV×Int:=if P2 a Pb k m≠0 then (a,P2 a Pb k m) else if (Sg a Pb k).2.1 - (Sg a Pb k).2.2<m then (a,3) else (VA a Pb k m,0)
def Vn (a:List PV) (Pb k m:Int):List PV×Int:=if P2 a Pb k m≠0 then (a,P2 a Pb k m) else if (Sg a Pb k).2.2<m then (a,3) else (VA a Pb k (-m),0)
theorem Q8 {a:List PV} {Pb k m:Int} (h:P2 a Pb k m=0):PE a∧(1≤k∧k≤50)∧(1≤m∧m≤1000)∧∃ i,∃ hi:i<a.length,RY a Pb=(i:Int)∧a[i].1=Pb∧Sg a Pb k=PK a[i].2.2 k:=by
 unfold P2 at h
 cases hs:(Pw a&&(Pp k 1 50&&Pp m 1 1000)) with
 | false=>rw [hs,cond_false] at h;omega
 | true =>
  rw [hs,cond_true] at h
  unfold Pp at hs
  simp only [Bool.and_eq_true,decide_eq_true_eq] at hs
  have hS:=QK.1 hs.1
  refine ⟨hS,hs.2.1,hs.2.2, ?_⟩
  have h12:=hS.1
  rcases (Sf a (by omega) Pb PY (Nat.le_refl _)).2 with ⟨e,_⟩ | ⟨i,hi,e,e2⟩
  ·rw [e] at h;simp at h
  ·refine ⟨i,hi,e,e2, ?_⟩
   unfold Sg
   rw [e,Int.toNat_natCast,List.getElem?_eq_getElem hi]
theorem WL {a:List PV} (h:PE a) (Pb k d:Int) (hd:∀ p∈a,p.1=Pb→∀ y∈p.2.2,y.1=k→0≤y.2.2+d∧y.2.2+d≤y.2.1):PE (VA a Pb k d):=YF h Pb _ fun p hp e=>YG (h.2.2 p hp).2.2 k d (hd p hp e)
theorem Ud {a:List PV} (h:PE a) {i:Nat} (hi:i<a.length) {p:PV} (hp:p∈a) (e:p.1=a[i].1):p=a[i]:=by
 obtain ⟨j,hj,rfl⟩:=List.mem_iff_getElem.1 hp
 rcases Nat.lt_trichotomy i j with hl | hl | hl
 ·have:=(List.pairwise_iff_getElem.1 h.2.1 i j hi hj hl).1;omega
 ·subst hl;rfl
 ·have:=(List.pairwise_iff_getElem.1 h.2.1 j i hj hi hl).1;omega
theorem VY {a:List PV} (h:PE a) (Pb k m:Int):PE (TO a Pb k m).1:=by
 unfold TO
 split
 ·exact h
 ·rename_i hc
  split
  ·exact h
  ·rename_i hlt
   obtain ⟨_,hk,hm,i,hi,e1,e2,e3⟩:=Q8 (by omega:P2 a Pb k m=0)
   refine WL h Pb k m fun p hp ep y hy ey => ?_
   have:p=a[i]:=Ud h hi hp (ep.trans e2.symm)
   subst this
   have hst:=(h.2.2 _ (List.getElem_mem hi)).2.2
   have hyb:=hst.2.1 y hy
   rw [e3, ← ey,SQ hst hy] at hlt
   omega
theorem WW {a:List PV} (h:PE a) (Pb k m:Int):PE (Vn a Pb k m).1:=by
 unfold Vn
 split
 ·exact h
 ·rename_i hc
  split
  ·exact h
  ·rename_i hlt
   obtain ⟨_,hk,hm,i,hi,e1,e2,e3⟩:=Q8 (by omega:P2 a Pb k m=0)
   refine WL h Pb k (-m) fun p hp ep y hy ey => ?_
   have:p=a[i]:=Ud h hi hp (ep.trans e2.symm)
   subst this
   have hst:=(h.2.2 _ (List.getElem_mem hi)).2.2
   have hyb:=hst.2.1 y hy
   rw [e3, ← ey,SQ hst hy] at hlt
   omega
theorem WA (a:List PV) (hs:Pc a) (Pb k m:Int) (n:Nat) (hn:PY≤n):P6 n a Pb k m=some (if P2 a Pb k m≠0 then (0,0,0,0,P2 a Pb k m) else (RY a Pb,(Sg a Pb k).1,(Sg a Pb k).2.1,(Sg a Pb k).2.2,0)):=by
 have hl:a.length≤1048576:=hs.1
 unfold P6
 rw [Pl a hs n hn]
 simp only [Option.bind_some,Qc]
 by_cases hc:P2 a Pb k m=0
 ·rw [if_neg (by rw [hc];simp)]
  obtain ⟨h,hk,hm,i,hi,e1,e2,e3⟩:=Q8 hc
  rw [QK.2 h,show Pp k 1 50=true by unfold Pp;rw [decide_eq_true hk.1,decide_eq_true hk.2];rfl,show Pp m 1 1000=true by unfold Pp;rw [decide_eq_true hm.1,decide_eq_true hm.2];rfl]
  have hd:decide (RY a Pb<0)=false:=by rw [e1,decide_eq_false_iff_not];clear hn;omega
  simp only [Bool.not_true,cond_false,Option.bind_some,(Sf a hl Pb n hn).1,hd]
  rw [e3,e1,PD hi,Option.bind_some,S8 a[i] (by have:=(h.2.2 _ (List.getElem_mem hi)).2.2.2.2;clear hn;omega) k n hn]
  rfl
 ·rw [if_pos hc]
  unfold P2 at hc ⊢
  cases h1:Pw a with
  | false=>rfl
  | true=>cases h2:Pp k 1 50 with
   | false=>rfl
   | true=>cases h3:Pp m 1 1000 with
    | false=>rfl
    | true =>
     rw [h1,h2,h3] at hc
     simp only [Bool.and_self,cond_true] at hc ⊢
     have hlt:RY a Pb<0:=by
      refine Classical.byContradiction fun q=>hc ?_
      rw [if_neg q]
     simp only [Bool.not_true,cond_false,Option.bind_some,(Sf a hl Pb n hn).1,decide_eq_true hlt,cond_true,if_pos hlt]
theorem Ws {a:List PV} (h:PE a) {i:Nat} (hi:i<a.length) {k:Int} (d:Int) (hz:∃ z∈a[i].2.2,z.1=k) (n:Nat) (hn:PY≤n) :
  QZ n a (i:Int) k (PK a[i].2.2 k).2.1 ((PK a[i].2.2 k).2.2+d)=some (VA a a[i].1 k d):=by
 have hst:=(h.2.2 _ (List.getElem_mem hi)).2.2
 obtain ⟨z,hz1,hz2⟩:=hz
 have hpos:((PK a[i].2.2 k).2.1==0)=false:=by
  rw [← hz2,SQ hst hz1,beq_eq_false_iff_ne]
  have:=hst.2.1 z hz1
  clear hn;omega
 unfold QZ
 rw [PO a h.sm n hn,Option.bind_some,Qr hi,cond_true]
 have hg:a[(i:Int).toNat]? = some a[i]:=by simp [hi]
 have hw:=U2 a[i].2.2 hst (k,(PK a[i].2.2 k).2.1,(PK a[i].2.2 k).2.2+d) ⟨z,hz1,hz2⟩ hpos n hn
 dsimp only at hw
 rw [hg,Option.bind_some,Option.bind_some,hw,Option.bind_some,cond_true,Xa hst ⟨z,hz1,hz2⟩,Int.toNat_natCast]
 unfold VA
 rw [← Ub h hi]
 congr 1
 apply List.ext_getElem?
 intro j
 rw [List.getElem?_modify,List.getElem?_modify]
 by_cases e:i=j
 ·subst e;simp [hi]
 ·simp [e]
theorem Uv (a:List PV) (hs:Pc a) (Pb k m:Int) (n:Nat) (hn:PY≤n):Rv n a Pb k m=some (TO a Pb k m):=by
 unfold Rv TO
 rw [WA a hs Pb k m n hn,Option.bind_some]
 by_cases hc:P2 a Pb k m=0
 ·rw [if_neg (by rw [hc];simp),if_neg (by rw [hc];simp)]
  obtain ⟨h,hk,hm,i,hi,e1,e2,e3⟩:=Q8 hc
  have hst:=(h.2.2 _ (List.getElem_mem hi)).2.2
  obtain ⟨b1,b2,b3,b4,b5⟩:=TH hst k
  dsimp only
  rw [show ((0:Int) != 0)=false from rfl,cond_false,e3,PS (by clear hn;omega) (by clear hn;omega)]
  by_cases hlt:(PK a[i].2.2 k).2.1 - (PK a[i].2.2 k).2.2<m
  ·rw [decide_eq_true hlt,if_pos hlt,cond_true,PO a hs n hn];rfl
  ·rw [decide_eq_false hlt,if_neg hlt,cond_false,PS (by clear hn;omega) (by clear hn;omega),e1,b5]
   have hz:∃ z∈a[i].2.2,z.1=k:=by
    refine Classical.byContradiction fun q => ?_
    rw [SR fun x hx e=>q ⟨x,hx,e⟩] at hlt
    dsimp only at hlt
    clear hn;omega
   rw [Ws h hi m hz n hn,e2];rfl
 ·rw [if_pos hc,if_pos hc]
  dsimp only
  rw [show (P2 a Pb k m != 0)=true by simpa using hc,cond_true,PO a hs n hn];rfl
theorem TD {l:List PB} (hs:R3 l) (p0 p1 k:Int) (n:Nat) (hn:PY≤n) :
  ∃ (j:Nat) (b:Bool),QV n p0 p1 l k=some ((j:Int),b)∧(b=true→∃ h:j<l.length,l[j].1=k∧PK l k=l[j])∧(b=false→(∀ x∈l,x.1≠k)∧PK l k=(k,0,0)):=by
 have h8:=hs.2.2
 obtain ⟨j,h1,h2,h3,h4⟩:=WJ (RK l k) l.length (fun i=>decide ((l.getD i (0,0,0)).1<k)) (fun i hi=>by
  simp only [RK,PD hi,Option.bind_some,PF hi (show l.length≤9223372036854775807 by clear hn;omega)]
  rw [show decide ((i:Int)<(l.length:Int))=true by simpa using hi]
  rw [show l.getD i (0,0,0)=l[i] by simp [hi]]
  cases decide (l[i].1<k) <;> rfl) (by simp [RK]) n (by unfold PY at hn;omega)
 have hlow:∀ i (hi:i<l.length),i<j→l[i].1<k:=by
  intro i hi hij
  have:=h3 i hij
  simpa [hi] using this
 unfold QV
 rw [h2]
 by_cases hj:j<l.length
 ·have hge:=h4 hj
  have hge:k≤l[j].1:=by simpa [hj] using hge
  refine ⟨j,l[j].1==k, ?_,fun hb => ?_,fun hb => ?_⟩
  ·simp [hj,PD hj]
  ·have e:l[j].1=k:=by simpa using hb
   exact ⟨hj,e,by rw [← e];exact SQ hs (List.getElem_mem hj)⟩
  ·have hno:∀ x∈l,x.1≠k:=fun x hx=>by
    obtain ⟨i,hi,rfl⟩:=List.getElem_of_mem hx
    have hne:l[j].1≠k:=by simpa using hb
    rcases Nat.lt_trichotomy i j with q | q | q
    ·have:=hlow i hi q;clear hn;omega
    ·subst q;exact hne
    ·have:=List.pairwise_iff_getElem.1 hs.1 j i hj hi q;clear hn;omega
   exact ⟨hno,SR hno⟩
 ·have hno:∀ x∈l,x.1≠k:=fun x hx=>by
   obtain ⟨i,hi,rfl⟩:=List.getElem_of_mem hx
   have:=hlow i hi (by clear hn;omega);clear hn;omega
  refine ⟨j,false, ?_,fun hb=>(by cases hb),fun _=>⟨hno,SR hno⟩⟩
  rw [Option.bind_some,show decide ((j:Int)<(l.length:Int))=false by simp;clear hn;omega];rfl
theorem S7 (a:List PV) (hs:Pc a) (Pb k m:Int) (n:Nat) (hn:PY≤n):SN n a Pb k m=some (if P2 a Pb k m≠0 then (-1,P2 a Pb k m) else (RY a Pb,0)):=by
 have hl:a.length≤1048576:=hs.1
 unfold SN
 rw [Pz a hs n hn,XX]
 simp only [Option.bind_some,TU,Qc]
 by_cases hc:P2 a Pb k m=0
 ·rw [if_neg (by rw [hc];simp)]
  obtain ⟨h,hk,hm,i,hi,e1,e2,e3⟩:=Q8 hc
  rw [QK.2 h,show Pp k 1 50=true by unfold Pp;rw [decide_eq_true hk.1,decide_eq_true hk.2];rfl,show Pp m 1 1000=true by unfold Pp;rw [decide_eq_true hm.1,decide_eq_true hm.2];rfl]
  have hd:decide (RY a Pb≥0)=true:=by rw [e1,decide_eq_true_eq];clear hn;omega
  simp only [Bool.not_true,cond_false,Option.bind_some,(Sf a hl Pb n hn).1,hd,cond_true]
 ·rw [if_pos hc]
  unfold P2 at hc ⊢
  cases h1:Pw a with
  | false=>rfl
  | true=>cases h2:Pp k 1 50 with
   | false=>rfl
   | true=>cases h3:Pp m 1 1000 with
    | false=>rfl
    | true =>
     rw [h1,h2,h3] at hc
     simp only [Bool.and_self,cond_true] at hc ⊢
     have hlt:RY a Pb<0:=by
      refine Classical.byContradiction fun q=>hc ?_
      rw [if_neg q]
     have hd:decide (RY a Pb≥0)=false:=by rw [decide_eq_false_iff_not];clear hn;omega
     simp only [Bool.not_true,cond_false,Option.bind_some,(Sf a hl Pb n hn).1,hd,if_pos hlt]
theorem TS (a:List PV) (hs:Pc a) (Pb k m d:Int) (hd : -1000≤d∧d≤1000) (n:Nat) (hn:PY≤n):RX n a Pb k m d=some (if P2 a Pb k m≠0 then (a,P2 a Pb k m) else
  if (∃ z,z∈(a.getD (RY a Pb).toNat (0,0,[])).2.2∧z.1=k)∧0≤(Sg a Pb k).2.2+d∧(Sg a Pb k).2.2+d≤(Sg a Pb k).2.1 then (VA a Pb k d,0) else (a,3)):=by
 unfold RX
 rw [Pa a hs n hn,S7 a hs Pb k m n hn]
 simp only [Option.bind_some]
 by_cases hc:P2 a Pb k m=0
 ·rw [if_neg (by rw [hc];simp),if_neg (by rw [hc];simp)]
  obtain ⟨h,hk,hm,i,hi,e1,e2,e3⟩:=Q8 hc
  have hst:=(h.2.2 _ (List.getElem_mem hi)).2.2
  obtain ⟨b1,b2,b3,b4,b5⟩:=TH hst k
  dsimp only
  have hgD:a.getD (RY a Pb).toNat (0,0,[])=a[i]:=by rw [e1,Int.toNat_natCast,List.getD,List.getElem?_eq_getElem hi];rfl
  rw [hgD,e3,e1]
  have hin:Of a (i:Int)=true:=Qr hi
  have hg:a[(i:Int).toNat]? = some a[i]:=by simp [hi]
  obtain ⟨j,b,s1,s2,s3⟩:=TD hst a[i].1 a[i].2.1 k n hn
  rw [show ((0:Int) != 0)=false from rfl]
  simp only [cond_false,hin,cond_true,hg,Option.bind_some,s1]
  cases b with
  | false =>
   obtain ⟨q1,q2⟩:=s3 rfl
   rw [if_neg (fun hh=>by obtain ⟨⟨z,z1,z2⟩,_⟩:=hh;exact q1 z z1 z2)]
   rfl
  | true =>
   obtain ⟨hj,q1,q2⟩:=s2 rfl
   have hjn:Of a[i].2.2 (j:Int)=true:=Qr hj
   have hjg:a[i].2.2[(j:Int).toNat]? = some a[i].2.2[j]:=by simp [hj]
   rw [q2] at b1 b2 b3 b4 ⊢
   have hw:Pe (a[i].2.2[j].2.2+d)=a[i].2.2[j].2.2+d:=PS (by clear hn;omega) (by clear hn;omega)
   simp only [Bool.not_true,cond_false,hjn,cond_true,hjg,Option.bind_some,hw,TU,Qc]
   have hiff:Pp (a[i].2.2[j].2.2+d) 0 a[i].2.2[j].2.1=true↔0≤a[i].2.2[j].2.2+d∧a[i].2.2[j].2.2+d≤a[i].2.2[j].2.1:=by unfold Pp;simp
   cases hb:Pp (a[i].2.2[j].2.2+d) 0 a[i].2.2[j].2.1 with
   | false =>
    rw [if_neg (fun hh=>by rw [hiff.2 hh.2] at hb;cases hb)]
    rfl
   | true =>
    rw [if_pos ⟨⟨_,List.getElem_mem hj,q1⟩,hiff.1 hb⟩]
    simp only [Bool.not_true,cond_false]
    congr 2
    unfold VA
    rw [← e2, ← Ub h hi]
    apply List.ext_getElem?
    intro u
    rw [List.getElem?_modify,List.getElem?_modify,Int.toNat_natCast]
    have key:a[i].2.2.modify (j:Int).toNat (fun y=>(y.1,y.2.1,a[i].2.2[j].2.2+d))=TF a[i].2.2 k fun y=>(y.1,y.2.1,y.2.2+d):=by
     rw [← q1, ← Yu hst hj,Int.toNat_natCast]
     apply List.ext_getElem?
     intro v
     rw [List.getElem?_modify,List.getElem?_modify]
     by_cases e':j=v
     ·subst e';simp [hj]
     ·simp [e']
    by_cases e:i=u
    ·subst e
     rw [List.getElem?_eq_getElem hi]
     simp only [if_true,Option.map_eq_map,Option.map_some,key]
    ·simp [e]
 ·rw [if_pos hc,if_pos hc]
  dsimp only
  rw [show (P2 a Pb k m != 0)=true by simpa using hc,cond_true]
theorem Un (a:List PV) (hs:Pc a) (Pb k m:Int) (n:Nat) (hn:PY≤n):Sa n a Pb k m=some (TO a Pb k m):=by
 unfold Sa TO
 by_cases hc:P2 a Pb k m=0
 ·obtain ⟨h,hk,hm,i,hi,e1,e2,e3⟩:=Q8 hc
  rw [TS a hs Pb k m m (by clear hn;omega) n hn]
  simp only [hc,ne_eq,not_true_eq_false,if_false,Option.bind_some]
  have hst:=(h.2.2 _ (List.getElem_mem hi)).2.2
  obtain ⟨b1,b2,b3,b4,b5⟩:=TH hst k
  have hgD:a.getD (RY a Pb).toNat (0,0,[])=a[i]:=by rw [e1,Int.toNat_natCast,List.getD,List.getElem?_eq_getElem hi];rfl
  rw [hgD,e3]
  by_cases hlt:(PK a[i].2.2 k).2.1 - (PK a[i].2.2 k).2.2<m
  ·rw [if_pos hlt,if_neg (fun hh=>by have:=hh.2.2;clear hn;omega)]
  ·rw [if_neg hlt,if_pos]
   refine ⟨?_,by clear hn;omega,by clear hn;omega⟩
   refine Classical.byContradiction fun q => ?_
   rw [SR fun x hx e=>q ⟨x,hx,e⟩] at hlt
   dsimp only at hlt
   clear hn;omega
 ·have hk:RX n a Pb k m m=some (a,P2 a Pb k m):=by
   unfold RX
   rw [Pa a hs n hn,S7 a hs Pb k m n hn,if_pos hc]
   simp only [Option.bind_some,show (P2 a Pb k m != 0)=true by simpa using hc,cond_true]
  rw [hk,if_pos hc];rfl
theorem Tx (a:List PV) (hs:Pc a) (Pb k m:Int) (n:Nat) (hn:PY≤n):Ri n a Pb k m=some (Vn a Pb k m):=by
 unfold Ri Vn
 simp only [TU,Qc,Option.bind_some]
 cases hm1:Pp m 1 1000 with
 | false =>
  have hc:P2 a Pb k m=1:=by unfold P2;rw [hm1];simp
  rw [if_pos (by rw [hc];omega),hc]
  simp only [Bool.not_false,cond_true,Pa a hs n hn,Option.bind_some]
 | true =>
  have hm:1≤m∧m≤1000:=by unfold Pp at hm1;simpa using hm1
  have hneg:IntKind.wrap .i64 (N1 m) = -m:=by
   show Pe (0 - m) = -m
   rw [PS (by clear hn;omega) (by clear hn;omega)];clear hn;omega
  simp only [Bool.not_true,cond_false,hneg]
  rw [TS a hs Pb k m (-m) (by clear hn;omega) n hn,Option.bind_some]
  by_cases hc:P2 a Pb k m=0
  ·obtain ⟨h,hk,hm,i,hi,e1,e2,e3⟩:=Q8 hc
   simp only [hc,ne_eq,not_true_eq_false,if_false]
   have hst:=(h.2.2 _ (List.getElem_mem hi)).2.2
   obtain ⟨b1,b2,b3,b4,b5⟩:=TH hst k
   have hgD:a.getD (RY a Pb).toNat (0,0,[])=a[i]:=by rw [e1,Int.toNat_natCast,List.getD,List.getElem?_eq_getElem hi];rfl
   rw [hgD,e3]
   by_cases hlt:(PK a[i].2.2 k).2.2<m
   ·rw [if_pos hlt,if_neg (fun hh=>by have:=hh.2.1;clear hn;omega)]
   ·rw [if_neg hlt,if_pos]
    refine ⟨?_,by clear hn;omega,by clear hn;omega⟩
    refine Classical.byContradiction fun q => ?_
    rw [SR fun x hx e=>q ⟨x,hx,e⟩] at hlt
    dsimp only at hlt
    clear hn;omega
  ·rw [if_pos hc,if_pos hc]
def Re (f:List PV→PB→List PV×Int):List PB→List PV→Option (List PV)
 | [],s=>some s
 | p::ps,s=>if (f s p).2≠0 then none else Re f ps (f s p).1
def Sz (f:List PV→PB→List PV×Int) (a:List PV) (ps:List PB):List PV×Bool:=match Re f ps a with
 | some s=>(s,true)
 | none=>(a,false)
def RV (s:List PV) (p:PB):List PV×Int:=TO s p.1 p.2.1 p.2.2
def Uu (s:List PV) (p:PB):List PV×Int:=Vn s p.1 p.2.1 p.2.2
theorem VZ {a:List PV} (h:Pc a) (Pb k m:Int):Pc (TO a Pb k m).1:=by
 by_cases hc:P2 a Pb k m=0
 ·exact (VY (Q8 hc).1 Pb k m).sm
 ·unfold TO;rw [if_pos hc];exact h
theorem Yp {a:List PV} (h:Pc a) (Pb k m:Int):Pc (Vn a Pb k m).1:=by
 by_cases hc:P2 a Pb k m=0
 ·exact (WW (Q8 hc).1 Pb k m).sm
 ·unfold Vn;rw [if_pos hc];exact h
theorem UE {f:List PV→PB→List PV×Int} {P:List PV→Prop} (hf:∀ s p,P s→P (f s p).1):∀ (ps:List PB) (s t:List PV),P s→Re f ps s=some t→P t
 | [],s,t,h,e=>by injection e with e;subst e;exact h
 | p::ps,s,t,h,e=>by
  unfold Re at e
  split at e
  ·cases e
  ·exact UE hf ps _ t (hf s p h) e
theorem iA {f:List PV→PB→List PV×Int} {P:List PV→Prop} (hf:∀ s p,P s→P (f s p).1) {a:List PV} (h:P a) (ps:List PB):P (Sz f a ps).1:=by
 unfold Sz
 cases e:Re f ps a with
 | none=>exact h
 | some t=>exact UE hf ps a t h e
theorem Tt (L:Int×List PV×List PV→Option ((Int×List PV×List PV)⊕((Int×List PV×List PV)⊕(List PV×Bool)))) (f:List PV→PB→List PV×Int) (a:List PV) (ps:List PB) (hf:∀ s p,Pc s→Pc (f s p).1) (ha:Pc a)
  (hL:∀ (i:Nat) (s:List PV) (hi:i<ps.length),Pc s→L ((i:Int),[],s)=some (bif (f s ps[i]).2 != 0 then .inr (.inr (a,false)) else .inl (((i+1:Nat):Int),[],(f s ps[i]).1)))
  (he:∀ s,L ((ps.length:Int),[],s)=some (.inr (.inl ((ps.length:Int),[],s)))) (n:Nat) (hn:ps.length<n) :
  iter n L (0,[],a)=some (match Re f ps a with | some t => .inl ((ps.length:Int),[],t) | none => .inr (a,false)):=by
 refine Pm (σ:=List PV) L (fun i s=>((i:Int),[],s)) ps (fun l s=>match Re f l s with | some t => .inl ((ps.length:Int),[],t) | none => .inr (a,false)) (fun i s=>Pc s)
  (fun s _=>by rw [he];rfl) (fun i p l s h1 h2 h3 h4 h5 => ?_) n hn a ha
 have hp:ps[i]=p:=by rw [List.getElem?_eq_getElem h1] at h2;exact Option.some.inj h2
 rw [hL i s h1 h5,hp]
 cases hc:((f s p).2 != 0) with
 | true =>
  right
  unfold Re
  rw [if_pos (by simpa using hc)];rfl
 | false =>
  left
  refine ⟨(f s p).1,rfl,hf s p h5, ?_⟩
  have e:Re f (p::l) s=Re f l (f s p).1:=by
   rw [Re,if_neg (by simpa using hc)]
  show (match Re f (p::l) s with | some t=>_ | none=>_)=_
  rw [e]
theorem T9 (a:List PV) (ha:Pc a) (ps:List PB) (hp:ps.length≤1048576) (n:Nat) (hn:PY≤n):Q2 n a ps=some (Sz RV a ps):=by
 have h1:=Tt (QB n a ps 1) RV a ps (fun s p hs=>VZ hs _ _ _) ha (fun i s hi hs=>by
  have hd:decide ((i:Int)<(ps.length:Int))=true:=by simpa using hi
  simp only [QB,hd,cond_true,PD hi,Option.bind_some,Uv s hs _ _ _ n hn,beq_self_eq_true,PO a ha n hn,PF hi (show ps.length≤9223372036854775807 by clear hn;omega)]
  show (bif (RV s ps[i]).2 != 0 then _ else _)=_
  cases ((RV s ps[i]).2 != 0) <;> rfl) (fun s=>by simp [QB]) n (by unfold PY at hn;omega)
 unfold Q2 Qv
 rw [PO a ha n hn,Option.bind_some,h1,Option.bind_some]
 unfold Sz
 cases Re RV ps a <;> rfl
theorem Sb (a:List PV) (ha:Pc a) (ps:List PB) (hp:ps.length≤1048576) (n:Nat) (hn:PY≤n):Qx n a ps=some (Sz RV a ps):=by
 have h1:=Tt (Qk n a ps) RV a ps (fun s p hs=>VZ hs _ _ _) ha (fun i s hi hs=>by
  have hd:decide ((i:Int)<(ps.length:Int))=true:=by simpa using hi
  simp only [Qk,hd,cond_true,PD hi,Option.bind_some,Un s hs _ _ _ n hn,Pa a ha n hn,PF hi (show ps.length≤9223372036854775807 by clear hn;omega)]
  show (bif (RV s ps[i]).2 != 0 then _ else _)=_
  cases ((RV s ps[i]).2 != 0) <;> rfl) (fun s=>by simp [Qk]) n (by unfold PY at hn;omega)
 unfold Qx Rk
 rw [Pa a ha n hn,Option.bind_some,h1,Option.bind_some]
 unfold Sz
 cases Re RV ps a <;> rfl
theorem TK (a:List PV) (ha:Pc a) (ps:List PB) (hp:ps.length≤1048576) (n:Nat) (hn:PY≤n):Qa n a ps=some (Sz Uu a ps):=by
 have h1:=Tt (QF n a ps) Uu a ps (fun s p hs=>Yp hs _ _ _) ha (fun i s hi hs=>by
  have hd:decide ((i:Int)<(ps.length:Int))=true:=by simpa using hi
  simp only [QF,hd,cond_true,PD hi,Option.bind_some,Tx s hs _ _ _ n hn,Pa a ha n hn,PF hi (show ps.length≤9223372036854775807 by clear hn;omega)]
  show (bif (Uu s ps[i]).2 != 0 then _ else _)=_
  cases ((Uu s ps[i]).2 != 0) <;> rfl) (fun s=>by simp [QF]) n (by unfold PY at hn;omega)
 unfold Qa Ql
 rw [Pa a ha n hn,Option.bind_some,h1,Option.bind_some]
 unfold Sz
 cases Re Uu ps a <;> rfl
def Rd (l:List PH):Prop:=l.Pairwise (fun a b=>a.1<b.1)∧(∀ x∈l,1≤x.1∧x.1≤50∧1≤x.2∧x.2≤1000)∧l.length≤6
theorem Rd.ok {l:List PH} (h:Rd l) (n:Nat) (hn:PY≤n):Pk n l=some true:=by
 obtain ⟨h1,h2,h3⟩:=h
 have:=RU (PX l) (fun i=>(i:Int)) l.length (fun _=>true) (fun i hi=>by
  have hp:(bif decide ((i:Int)>0) then (ND l (Pe ((i:Int) - 1))).bind (fun y=>some (decide (y.1≥l[i].1))) else some false)=some (!P4 (·.1) l i l[i]):=Ss (·.1) l l[i] i hi (by omega) some
  obtain ⟨a1,a2,a3,a4⟩:=h2 _ (List.getElem_mem hi)
  rw [TA h1 (fun x y h=>h) i hi] at hp
  simp only [PX,PD hi,Option.bind_some,Qc,PF hi (by omega),hp]
  rw [show decide ((i:Int)<(l.length:Int))=true by simpa using hi,show Pp l[i].1 1 50=true by simp [Pp];omega,show Pp l[i].2 1 1000=true by simp [Pp];omega]
  rfl) (by simp [PX]) n (by unfold PY at hn;omega)
 unfold Pk
 rw [show ((0:Nat):Int)=0 from rfl] at this
 rw [this,show (List.range l.length).all (fun _=>true)=true from List.all_eq_true.2 fun _ _=>rfl]
 rw [cond_true,Option.bind_some]
 dsimp only
 rw [show decide ((l.length:Int)≤6)=true by simp;omega]
def QO (k:Int):List PB→Int
 | []=>0
 | p::r=>(bif p.2.1==k then p.2.2 else 0)+QO k r
theorem Sx (k:Int):∀ (x y:List PB),QO k (x++y)=QO k x+QO k y
 | [],y=>by simp [QO]
 | p::x,y=>by simp only [List.cons_append,QO,Sx k x y];omega
theorem SY (k:Int):∀ (x:List PB),(∀ p∈x,1≤p.2.2)→0≤QO k x
 | [],_=>by simp [QO]
 | p::x,h=>by
  have h1:=SY k x fun q hq=>h q (List.mem_cons_of_mem _ hq)
  have h2:=h p List.mem_cons_self
  simp only [QO]
  cases (p.2.1==k) <;> simp <;> omega
theorem WI (k:Int):∀ (x:List PB),(∀ p∈x,p.2.1≠k)→QO k x=0
 | [],_=>rfl
 | p::x,h=>by
  have h1:=WI k x fun q hq=>h q (List.mem_cons_of_mem _ hq)
  have h2:(p.2.1==k)=false:=by simpa using h p List.mem_cons_self
  simp only [QO,h1,h2,cond_false];rfl
def SC:List PB→Int
 | []=>0
 | p::r=>p.2.2+SC r
def PZ (m f:Int):Int:=bif decide (m<f) then m else f
def PJ (pid:Int) (fr:Int→Int):List PH→List PB
 | []=>[]
 | y::r=>bif decide (PZ y.2 (fr y.1)>0) then (pid,y.1,PZ y.2 (fr y.1))::PJ pid fr r else PJ pid fr r
theorem Si (pid:Int) (fr:Int→Int):∀ l,(PJ pid fr l).length≤l.length
 | []=>by simp [PJ]
 | y::r=>by
  have:=Si pid fr r
  simp only [PJ]
  cases decide (PZ y.2 (fr y.1)>0) <;> simp <;> omega
theorem Rt (m f:Int):PZ m f≤m∧PZ m f≤f:=by
 unfold PZ
 by_cases h:m<f
 ·rw [show decide (m<f)=true by simpa using h,cond_true];omega
 ·rw [show decide (m<f)=false by simpa using h,cond_false];omega
theorem Rr (pid:Int) (fr:Int→Int):∀ l,∀ p∈PJ pid fr l,p.1=pid∧1≤p.2.2∧∃ y∈l,y.1=p.2.1∧p.2.2≤y.2
 | [],p,h=>by cases h
 | y::r,p,h=>by
  simp only [PJ] at h
  have up:=fun h=>let ⟨a,b,z,hz,h1,h2⟩:=Rr pid fr r p h;(⟨a,b,z,List.mem_cons_of_mem _ hz,h1,h2⟩:p.1=pid∧1≤p.2.2∧∃ w∈y::r,w.1=p.2.1∧p.2.2≤w.2)
  by_cases hg:PZ y.2 (fr y.1)>0
  ·rw [show decide (PZ y.2 (fr y.1)>0)=true by simpa using hg,cond_true] at h
   rcases List.mem_cons.1 h with h | h
   ·subst h;exact ⟨rfl,by show 1≤PZ y.2 (fr y.1);omega,y,List.mem_cons_self,rfl,(Rt _ _).1⟩
   ·exact up h
  ·rw [show decide (PZ y.2 (fr y.1)>0)=false by simpa using hg,cond_false] at h
   exact up h
theorem Sj (pid:Int) (fr:Int→Int):∀ (l:List PH),l.Pairwise (fun a b=>a.1<b.1)→(∀ y∈l,0≤y.2)→∀ y∈l,QO y.1 (PJ pid fr l)≤y.2
 | [],_,_,y,hy=>by cases hy
 | z::r,hp,h0,y,hy=>by
  obtain ⟨h1,h2⟩:=List.pairwise_cons.1 hp
  have hz0:=h0 z List.mem_cons_self
  have hle:=(Rt z.2 (fr z.1)).1
  simp only [PJ]
  rcases List.mem_cons.1 hy with e | hy
  ·subst e
   have hn:QO y.1 (PJ pid fr r)=0:=WI _ _ fun p hp'=>by
    obtain ⟨_,_,w,hw,e,_⟩:=Rr pid fr r p hp'
    have:=h1 w hw;omega
   cases decide (PZ y.2 (fr y.1)>0) with
   | true=>simp only [cond_true,QO,beq_self_eq_true,hn];omega
   | false=>rw [cond_false,hn];exact hz0
  ·have ih:=Sj pid fr r h2 (fun w hw=>h0 w (List.mem_cons_of_mem _ hw)) y hy
   have hne:(z.1==y.1)=false:=by have:=h1 y hy;rw [← Bool.not_eq_true];simp;omega
   cases decide (PZ z.2 (fr z.1)>0) with
   | true=>simp only [cond_true,QO,hne,cond_false];omega
   | false=>rw [cond_false];exact ih
def PC (p:PV) (k:Int):Int:=(PK p.2.2 k).2.1 - (PK p.2.2 k).2.2
theorem SG (p:PV) (h:R3 p.2.2) (k:Int):0≤PC p k∧PC p k≤1000:=by
 unfold PC PK
 cases hf:p.2.2.find? (fun x=>x.1==k) with
 | none=>simp
 | some x =>
  have:=h.2.1 x (List.mem_of_find?_eq_some hf)
  show 0≤x.2.1 - x.2.2∧x.2.1 - x.2.2≤1000
  omega
def Tf (l:List PH):Prop:=l.Pairwise (fun a b=>a.1<b.1)∧(∀ y∈l,0≤y.2∧y.2≤1000)∧l.length≤6
theorem Sq (p:PV) (h:R3 p.2.2) (l:List PH) (hl:Tf l) (n:Nat) (hn:PY≤n):Q5 n p.1 p.2.1 p.2.2 l=some (PJ p.1 (PC p) l,SC (PJ p.1 (PC p) l)):=by
 have h6:=hl.2.2
 have hc:=Pm (σ:=List PB×Int) (RT n p.1 p.2.1 p.2.2 l) (fun i s=>(s.1,s.2,(i:Int))) l (fun r s=>(s.1++PJ p.1 (PC p) r,s.2+SC (PJ p.1 (PC p) r),(l.length:Int)))
  (fun i s=>s.1.length≤i∧0≤s.2∧s.2≤1000 * (i:Int)∧i≤6)
  (fun s hs=>by simp [RT,PJ,SC])
  (fun i y r s h1 h2 h3 h4 h5=>by
   left
   have hy:l[i]=y:=by rw [List.getElem?_eq_getElem h1] at h2;exact Option.some.inj h2
   obtain ⟨out,sum⟩:=s
   obtain ⟨q1,q2,q3,q4⟩:=h5
   dsimp only at q1 q2 q3
   have hy2:=hl.2.1 y (by rw [← hy];exact List.getElem_mem h1)
   have hfr:=SG p h y.1
   unfold RT
   dsimp only
   rw [show decide ((i:Int)<(l.length:Int))=true by simpa using h1,cond_true,PD h1,hy,PF h1 (by omega)]
   simp only [Option.bind_some]
   rw [S8 p (by have:=h.2.2;omega) y.1 n hn,Option.bind_some]
   have hw:Pe ((PK p.2.2 y.1).2.1 - (PK p.2.2 y.1).2.2)=PC p y.1:=by
    unfold PC at hfr ⊢
    rw [PS (by omega) (by omega)]
   rw [hw]
   have hls:(bif decide (y.2<PC p y.1) then some y.2 else some (PC p y.1))=some (PZ y.2 (PC p y.1)):=Wg _ _ _
   rw [hls,Option.bind_some]
   have hle:=Rt y.2 (PC p y.1)
   by_cases hg:PZ y.2 (PC p y.1)>0
   ·rw [show decide (PZ y.2 (PC p y.1)>0)=true by simpa using hg,cond_true,show decide (out.length+[(p.1,y.1,PZ y.2 (PC p y.1))].length≤DZ)=true from S0 (by omega),cond_true,Option.bind_some]
    rw [PS (n:=sum+PZ y.2 (PC p y.1)) (by omega) (by omega)]
    refine ⟨(out++[(p.1,y.1,PZ y.2 (PC p y.1))],sum+PZ y.2 (PC p y.1)),rfl,⟨by show (out++[_]).length≤i+1;rw [List.length_append,List.length_singleton];omega,by show 0≤sum+PZ y.2 (PC p y.1);omega,by show sum+PZ y.2 (PC p y.1)≤1000 * ((i+1:Nat):Int);omega,by omega⟩, ?_⟩
    simp only [PJ]
    rw [show decide (PZ y.2 (PC p y.1)>0)=true by simpa using hg,cond_true]
    simp only [SC,List.append_assoc,List.singleton_append,Int.add_assoc]
   ·rw [show decide (PZ y.2 (PC p y.1)>0)=false by simpa using hg,cond_false,Option.bind_some]
    refine ⟨(out,sum),rfl,⟨by show out.length≤i+1;omega,q2,by show sum≤1000 * ((i+1:Nat):Int);omega,by omega⟩, ?_⟩
    simp only [PJ]
    rw [show decide (PZ y.2 (PC p y.1)>0)=false by simpa using hg,cond_false])
  n (by unfold PY at hn;omega) (([]:List PB),(0:Int)) ⟨by simp,by simp,by simp,by omega⟩
 unfold Q5
 rw [show ((0:Nat):Int)=0 from rfl] at hc
 rw [hc,Option.bind_some]
 simp
def Tq (p:PB) (l:List PH):List PH:=l.map fun y=>bif y.1==p.2.1 then (y.1,Pe (y.2 - p.2.2)) else y
def Tl {β:Type} (f:β→β) (l:List β) (i:Nat):List β:=(l.take i).map f++l.drop i
theorem VM {β:Type} (f:β→β) (l:List β) (m k:Nat):(Tl f l m)[k]? = (l[k]?).map fun a=>if k<m then f a else a:=by
 unfold Tl
 by_cases hk:k<l.length
 ·rw [List.getElem?_eq_getElem hk]
  by_cases h:k<m
  ·rw [List.getElem?_append_left (by simp;omega),List.getElem?_map,List.getElem?_take,if_pos h,List.getElem?_eq_getElem hk]
   simp [h]
  ·have hlen:((l.take m).map f).length=m:=by simp;omega
   rw [List.getElem?_append_right (by rw [hlen];omega),hlen,List.getElem?_drop,show m+(k - m)=k by omega,List.getElem?_eq_getElem hk]
   simp [h]
 ·rw [List.getElem?_eq_none (by simp;omega),List.getElem?_eq_none (by omega)]
  rfl
theorem Ve {β:Type} (f:β→β) (l:List β) (i:Nat):(Tl f l i).length=l.length:=by
 unfold Tl;simp;omega
theorem Vf {β:Type} (f g:β→β) (l:List β) (i:Nat) (hi:i<l.length) (hg:g l[i]=f l[i]):(Tl f l i).modify i g=Tl f l (i+1):=by
 apply List.ext_getElem?
 intro j
 rw [List.getElem?_modify,VM,VM]
 by_cases hj:j<l.length
 ·rw [List.getElem?_eq_getElem hj]
  by_cases h:i=j
  ·subst h
   simp [hg]
  ·simp only [Option.map_some,h,if_false,Option.some.injEq,Option.map_eq_map]
   by_cases h2:j<i
   ·rw [if_pos h2,if_pos (by omega)]
   ·rw [if_neg h2,if_neg (by omega)]
 ·rw [List.getElem?_eq_none (by omega)];rfl
theorem Wu {β:Type} (f:β→β) (l:List β) (i:Nat) (hi:i<l.length) (hf:f l[i]=l[i]):Tl f l i=Tl f l (i+1):=by
 have:=Vf f id l i hi hf.symm
 rw [← this]
 apply List.ext_getElem?
 intro j
 rw [List.getElem?_modify]
 by_cases h:i=j
 ·subst h;simp
 ·simp [h]
theorem XP {β:Type} (f:β→β) (l:List β):Tl f l l.length=l.map f:=by unfold Tl;simp
theorem XW (bt:List PB) (sm:Int) (z:List PH) (k:Nat) (hk:k<bt.length) (l:List PH) (hl:l.length≤6) (n:Nat) (hn:PY≤n) :
  iter n (RC (bt,sm) ((k:Int),z)) (0,l)=some ((l.length:Int),Tq bt[k] l):=by
 have:=TY (RC (bt,sm) ((k:Int),z)) (fun i=>((i:Int),Tl (fun y=>bif y.1==bt[k].2.1 then (y.1,Pe (y.2 - bt[k].2.2)) else y) l i)) l.length ((l.length:Int),Tq bt[k] l) (fun i hi=>by
  have hg:=VM (fun y=>bif y.1==bt[k].2.1 then (y.1,Pe (y.2 - bt[k].2.2)) else y) l i i
  rw [List.getElem?_eq_getElem hi] at hg
  simp only [Option.map_some,Nat.lt_irrefl,if_false] at hg
  have hlen:=Ve (fun y=>bif y.1==bt[k].2.1 then (y.1,Pe (y.2 - bt[k].2.2)) else y) l i
  unfold RC
  dsimp only
  rw [hlen,show decide ((i:Int)<(l.length:Int))=true by simpa using hi,cond_true]
  have hin:Of (Tl (fun y=>bif y.1==bt[k].2.1 then (y.1,Pe (y.2 - bt[k].2.2)) else y) l i) (i:Int)=true:=Qr (by rw [hlen];exact hi)
  have hbt:bt[(k:Int).toNat]? = some bt[k]:=by simp [hk]
  simp only [hin,Qr hk,cond_true,Int.toNat_natCast,hg,Option.bind_some,List.getElem?_eq_getElem hk]
  rw [PF hi (by omega)]
  cases hq:(l[i].1==bt[k].2.1) with
  | true =>
   rw [cond_true,Option.bind_some,Vf _ _ l i hi (by rw [hq];rfl)]
  | false =>
   rw [cond_false,Option.bind_some, ← Wu _ l i hi (by rw [hq];rfl)]) (by
  unfold RC
  dsimp only
  rw [Ve,XP]
  simp [Tq]) n (by unfold PY at hn;omega)
 have h0:Tl (fun y=>bif y.1==bt[k].2.1 then (y.1,Pe (y.2 - bt[k].2.2)) else y) l 0=l:=by unfold Tl;simp
 rw [h0] at this
 exact this
theorem Vs (p:PB) (l:List PH):(Tq p l).length=l.length:=by unfold Tq;simp
theorem YC:∀ (bt:List PB) (l:List PH),(bt.foldl (fun l p=>Tq p l) l).length=l.length
 | [],l=>rfl
 | p::bt,l=>by rw [List.foldl_cons,YC bt,Vs]
theorem Vl (bt:List PB) (hbt:bt.length≤6) (sm:Int) (l:List PH) (hl:l.length≤6) (n:Nat) (hn:PY≤n) :
  iter n (RA n (bt,sm)) (0,l)=some ((bt.length:Int),bt.foldl (fun l p=>Tq p l) l):=by
 have:=Pm (σ:=List PH) (RA n (bt,sm)) (fun i s=>((i:Int),s)) bt (fun r s=>((bt.length:Int),r.foldl (fun l p=>Tq p l) s)) (fun i s=>s.length≤6)
  (fun s hs=>by unfold RA;simp) (fun i p r s h1 h2 h3 h4 h5=>by
   left
   have hp:bt[i]=p:=by rw [List.getElem?_eq_getElem h1] at h2;exact Option.some.inj h2
   refine ⟨Tq p s, ?_,by rw [Vs];exact h5,rfl⟩
   unfold RA
   dsimp only
   rw [show decide ((i:Int)<(bt.length:Int))=true by simpa using h1,cond_true,XW bt sm s i h1 s h5 n hn,Option.bind_some,PF h1 (by omega),hp])
  n (by unfold PY at hn;omega) l hl
 exact this
theorem VQ:∀ (bt:List PB) (l:List PH),(∀ p∈bt,1≤p.2.2)→(∀ y∈l,QO y.1 bt≤y.2∧y.2≤1000)→bt.foldl (fun l p=>Tq p l) l=l.map fun y=>(y.1,y.2 - QO y.1 bt)
 | [],l,_,_=>by simp [QO]
 | p::bt,l,h1,h2=>by
  have hp:=h1 p List.mem_cons_self
  have hr:=fun q hq=>h1 q (List.mem_cons_of_mem p hq)
  have e:Tq p l=l.map fun y=>(y.1,y.2 - bif p.2.1==y.1 then p.2.2 else 0):=by
   unfold Tq
   refine List.map_congr_left fun y hy => ?_
   obtain ⟨q1,q2⟩:=h2 y hy
   have hpos:=SY y.1 bt hr
   simp only [QO] at q1
   have hc:(y.1==p.2.1)=(p.2.1==y.1):=by rw [Bool.eq_iff_iff];simp;exact eq_comm
   rw [hc]
   cases hq:(p.2.1==y.1) with
   | true =>
    rw [hq] at q1
    simp only [cond_true] at q1 ⊢
    rw [PS (by omega) (by omega)]
   | false=>simp
  rw [List.foldl_cons,e,VQ bt _ hr,List.map_map]
  ·refine List.map_congr_left fun y hy => ?_
   simp only [Function.comp_apply,QO]
   rw [Int.sub_sub]
  ·intro y hy
   obtain ⟨z,hz,rfl⟩:=List.mem_map.1 hy
   obtain ⟨q1,q2⟩:=h2 z hz
   simp only [QO] at q1
   have:0≤(bif p.2.1==z.1 then p.2.2 else 0:Int):=by cases (p.2.1==z.1) <;> simp;omega
   exact ⟨by show QO z.1 bt≤z.2 - _;omega,by show z.2 - _≤1000;omega⟩
def Rc:List PH→Int
 | []=>0
 | y::r=>y.2+Rc r
theorem TJ:∀ (l:List PH),(∀ y∈l,0≤y.2)→0≤Rc l∧(Rc l=0→∀ y∈l,y.2=0)
 | [],_=>⟨by simp [Rc],fun _ y hy=>by cases hy⟩
 | z::r,h=>by
  obtain ⟨h1,h2⟩:=TJ r fun y hy=>h y (List.mem_cons_of_mem _ hy)
  have hz:=h z List.mem_cons_self
  refine ⟨by simp only [Rc];omega,fun e y hy => ?_⟩
  simp only [Rc] at e
  rcases List.mem_cons.1 hy with e2 | hy
  ·subst e2;omega
  ·exact h2 (by omega) y hy
theorem Vk (x:(List PB)×Bool×(List PB)×(List PB)×(List PH)×(List Bool)) (hl:Tf x.2.2.2.2.1) (n:Nat) (hn:PY≤n):iter n (Q9 x) (0,0)=some (Rc x.2.2.2.2.1,(x.2.2.2.2.1.length:Int)):=by
 obtain ⟨x1,x2,x3,x4,l,x6⟩:=x
 dsimp only at hl ⊢
 have h6:=hl.2.2
 have:=Pm (σ:=Int) (Q9 (x1,x2,x3,x4,l,x6)) (fun i s=>(s,(i:Int))) l (fun r s=>(s+Rc r,(l.length:Int))) (fun i s=>0≤s∧s≤1000 * (i:Int)∧i≤6)
  (fun s hs=>by unfold Q9;simp [Rc]) (fun i y r s h1 h2 h3 h4 h5=>by
   left
   have hy:l[i]=y:=by rw [List.getElem?_eq_getElem h1] at h2;exact Option.some.inj h2
   have hy2:=hl.2.1 y (by rw [← hy];exact List.getElem_mem h1)
   refine ⟨s+y.2, ?_,⟨by omega,by omega,by omega⟩,by simp only [Rc,Int.add_assoc]⟩
   unfold Q9
   dsimp only
   rw [show decide ((i:Int)<(l.length:Int))=true by simpa using h1,cond_true,Qr h1,cond_true,Int.toNat_natCast,h2,Option.bind_some,PF h1 (by omega),PS (n:=s+y.2) (by omega) (by omega)])
  n (by unfold PY at hn;omega) 0 ⟨by omega,by omega,by omega⟩
 rw [show ((0:Nat):Int)=0 from rfl] at this
 rw [this]
 simp
theorem XV (a:List PV) (ha:PE a) (x:(List PB)×Bool×(List PB)×(List PB)×(List PH)×(List Bool)) (hl:Tf x.2.2.2.2.1) (hu:x.2.2.2.2.2.length=a.length) (n:Nat) (hn:PY≤n) :
  ∃ r:PB,iter n (P5 n a x) ((-1),0,0)=some r∧(r.1 = -1∨∃ j:Nat,j<a.length∧r.1=(j:Int)∧x.2.2.2.2.2[j]? = some false):=by
 obtain ⟨x1,x2,x3,x4,l,u⟩:=x
 dsimp only at hl hu ⊢
 have h12:=ha.1
 obtain ⟨_,r,e,hr⟩:=Qs (P5 n a (x1,x2,x3,x4,l,u)) (P5 n a (x1,x2,x3,x4,l,u)) (fun i (y:PB)=>y.2.2=(i:Int)∧(y.1 = -1∨∃ j:Nat,j<a.length∧y.1=(j:Int)∧u[j]? = some false))
  (fun r=>r.1 = -1∨∃ j:Nat,j<a.length∧r.1=(j:Int)∧u[j]? = some false) a.length (fun i y hi hI=>by
  refine ⟨rfl, ?_⟩
  obtain ⟨b,m,k⟩:=y
  obtain ⟨hk,hb⟩:=hI
  dsimp only at hk hb
  subst hk
  unfold P5
  dsimp only
  by_cases hlt:i<a.length
  ·left
   have hst:=(ha.2.2 _ (List.getElem_mem hlt)).2.2
   rw [show decide ((i:Int)<(a.length:Int))=true by simpa using hlt,cond_true,PD hlt,Option.bind_some,Sq a[i] hst l hl n hn,Option.bind_some,Qr (by omega),cond_true,Int.toNat_natCast,List.getElem?_eq_getElem (by omega:i<u.length),Option.bind_some,PF hlt (by omega)]
   cases hui:u[i]'(by omega) with
   | true =>
    simp only [Bool.not_true,cond_false,Option.bind_some]
    exact ⟨_,rfl,⟨rfl,hb⟩,hlt⟩
   | false =>
    simp only [Bool.not_false,cond_true,Option.bind_some]
    cases decide (SC (PJ a[i].1 (PC a[i]) l)>m) with
    | true=>exact ⟨_,rfl,⟨rfl, .inr ⟨i,hlt,rfl,by rw [List.getElem?_eq_getElem (by omega:i<u.length),hui]⟩⟩,hlt⟩
    | false=>exact ⟨_,rfl,⟨rfl,hb⟩,hlt⟩
  ·right
   rw [show decide ((i:Int)<(a.length:Int))=false by simpa using hlt]
   exact ⟨_,rfl,hb⟩) n (by unfold PY at hn;omega) ((-1),0,0) ⟨rfl, .inl rfl⟩
 exact ⟨r,e,hr⟩
def PG (o:List PB) (want:List PH):Prop:=(∀ p∈o,1≤p.2.2∧∃ y∈want,y.1=p.2.1)∧∀ y∈want,QO y.1 o=y.2
def Qp:List Bool→Nat
 | []=>0
 | b::r=>(bif b then 0 else 1)+Qp r
theorem Sl:∀ (u:List Bool) (j:Nat),u[j]? = some false→Qp (CV u j true)+1=Qp u∧(CV u j true).length=u.length
 | [],j,h=>by simp at h
 | b::r,0,h=>by
  simp at h;subst h
  simp [CV,Qp];omega
 | b::r,j+1,h=>by
  obtain ⟨h1,h2⟩:=Sl r j (by simpa using h)
  simp only [CV,Qp,List.length_cons,h2,and_true]
  omega
theorem Sk:∀ n,Qp (List.replicate n false)=n
 | 0=>rfl
 | n+1=>by rw [List.replicate_succ];simp only [Qp,Sk n,cond_false];omega
def leftOf (want:List PH) (o:List PB):List PH:=want.map fun y=>(y.1,y.2 - QO y.1 o)
theorem UZ {want:List PH} (h:Rd want) {o:List PB} (h1:∀ p∈o,1≤p.2.2) (h2:∀ y∈want,QO y.1 o≤y.2):Tf (leftOf want o):=by
 refine ⟨?_,fun y hy => ?_,by unfold leftOf;rw [List.length_map];exact h.2.2⟩
 ·unfold leftOf;rw [List.pairwise_map];exact h.1
 ·unfold leftOf at hy
  obtain ⟨z,hz,rfl⟩:=List.mem_map.1 hy
  have q1:=h2 z hz
  have q2:=SY z.1 o h1
  have q3:=h.2.1 z hz
  exact ⟨by show 0≤z.2 - _;omega,by show z.2 - _≤1000;omega⟩
theorem cR (a:List PV) (ha:PE a) (want:List PH) (hw:Rd want) (n:Nat) (hn:PY≤n):∃ o b,P9 n a want=some (o,b)∧o.length≤72∧(b=true→PG o want):=by
 have h12:=ha.1
 have h6:=hw.2.2
 obtain ⟨_,r,e,hr⟩:=Qs (QM n a) (QM n a) (fun i (x:(List PB)×Bool×(List PB)×(List PB)×(List PH)×(List Bool))=>x.2.2.2.2.1=leftOf want x.2.2.1∧x.2.2.2.1=[]∧(∀ y∈want,QO y.1 x.2.2.1≤y.2)∧(∀ p∈x.2.2.1,1≤p.2.2∧∃ y∈want,y.1=p.2.1)∧x.2.2.1.length≤6 * i∧x.2.2.2.2.2.length=a.length∧Qp x.2.2.2.2.2+i=a.length)
  (fun r=>match r with | .inl _=>False | .inr x=>x.1.length≤72∧(x.2=true→PG x.1 want)) a.length (fun i x hi hI=>by
  refine ⟨rfl, ?_⟩
  obtain ⟨x1,x2,o,nn,l,u⟩:=x
  obtain ⟨g1,g2,g3,g4,g5,g6,g7⟩:=hI
  dsimp only at g1 g2 g3 g4 g5 g6 g7
  subst g1;subst g2
  have hL:=UZ hw (fun p hp=>(g4 p hp).1) g3
  unfold QM
  rw [Vk (x1,x2,o,[],leftOf want o,u) hL n hn,Option.bind_some]
  dsimp only
  cases hz:(Rc (leftOf want o)==0) with
  | true =>
   right
   refine ⟨.inr (o,true),rfl,by show o.length≤72;omega,fun _=>⟨g4,fun y hy => ?_⟩⟩
   have h0:=(TJ (leftOf want o) fun y hy=>(hL.2.1 y hy).1).2 (by simpa using hz) (y.1,y.2 - QO y.1 o) (by unfold leftOf;exact List.mem_map.2 ⟨y,hy,rfl⟩)
   dsimp only at h0
   show QO y.1 o=y.2
   omega
  | false =>
   obtain ⟨r3,e3,h3⟩:=XV a ha (x1,x2,o,[],leftOf want o,u) hL g6 n hn
   rw [cond_false,e3,Option.bind_some]
   rcases h3 with h3 | ⟨j,hj,h3,hu⟩
   ·rw [h3]
    right
    exact ⟨.inr ([],false),rfl,by simp,fun h=>by cases h⟩
   ·rw [h3]
    left
    dsimp only at hu
    have hju:j<u.length:=by omega
    obtain ⟨f1,f2⟩:=Sl u j hu
    have hst:=(ha.2.2 _ (List.getElem_mem hj)).2.2
    have hcl:=Si a[j].1 (PC a[j]) (leftOf want o)
    have hll:(leftOf want o).length≤6:=hL.2.2
    have hcm:=Rr a[j].1 (PC a[j]) (leftOf want o)
    have hct:=Sj a[j].1 (PC a[j]) (leftOf want o) hL.1 (fun y hy=>(hL.2.1 y hy).1)
    have hi12:i≤12:=by omega
    rw [show decide ((j:Int)<0)=false by simp,cond_false,Qr hju,cond_true,PD hj,Option.bind_some,Sq a[j] hst (leftOf want o) hL n hn,Option.bind_some]
    dsimp only
    rw [show decide (o.length+(PJ a[j].1 (PC a[j]) (leftOf want o)).length≤DZ)=true from Tc (by omega),cond_true,Vl _ (by omega) _ _ hll n hn,Option.bind_some]
    dsimp only
    have hsub:=VQ (PJ a[j].1 (PC a[j]) (leftOf want o)) (leftOf want o) (fun p hp=>(hcm p hp).2.1) (fun y hy=>⟨hct y hy,(hL.2.1 y hy).2⟩)
    have htot:∀ y∈want,QO y.1 (o++PJ a[j].1 (PC a[j]) (leftOf want o))≤y.2:=fun y hy=>by
     have:=hct (y.1,y.2 - QO y.1 o) (by unfold leftOf;exact List.mem_map.2 ⟨y,hy,rfl⟩)
     dsimp only at this
     rw [Sx];omega
    refine ⟨_,rfl,⟨?_,rfl,htot,fun p hp => ?_, ?_,by show (CV u _ true).length=_;rw [Int.toNat_natCast,f2];exact g6,by show Qp (CV u _ true)+(i+1)=_;rw [Int.toNat_natCast];omega⟩,by omega⟩
    ·show (PJ a[j].1 (PC a[j]) (leftOf want o)).foldl (fun l p=>Tq p l) (leftOf want o)=leftOf want (o++PJ a[j].1 (PC a[j]) (leftOf want o))
     rw [hsub]
     unfold leftOf
     rw [List.map_map]
     refine List.map_congr_left fun y hy => ?_
     simp only [Function.comp_apply,Sx,Int.sub_sub]
    ·rcases List.mem_append.1 hp with hp | hp
     ·exact g4 p hp
     ·obtain ⟨_,q1,y,hy,q2,_⟩:=hcm p hp
      unfold leftOf at hy
      obtain ⟨z,hz',rfl⟩:=List.mem_map.1 hy
      exact ⟨q1,z,hz',q2⟩
    ·show (o++_).length≤6 * (i+1)
     rw [List.length_append];omega) n (by unfold PY at hn;omega)
  (([]:List PB),false,([]:List PB),([]:List PB),(([]:List PH)++want),List.replicate (Int.toNat (a.length:Int)) (false:Bool))
  ⟨by show []++want=leftOf want [];unfold leftOf;simp [QO],rfl,(fun y hy=>by show QO y.1 []≤y.2;have:=hw.2.1 y hy;simp only [QO];omega),fun p hp=>(by cases hp),(by simp),(by show (List.replicate _ _).length=_;simp),by show Qp (List.replicate _ _)+0=_;rw [Sk];simp⟩
 unfold P9
 rw [Pl a ha.sm n hn,ha.ok,hw.ok n hn]
 simp only [Option.bind_some,Bool.not_true,cond_false]
 rw [show decide (([]:List PH).length+want.length≤DZ)=true from Tc (by simp;omega),cond_true]
 rw [show (decide (0≤(a.length:Int))&&decide ((a.length:Int)≤(DZ:Int))&&decide True)=true by rw [show decide ((a.length:Int)≤(DZ:Int))=true by rw [decide_eq_true_eq];unfold DZ;omega];simp,cond_true,e,Option.bind_some]
 cases r with
 | inl x=>exact hr.elim
 | inr x=>exact ⟨x.1,x.2,rfl,hr⟩
theorem UY (n:Nat) (hn:PY≤n) (b:List Int) (hb:b.length≤1048576) (ci ch:Int) (hci:0≤ci):∃ (l:List PH) (ci' ch':Int),Q6 n b ci ch=some (l,b,ci',ch')∧0≤ci'∧Rd l:=by
 obtain ⟨_,r,e,hr⟩:=Qs Qh Qh (fun i (x:(List PH)×Int×(List Int)×Int×Int)=>x.2.1=(i:Int)+1∧i≤5∧x.2.2.1=b∧0≤x.2.2.2.1∧x.1.Pairwise (fun a b=>a.1<b.1)∧(∀ y∈x.1,1≤y.1∧y.1≤(i:Int)∧1≤y.2∧y.2≤1000)∧x.1.length≤i)
  (fun r=>r.2.2.1=b∧0≤r.2.2.2.1∧Rd r.1) 5 (fun i x hi hI=>by
  refine ⟨rfl, ?_⟩
  obtain ⟨l,s,b0,ci,ch⟩:=x
  obtain ⟨h1,h2,h3,h4,h5,h6,h7⟩:=hI
  dsimp only at h1 h3 h4 h5 h6 h7
  subst h1;subst h3
  by_cases hlt:i<5
  ·left
   obtain ⟨v,i1,g1,e1,j1⟩:=U0 b0 ci ch h4 hb 4
   unfold Qh
   dsimp only
   rw [show decide ((i:Int)+1<6)=true by simp;omega,cond_true,e1,Option.bind_some]
   dsimp only
   rw [PS (n:=(i:Int)+1+1) (by omega) (by omega)]
   have more:∀ y∈l,1≤y.1∧y.1≤((i+1:Nat):Int)∧1≤y.2∧y.2≤1000:=fun y hy=>by
    obtain ⟨q1,q2,q3⟩:=h6 y hy
    exact ⟨q1,by omega,q3⟩
   cases v with
   | false =>
    rw [cond_false,Option.bind_some]
    exact ⟨_,rfl,⟨by show (i:Int)+1+1=((i+1:Nat):Int)+1;omega,by omega,rfl,j1,h5,more,by show l.length≤i+1;omega⟩,hlt⟩
   | true =>
    obtain ⟨u,i2,g2,e2,j2,m2⟩:=UX b0 i1 g1 j1 hb [1,1,1,2,3,9] (by simp)
    have hu:1≤u∧u≤9:=by
     simp at m2
     omega
    rw [cond_true,e2,Option.bind_some]
    dsimp only
    rw [show decide (l.length+[((i:Int)+1,u)].length≤DZ)=true from S0 (by omega),cond_true,Option.bind_some]
    refine ⟨_,rfl,⟨by show (i:Int)+1+1=((i+1:Nat):Int)+1;omega,by omega,rfl,j2, ?_, ?_, ?_⟩,hlt⟩
    ·refine List.pairwise_append.2 ⟨h5,List.pairwise_singleton _ _,fun x hx y hy => ?_⟩
     rw [List.mem_singleton.1 hy]
     have:=h6 x hx
     show x.1<(i:Int)+1
     omega
    ·intro y hy
     rcases List.mem_append.1 hy with hy | hy
     ·exact more y hy
     ·rw [List.mem_singleton.1 hy]
      refine ⟨by show 1≤(i:Int)+1;omega,by show (i:Int)+1≤((i+1:Nat):Int);omega,by show 1≤u;omega,by show u≤1000;omega⟩
    ·show (l++[_]).length≤i+1
     rw [List.length_append,List.length_singleton];omega
  ·right
   have:i=5:=by omega
   subst this
   refine ⟨_,by unfold Qh;rfl,rfl,h4,h5,fun y hy => ?_,by show l.length≤6;omega⟩
   obtain ⟨q1,q2,q3⟩:=h6 y hy
   exact ⟨q1,by omega,q3⟩) n (by unfold PY at hn;omega) (([]:List PH),1,b,ci,ch) ⟨rfl,by omega,rfl,hci,List.Pairwise.nil,(fun y hy=>by cases hy),by simp⟩
 obtain ⟨l,c,b0,ci',ch'⟩:=r
 obtain ⟨h1,h2,h3⟩:=hr
 dsimp only at h1 h2 h3
 subst h1
 unfold Q6
 rw [e]
 exact ⟨l,ci',ch',rfl,h2,h3⟩
def tp:List PB→Int→Int→Int
 | [],_,_=>0
 | p::r,Pb,k=>(if p.1=Pb∧p.2.1=k then p.2.2 else 0)+tp r Pb k
theorem Te:∀ (x y:List PB) (Pb k:Int),tp (x++y) Pb k=tp x Pb k+tp y Pb k
 | [],y,Pb,k=>by simp [tp]
 | p::x,y,Pb,k=>by simp only [List.cons_append,tp,Te x y Pb k];omega
theorem VS:∀ (x:List PB),(∀ p∈x,1≤p.2.2)→∀ Pb k,0≤tp x Pb k
 | [],_,_,_=>by simp [tp]
 | p::x,h,Pb,k=>by
  have h1:=VS x (fun q hq=>h q (List.mem_cons_of_mem _ hq)) Pb k
  have h2:=h p List.mem_cons_self
  simp only [tp]
  split <;> omega
theorem Zd:∀ (x:List PB) (Pb k:Int),(∀ p∈x,p.1=Pb→p.2.1≠k)→tp x Pb k=0
 | [],_,_,_=>rfl
 | p::x,Pb,k,h=>by
  have h1:=Zd x Pb k fun q hq=>h q (List.mem_cons_of_mem _ hq)
  have h2:=h p List.mem_cons_self
  simp only [tp,h1]
  rw [if_neg (fun hh=>h2 hh.1 hh.2)];rfl
def Vx (f:Int→Int→Int) (p:PV):PV:=(p.1,p.2.1,p.2.2.map fun y=>(y.1,y.2.1,y.2.2+f p.1 y.1))
def PN (a:List PV) (f:Int→Int→Int):List PV:=a.map (Vx f)
theorem SU (a:List PV) (f:Int→Int→Int) (h:∀ Pb k,f Pb k=0):PN a f=a:=by
 unfold PN
 have:Vx f=id:=funext fun p=>by
  unfold Vx
  have:(fun y:PB=>(y.1,y.2.1,y.2.2+f p.1 y.1))=id:=funext fun y=>by rw [h];simp
  rw [this,List.map_id];rfl
 rw [this,List.map_id]
theorem Ti (a:List PV) {f g:Int→Int→Int} (h:∀ Pb k,f Pb k=g Pb k):PN a f=PN a g:=by
 rw [show f=g from funext fun p=>funext fun k=>h p k]
theorem Sn (a:List PV) (f:Int→Int→Int):(PN a f).length=a.length:=by unfold PN;rw [List.length_map]
theorem Tv {a:List PV} {f:Int→Int→Int} {i:Nat} (h:i<(PN a f).length):(PN a f)[i]=Vx f (a[i]'(by rw [Sn] at h;exact h)):=List.getElem_map (Vx f)
theorem Wa (p:PB) (rs:List PB):tp (p::rs) p.1 p.2.1=p.2.2+tp rs p.1 p.2.1:=by
 show (if p.1=p.1∧p.2.1=p.2.1 then p.2.2 else 0)+tp rs p.1 p.2.1=_
 rw [if_pos ⟨rfl,rfl⟩]
theorem WM (a:List PV) (f:Int→Int→Int) (Pb k d:Int):VA (PN a f) Pb k d=PN a fun p s=>f p s+if p=Pb∧s=k then d else 0:=by
 unfold VA UI PN TF
 rw [List.map_map]
 refine List.map_congr_left fun p _ => ?_
 simp only [Function.comp,Vx]
 by_cases hp:p.1=Pb
 ·rw [show (p.1==Pb)=true from beq_iff_eq.2 hp,cond_true,List.map_map]
  refine congrArg (fun l=>(p.1,p.2.1,l)) (List.map_congr_left fun y _ => ?_)
  simp only [Function.comp]
  by_cases hy:y.1=k
  ·rw [show (y.1==k)=true from beq_iff_eq.2 hy,cond_true,if_pos ⟨hp,hy⟩,Int.add_assoc]
  ·rw [show (y.1==k)=false from beq_eq_false_iff_ne.2 hy,cond_false,if_neg (fun h=>hy h.2),Int.add_zero]
 ·rw [show (p.1==Pb)=false from beq_eq_false_iff_ne.2 hp,cond_false]
  refine congrArg (fun l=>(p.1,p.2.1,l)) (List.map_congr_left fun y _ => ?_)
  rw [if_neg (fun h=>hp h.1),Int.add_zero]
theorem Uf (l:List PB) (g:Int→Int) (k:Int):PK (l.map fun y=>(y.1,y.2.1,y.2.2+g y.1)) k=match l.find? (fun x=>x.1==k) with
  | some x=>(x.1,x.2.1,x.2.2+g k)
  | none=>(k,0,0):=by
 unfold PK
 rw [List.find?_map]
 have:((fun x:PB=>x.1==k) ∘ fun y:PB=>(y.1,y.2.1,y.2.2+g y.1))=fun x:PB=>x.1==k:=rfl
 rw [this]
 cases h:l.find? fun x=>x.1==k with
 | none=>rfl
 | some x =>
  have:x.1=k:=by simpa using List.find?_some h
  show (x.1,x.2.1,x.2.2+g x.1)=(x.1,x.2.1,x.2.2+g k)
  rw [this]
theorem Wj (p:PV) (f:Int→Int→Int) (k:Int) (h0:PC p k=0→f p.1 k=0):PC (Vx f p) k=PC p k - f p.1 k:=by
 unfold PC at h0 ⊢
 unfold Vx
 rw [Uf p.2.2 (f p.1) k]
 unfold PK at h0 ⊢
 cases h:p.2.2.find? fun x=>x.1==k with
 | none=>rw [h] at h0;have:=h0 rfl;simp [this]
 | some x=>show x.2.1 - (x.2.2+f p.1 k)=x.2.1 - x.2.2 - f p.1 k;omega
theorem VX {a:List PV} (h:PE a) {i:Nat} (hi:i<a.length) {k m:Int} (hk:1≤k∧k≤50) (hm:1≤m∧m≤1000):P2 a a[i].1 k m=0∧Sg a a[i].1 k=PK a[i].2.2 k:=by
 have h12:=h.1
 rcases (Sf a (by omega) a[i].1 PY (Nat.le_refl _)).2 with ⟨_,e⟩ | ⟨j,hj,e,e2⟩
 ·exact (e _ (List.getElem_mem hi) rfl).elim
 ·have eij:a[j]=a[i]:=Ud h hi (List.getElem_mem hj) e2
  refine ⟨?_, ?_⟩
  ·unfold P2 Pp
   rw [QK.2 h,decide_eq_true hk.1,decide_eq_true hk.2,decide_eq_true hm.1,decide_eq_true hm.2,e]
   simp
  ·unfold Sg
   rw [e,Int.toNat_natCast,List.getElem?_eq_getElem hj]
   show PK a[j].2.2 k=_
   rw [eij]
structure Fits (a:List PV) (ps:List PB):Prop where
 each:∀ p∈ps,(1≤p.2.1∧p.2.1≤50)∧(1≤p.2.2∧p.2.2≤1000)∧∃ i,∃ h:i<a.length,a[i].1=p.1
 free:∀ q∈a,∀ k,tp ps q.1 k≤PC q k
theorem Fits.pos {a:List PV} {ps:List PB} (h:Fits a ps) (Pb k:Int):0≤tp ps Pb k:=VS ps (fun p hp=>(h.each p hp).2.1.1) Pb k
theorem Fits.init {a:List PV} {qs rs:List PB} (h:Fits a (qs++rs)):Fits a qs:=by
 have h1:=fun p hp=>h.each p (List.mem_append_left rs hp)
 refine ⟨h1,fun q hq k => ?_⟩
 have h2:=h.free q hq k
 have h3:=VS rs (fun p hp=>(h.each p (List.mem_append_right qs hp)).2.1.1) q.1 k
 rw [Te] at h2;omega
theorem Fits.tail {a:List PV} {p:PB} {rs:List PB} (h:Fits a (p::rs)):Fits a rs:=by
 refine ⟨fun q hq=>h.each q (List.mem_cons_of_mem _ hq),fun q hq k => ?_⟩
 have h2:=h.free q hq k
 have h3:=(h.each p List.mem_cons_self).2.1.1
 simp only [tp] at h2
 split at h2 <;> omega
theorem Fits.to {a:List PV} {ps:List PB} (h:Fits a ps) (ha:PE a) {q:PV} (hq:q∈a) (k:Int):PC (Vx (tp ps) q) k=PC q k - tp ps q.1 k:=by
 refine Wj q (tp ps) k fun e => ?_
 have h1:=h.free q hq k
 have h2:=h.pos q.1 k
 omega
theorem VG {a:List PV} (ha:PE a):∀ (rs qs:List PB),PE (PN a (tp qs))→Fits a (qs++rs)→Re RV rs (PN a (tp qs))=some (PN a (tp (qs++rs)))∧PE (PN a (tp (qs++rs)))
 | [],qs,hs,_=>by rw [List.append_nil];exact ⟨rfl,hs⟩
 | p::rs,qs,hs,hf=>by
  obtain ⟨hk,hm,i,hi,e⟩:=hf.each p (List.mem_append_right _ List.mem_cons_self)
  have hi2:i<(PN a (tp qs)).length:=by rw [Sn];exact hi
  have hat:=Tv hi2
  have hid:(PN a (tp qs))[i].1=p.1:=by rw [hat];exact e
  obtain ⟨c1,c2⟩:=VX hs hi2 hk hm
  rw [hid] at c1 c2
  have hfree:=hf.free _ (List.getElem_mem hi) p.2.1
  have hto:=hf.init.to ha (List.getElem_mem hi) p.2.1
  have hrs:=VS rs (fun q hq=>(hf.each q (List.mem_append_right _ (List.mem_cons_of_mem _ hq))).2.1.1) p.1 p.2.1
  rw [Te,e,Wa] at hfree
  rw [e] at hto
  have hge:p.2.2≤PC (Vx (tp qs) a[i]) p.2.1:=by omega
  have hneg:¬ ((PK (Vx (tp qs) a[i]).2.2 p.2.1).2.1 - (PK (Vx (tp qs) a[i]).2.2 p.2.1).2.2<p.2.2):=by
   unfold PC at hge;omega
  have hh:RV (PN a (tp qs)) p=(PN a (tp (qs++[p])),0):=by
   unfold RV TO
   rw [c1,if_neg (by omega),c2,hat,if_neg hneg,WM]
   refine congrArg (fun s=>(s,(0:Int))) (Ti a fun Pb k => ?_)
   rw [Te]
   simp only [tp]
   have:(if Pb=p.1∧k=p.2.1 then p.2.2 else 0)=(if p.1=Pb∧p.2.1=k then p.2.2 else 0:Int):=by
    by_cases hc:p.1=Pb∧p.2.1=k
    ·rw [if_pos hc,if_pos ⟨hc.1.symm,hc.2.symm⟩]
    ·rw [if_neg hc,if_neg (fun h=>hc ⟨h.1.symm,h.2.symm⟩)]
   rw [this];omega
  have hS:PE (PN a (tp (qs++[p]))):=by
   have:=VY hs p.1 p.2.1 p.2.2
   unfold RV at hh
   rw [hh] at this;exact this
  have ih:=VG ha rs (qs++[p]) hS (by rw [List.append_assoc];exact hf)
  rw [List.append_assoc] at ih
  rw [Re,hh,if_neg (by simp)]
  exact ih
theorem TG {a:List PV} (ha:PE a) {ps:List PB} (hf:Fits a ps):Sz RV a ps=(PN a (tp ps),true)∧PE (PN a (tp ps)):=by
 have h0:PN a (tp [])=a:=SU a _ fun _ _=>rfl
 have:=VG ha ps [] (by rw [h0];exact ha) hf
 rw [h0,List.nil_append] at this
 unfold Sz
 rw [this.1]
 exact ⟨rfl,this.2⟩
theorem Uz {a:List PV} (ha:PE a) {qs rs:List PB} (hs:PE (PN a (tp qs))) (hf:Fits a (qs++rs)):Sz RV (PN a (tp qs)) rs=(PN a (tp (qs++rs)),true)∧PE (PN a (tp (qs++rs))):=by
 have:=VG ha rs qs hs hf
 unfold Sz
 rw [this.1]
 exact ⟨rfl,this.2⟩
theorem Xc {a:List PV} (ha:PE a):∀ (rs:List PB),PE (PN a (tp rs))→Fits a rs→Re Uu rs (PN a (tp rs))=some a
 | [],_,_=>congrArg some (SU a _ fun _ _=>rfl)
 | p::rs,hs,hf=>by
  obtain ⟨hk,hm,i,hi,e⟩:=hf.each p List.mem_cons_self
  have hi2:i<(PN a (tp (p::rs))).length:=by rw [Sn];exact hi
  have hat:=Tv hi2
  have hid:(PN a (tp (p::rs)))[i].1=p.1:=by rw [hat];exact e
  obtain ⟨c1,c2⟩:=VX hs hi2 hk hm
  rw [hid] at c1 c2
  have hfree:=hf.free _ (List.getElem_mem hi) p.2.1
  have hrs:=hf.tail.pos p.1 p.2.1
  rw [e] at hfree
  have htp:=Wa p rs
  have hst:=Uf a[i].2.2 (tp (p::rs) a[i].1) p.2.1
  have hld:p.2.2≤(PK (Vx (tp (p::rs)) a[i]).2.2 p.2.1).2.2:=by
   unfold Vx
   rw [hst]
   cases hq:a[i].2.2.find? fun x=>x.1==p.2.1 with
   | none =>
    exfalso
    unfold PC PK at hfree
    rw [hq] at hfree
    simp only at hfree
    omega
   | some x =>
    have hx:=((ha.2.2 _ (List.getElem_mem hi)).2.2.2.1 x (List.mem_of_find?_eq_some hq)).2.2.2.2.1
    show p.2.2≤x.2.2+tp (p::rs) a[i].1 p.2.1
    rw [e];omega
  have hh:Uu (PN a (tp (p::rs))) p=(PN a (tp rs),0):=by
   unfold Uu Vn
   rw [c1,if_neg (by omega),c2,hat,if_neg (by omega),WM]
   refine congrArg (fun s=>(s,(0:Int))) (Ti a fun Pb k => ?_)
   simp only [tp]
   by_cases hc:p.1=Pb∧p.2.1=k
   ·rw [if_pos hc,if_pos ⟨hc.1.symm,hc.2.symm⟩];omega
   ·rw [if_neg hc,if_neg (fun h=>hc ⟨h.1.symm,h.2.symm⟩)];omega
  have hS:PE (PN a (tp rs)):=by
   have:=WW hs p.1 p.2.1 p.2.2
   unfold Uu at hh
   rw [hh] at this;exact this
  rw [Re,hh,if_neg (by simp)]
  exact Xc ha rs hS hf.tail
theorem Xb {a:List PV} (ha:PE a) {ps:List PB} (hf:Fits a ps):Sz Uu (PN a (tp ps)) ps=(a,true):=by
 unfold Sz
 rw [Xc ha ps (TG ha hf).2 hf]
def QT (a:List PV) (k:Int):Int:=match a with
 | []=>0
 | p::r=>PC p k+QT r k
def Tr (a:List PV) (ps:List PB) (k:Int):Int:=match a with
 | []=>0
 | p::r=>tp ps p.1 k+Tr r ps k
theorem UT (ps:List PB) (k:Int):∀ (a:List PV),(∀ q∈a,PC (Vx (tp ps) q) k=PC q k - tp ps q.1 k)→QT (PN a (tp ps)) k=QT a k - Tr a ps k
 | [],_=>rfl
 | p::r,h=>by
  have h1:=h p List.mem_cons_self
  have h2:=UT ps k r fun q hq=>h q (List.mem_cons_of_mem _ hq)
  unfold PN at h2 ⊢
  simp only [List.map_cons,QT,Tr,h1,h2]
  omega
def Tb (a:List PV) (p:PB) (k:Int):Int:=match a with
 | []=>0
 | q::r=>(if p.1=q.1∧p.2.1=k then p.2.2 else 0)+Tb r p k
theorem U5 (p:PB) (k:Int):∀ (a:List PV),(∀ q∈a,q.1≠p.1)→Tb a p k=0
 | [],_=>rfl
 | q::r,h=>by
  have h1:=h q List.mem_cons_self
  have h2:=U5 p k r fun z hz=>h z (List.mem_cons_of_mem _ hz)
  simp only [Tb,h2]
  rw [if_neg (fun hh=>h1 hh.1.symm)];rfl
theorem U6 (p:PB) (k:Int):∀ (a:List PV),a.Pairwise (fun x y=>x.1≠y.1)→(∃ q∈a,q.1=p.1)→Tb a p k=bif p.2.1==k then p.2.2 else 0
 | [],_,⟨q,hq,_⟩=>by cases hq
 | q::r,hp,⟨z,hz,ez⟩=>by
  obtain ⟨h1,h2⟩:=List.pairwise_cons.1 hp
  simp only [Tb]
  by_cases hq:q.1=p.1
  ·rw [U5 p k r fun y hy e=>h1 y hy (hq.trans e.symm)]
   by_cases hk:p.2.1=k
   ·rw [if_pos ⟨hq.symm,hk⟩,show (p.2.1==k)=true from beq_iff_eq.2 hk,cond_true];omega
   ·rw [if_neg (fun h=>hk h.2),show (p.2.1==k)=false from beq_eq_false_iff_ne.2 hk,cond_false];omega
  ·rcases List.mem_cons.1 hz with e | hz
   ·rw [e] at ez;exact (hq ez).elim
   ·rw [if_neg (fun h=>hq h.1.symm),U6 p k r h2 ⟨z,hz,ez⟩];omega
theorem Uj (p:PB) (ps:List PB) (k:Int):∀ (a:List PV),Tr a (p::ps) k=Tb a p k+Tr a ps k
 | []=>rfl
 | q::r=>by
  simp only [Tr,Tb,Uj p ps k r,tp]
  omega
theorem U8 (k:Int):∀ (a:List PV),Tr a [] k=0
 | []=>rfl
 | q::r=>by simp only [Tr,U8 k r,tp];rfl
theorem Vw (k:Int) (a:List PV) (ha:a.Pairwise fun x y=>x.1≠y.1):∀ (ps:List PB),(∀ p∈ps,∃ q∈a,q.1=p.1)→Tr a ps k=QO k ps
 | [],_=>U8 k a
 | p::ps,h=>by
  rw [Uj,U6 p k a ha (h p List.mem_cons_self),Vw k a ha ps fun q hq=>h q (List.mem_cons_of_mem _ hq)]
  rfl
theorem Wk {a:List PV} (ha:PE a) {ps:List PB} (hf:Fits a ps) (k:Int):QT (PN a (tp ps)) k=QT a k - QO k ps:=by
 rw [UT ps k a fun q hq=>hf.to ha hq k,Vw k a (ha.2.1.imp fun h=>by omega) ps fun p hp => ?_]
 obtain ⟨_,_,i,hi,e⟩:=hf.each p hp
 exact ⟨a[i],List.getElem_mem hi,e⟩
def T3 (l:List PH) (i:Nat):Bool:=match l[i]? with
 | some x=>Pp x.1 1 50&&Pp x.2 1 1000&&P4 (·.1) l i x
 | none=>false
def Q7 (l:List PH):Bool:=(List.range l.length).all (T3 l)&&decide (l.length≤6)
theorem Rs {l:List PH}:Q7 l=true↔Rd l:=by
 constructor
 ·intro h
  unfold Q7 at h
  simp only [Bool.and_eq_true,decide_eq_true_eq,List.all_eq_true,List.mem_range] at h
  obtain ⟨hall,h6⟩:=h
  have hi:∀ i (hi:i<l.length),(1≤l[i].1∧l[i].1≤50)∧(1≤l[i].2∧l[i].2≤1000)∧P4 (·.1) l i l[i]=true:=by
   intro i hi
   have:=hall i hi
   unfold T3 Pp at this
   rw [List.getElem?_eq_getElem hi] at this
   simp only [Bool.and_eq_true,decide_eq_true_eq] at this
   exact ⟨this.1.1,this.1.2,this.2⟩
  refine ⟨Su _ _ fun i hi2=>(SX (·.1) l (i+1) hi2).1 (hi (i+1) hi2).2.2 i rfl,fun x hx => ?_,h6⟩
  obtain ⟨i,hi2,rfl⟩:=List.mem_iff_getElem.1 hx
  exact ⟨(hi i hi2).1.1,(hi i hi2).1.2,(hi i hi2).2.1.1,(hi i hi2).2.1.2⟩
 ·rintro ⟨h1,h2,h3⟩
  unfold Q7
  simp only [Bool.and_eq_true,decide_eq_true_eq,List.all_eq_true,List.mem_range]
  refine ⟨fun i hi => ?_,h3⟩
  obtain ⟨a1,a2,a3,a4⟩:=h2 _ (List.getElem_mem hi)
  unfold T3 Pp
  rw [List.getElem?_eq_getElem hi]
  simp only [Bool.and_eq_true,decide_eq_true_eq]
  exact ⟨⟨⟨a1,a2⟩,a3,a4⟩,TA h1 (fun x y h=>h) i hi⟩
theorem Rw (l:List PH) (hl:l.length≤1048576) (n:Nat) (hn:PY≤n):Pk n l=some (Q7 l):=by
 have:=RU (PX l) (fun i=>(i:Int)) l.length (T3 l) (fun i hi=>by
  have hp:(bif decide ((i:Int)>0) then (ND l (Pe ((i:Int) - 1))).bind (fun y=>some (decide (y.1≥l[i].1))) else some false)=some (!P4 (·.1) l i l[i]):=Ss (·.1) l l[i] i hi hl some
  unfold T3
  rw [List.getElem?_eq_getElem hi]
  simp only [PX,PD hi,Option.bind_some,Qc,PF hi (show l.length≤9223372036854775807 by clear hn;omega),hp]
  rw [show decide ((i:Int)<(l.length:Int))=true by rw [decide_eq_true_eq];clear hn;omega]
  cases Pp l[i].1 1 50 <;> cases Pp l[i].2 1 1000 <;> cases P4 (·.1) l i l[i] <;> rfl) (by simp [PX]) n (by unfold PY at hn;omega)
 unfold Pk Q7
 rw [show ((0:Nat):Int)=0 from rfl] at this
 rw [this,Option.bind_some]
 cases (List.range l.length).all (T3 l) with
 | false=>rfl
 | true =>
  rw [cond_true,Bool.true_and]
  show some (decide ((l.length:Int)≤6))=_
  rw [show decide ((l.length:Int)≤6)=decide (l.length≤6) by rw [decide_eq_decide];clear hn;omega]
theorem Qy (l:List PH) (hl:l.length≤1048576) (n:Nat) (hn:PY≤n):QE n l=some (Q7 l):=by rw [V8,Rw l hl n hn]
theorem Vd (m f:Int):NK m f=PZ m f:=by
 unfold NK PZ
 by_cases h:f<m
 ·rw [decide_eq_true h,decide_eq_false (show ¬ m<f by omega)];rfl
 ·rw [decide_eq_false h]
  by_cases h2:m<f
  ·rw [decide_eq_true h2];rfl
  ·rw [decide_eq_false h2];show m=f;omega
theorem UW (p:PV) (h:R3 p.2.2) (l:List PH) (hl:Tf l) (n:Nat) (hn:PY≤n):SL n p.1 p.2.1 p.2.2 l=some (PJ p.1 (PC p) l,SC (PJ p.1 (PC p) l)):=by
 have h6:=hl.2.2
 have hc:=Pm (σ:=List PB×Int) (Rz n p.1 p.2.1 p.2.2 l) (fun i s=>(s.1,s.2,(i:Int))) l (fun r s=>(s.1++PJ p.1 (PC p) r,s.2+SC (PJ p.1 (PC p) r),(l.length:Int)))
  (fun i s=>s.1.length≤i∧0≤s.2∧s.2≤1000 * (i:Int)∧i≤6)
  (fun s hs=>by simp [Rz,PJ,SC])
  (fun i y r s h1 h2 h3 h4 h5=>by
   left
   have hy:l[i]=y:=by rw [List.getElem?_eq_getElem h1] at h2;exact Option.some.inj h2
   obtain ⟨out,sum⟩:=s
   obtain ⟨q1,q2,q3,q4⟩:=h5
   dsimp only at q1 q2 q3
   have hy2:=hl.2.1 y (by rw [← hy];exact List.getElem_mem h1)
   have hfr:=SG p h y.1
   obtain ⟨j,b,e,e1,e2⟩:=TD h p.1 p.2.1 y.1 n hn
   have hle:=Rt y.2 (PC p y.1)
   unfold Rz
   dsimp only
   rw [show decide ((i:Int)<(l.length:Int))=true by simpa using h1,cond_true,PD h1,hy,PF h1 (show l.length≤9223372036854775807 by clear hn;omega)]
   simp only [Option.bind_some]
   rw [e,Option.bind_some]
   dsimp only
   cases b with
   | false =>
    have hz:PC p y.1=0:=by unfold PC;rw [(e2 rfl).2];rfl
    have hng:¬ PZ y.2 (PC p y.1)>0:=by clear hn;omega
    refine ⟨(out,sum),rfl,⟨by show out.length≤i+1;clear hn;omega,q2,by show sum≤1000 * ((i+1:Nat):Int);clear hn;omega,by clear hn;omega⟩, ?_⟩
    simp only [PJ]
    rw [decide_eq_false hng,cond_false]
   | true =>
    obtain ⟨hj,_,ej⟩:=e1 rfl
    have hw:Pe (p.2.2[j].2.1 - p.2.2[j].2.2)=PC p y.1:=by
     unfold PC at hfr ⊢
     rw [ej] at hfr ⊢
     rw [PS (by clear hn;omega) (by clear hn;omega)]
    simp only [Bool.not_true,cond_false,PD hj,Option.bind_some,hw,Vd]
    by_cases hg:PZ y.2 (PC p y.1)>0
    ·rw [decide_eq_true hg,cond_true,show decide (out.length+[(p.1,y.1,PZ y.2 (PC p y.1))].length≤DZ)=true from S0 (by clear hn;omega),cond_true,Option.bind_some]
     rw [PS (n:=sum+PZ y.2 (PC p y.1)) (by clear hn;omega) (by clear hn;omega)]
     refine ⟨(out++[(p.1,y.1,PZ y.2 (PC p y.1))],sum+PZ y.2 (PC p y.1)),rfl,⟨by show (out++[_]).length≤i+1;rw [List.length_append,List.length_singleton];clear hn;omega,by show 0≤sum+PZ y.2 (PC p y.1);clear hn;omega,by show sum+PZ y.2 (PC p y.1)≤1000 * ((i+1:Nat):Int);clear hn;omega,by clear hn;omega⟩, ?_⟩
     simp only [PJ]
     rw [decide_eq_true hg,cond_true]
     simp only [SC,List.append_assoc,List.singleton_append,Int.add_assoc]
    ·rw [decide_eq_false hg,cond_false,Option.bind_some]
     refine ⟨(out,sum),rfl,⟨by show out.length≤i+1;clear hn;omega,q2,by show sum≤1000 * ((i+1:Nat):Int);clear hn;omega,by clear hn;omega⟩, ?_⟩
     simp only [PJ]
     rw [decide_eq_false hg,cond_false])
  n (by unfold PY at hn;omega) (([]:List PB),(0:Int)) ⟨by simp,by simp,by simp,by omega⟩
 unfold SL
 rw [show ((0:Nat):Int)=0 from rfl] at hc
 rw [hc,Option.bind_some]
 simp
def Ta (l:List PH) (bt:List PB):List PH:=(l.map fun y=>(y.1,y.2 - QO y.1 bt)).filter fun y=>decide (y.2>0)
theorem VI (bt:List PB) (hb:bt.length≤72) (h1:∀ p∈bt,1≤p.2.2) (k m:Int) (ht:QO k bt≤m) (hm:m≤1000) (n:Nat) (hn:PY≤n) :
  iter n (Rl bt) (0,k,m)=some ((bt.length:Int),k,m - QO k bt):=by
 have hc:=Pm (σ:=Int) (Rl bt) (fun i s=>((i:Int),k,s)) bt (fun r s=>((bt.length:Int),k,s - QO k r)) (fun i s=>QO k (bt.drop i)≤s∧s≤1000)
  (fun s hs=>by unfold Rl;simp [QO])
  (fun i p r s g1 g2 g3 g4 g5=>by
   left
   have hp:bt[i]=p:=by rw [List.getElem?_eq_getElem g1] at g2;exact Option.some.inj g2
   have hmem:p∈bt:=by rw [← hp];exact List.getElem_mem g1
   have hpp:=h1 p hmem
   have hrp:=SY k r fun q hq=>h1 q (List.mem_of_mem_drop (i:=i) (by rw [g3];exact List.mem_cons_of_mem _ hq))
   obtain ⟨g5,g6⟩:=g5
   rw [g3] at g5
   simp only [QO] at g5
   rw [g4]
   unfold Rl
   dsimp only
   rw [show decide ((i:Int)<(bt.length:Int))=true by rw [decide_eq_true_eq];clear hn;omega,cond_true,PD g1,hp,Option.bind_some,PF g1 (show bt.length≤9223372036854775807 by clear hn;omega)]
   simp only [QO]
   cases hq:(p.2.1==k) with
   | true =>
    rw [hq,cond_true] at g5
    rw [cond_true,Option.bind_some,PS (n:=s - p.2.2) (by clear hn;omega) (by clear hn;omega)]
    exact ⟨s - p.2.2,rfl,⟨by clear hn;omega,by clear hn;omega⟩,by rw [cond_true,Int.sub_sub]⟩
   | false =>
    rw [hq,cond_false] at g5
    rw [cond_false,Option.bind_some]
    exact ⟨s,rfl,⟨by clear hn;omega,g6⟩,by rw [cond_false,Int.zero_add]⟩)
  n (by unfold PY at hn;omega) m ⟨ht,hm⟩
 exact hc
theorem Uo (l:List PH) (hl:l.length≤6) (bt:List PB) (hb:bt.length≤72) (h1:∀ p∈bt,1≤p.2.2) (ht:∀ y∈l,QO y.1 bt≤y.2∧y.2≤1000) (n:Nat) (hn:PY≤n):Sd n l bt=some (Ta l bt):=by
 have hc:=Pm (σ:=List PH) (SE n l bt) (fun i s=>(s,(i:Int))) l (fun r s=>(s++Ta r bt,(l.length:Int))) (fun i s=>s.length≤i)
  (fun s hs=>by unfold SE;simp [Ta])
  (fun i y r s g1 g2 g3 g4 g5=>by
   left
   have hy:l[i]=y:=by rw [List.getElem?_eq_getElem g1] at g2;exact Option.some.inj g2
   obtain ⟨t1,t2⟩:=ht y (by rw [← hy];exact List.getElem_mem g1)
   unfold SE
   dsimp only
   rw [show decide ((i:Int)<(l.length:Int))=true by rw [decide_eq_true_eq];clear hn;omega,cond_true,PD g1,hy,Option.bind_some,PF g1 (show l.length≤9223372036854775807 by clear hn;omega),VI bt hb h1 y.1 y.2 t1 t2 n hn,Option.bind_some]
   dsimp only
   by_cases hg:y.2 - QO y.1 bt>0
   ·rw [decide_eq_true hg,cond_true,show decide (s.length+[(y.1,y.2 - QO y.1 bt)].length≤DZ)=true from S0 (by clear hn;omega),cond_true,Option.bind_some]
    refine ⟨s++[(y.1,y.2 - QO y.1 bt)],rfl,by rw [List.length_append,List.length_singleton];clear hn;omega, ?_⟩
    unfold Ta
    rw [List.map_cons,List.filter_cons,if_pos (by rw [decide_eq_true_eq];exact hg),List.append_assoc,List.singleton_append]
   ·rw [decide_eq_false hg,cond_false,Option.bind_some]
    refine ⟨s,rfl,by clear hn;omega, ?_⟩
    unfold Ta
    rw [List.map_cons,List.filter_cons,if_neg (by rw [decide_eq_true_eq];exact hg)])
  n (by unfold PY at hn;omega) [] (by simp)
 unfold Sd
 rw [show ((0:Nat):Int)=0 from rfl] at hc
 rw [hc,Option.bind_some,List.nil_append]
theorem TN (pid:Int) (fr:Int→Int):∀ l:List PH,PJ pid fr (l.filter fun y=>decide (y.2>0))=PJ pid fr l
 | []=>rfl
 | y::r=>by
  have ih:=TN pid fr r
  rw [List.filter_cons]
  by_cases h:y.2>0
  ·rw [if_pos (by rw [decide_eq_true_eq];exact h)]
   simp only [PJ,ih]
  ·rw [if_neg (by rw [decide_eq_true_eq];exact h)]
   have:=(Rt y.2 (fr y.1)).1
   simp only [PJ,ih]
   rw [decide_eq_false (show ¬ PZ y.2 (fr y.1)>0 by omega),cond_false]
theorem UR (pid:Int) (fr:Int→Int):∀ l:List PH,(∀ y∈l,0<y.2→fr y.1≤0)→PJ pid fr l=[]
 | [],_=>rfl
 | y::r,h=>by
  have ih:=UR pid fr r fun z hz=>h z (List.mem_cons_of_mem _ hz)
  have h1:=h y List.mem_cons_self
  have h2:=Rt y.2 (fr y.1)
  simp only [PJ,ih]
  rw [decide_eq_false (show ¬ PZ y.2 (fr y.1)>0 by
   by_cases hy:0<y.2
   ·have:=h1 hy;omega
   ·omega),cond_false]
theorem VF (pid:Int) {f g:Int→Int} (h:∀ k,f k=g k) (l:List PH):PJ pid f l=PJ pid g l:=by rw [show f=g from funext h]
theorem Uy (pid:Int) (fr:Int→Int) (hfr:∀ k,0≤fr k):∀ (l:List PH),l.Pairwise (fun a b=>a.1<b.1)→(∀ y∈l,0≤y.2)→(∀ k,tp (PJ pid fr l) pid k=QO k (PJ pid fr l)∧QO k (PJ pid fr l)≤fr k)∧∀ y∈l,QO y.1 (PJ pid fr l)=PZ y.2 (fr y.1)
 | [],_,_=>⟨fun k=>⟨rfl,by simp only [PJ,QO];exact hfr k⟩,fun y hy=>by cases hy⟩
 | z::r,hp,h0=>by
  obtain ⟨h1,h2⟩:=List.pairwise_cons.1 hp
  obtain ⟨i1,i2⟩:=Uy pid fr hfr r h2 fun y hy=>h0 y (List.mem_cons_of_mem _ hy)
  have hz0:=h0 z List.mem_cons_self
  have hfz:=hfr z.1
  have hno:QO z.1 (PJ pid fr r)=0:=WI _ _ fun p hp'=>by
   obtain ⟨_,_,w,hw,e,_⟩:=Rr pid fr r p hp'
   have:=h1 w hw;omega
  have hlz:0≤PZ z.2 (fr z.1):=by unfold PZ;by_cases h:z.2<fr z.1 <;> simp [h] <;> omega
  have hle:=Rt z.2 (fr z.1)
  simp only [PJ]
  by_cases hg:PZ z.2 (fr z.1)>0
  ·rw [decide_eq_true hg,cond_true]
   refine ⟨fun k => ?_,fun y hy => ?_⟩
   ·obtain ⟨j1,j2⟩:=i1 k
    simp only [tp,QO]
    by_cases hk:z.1=k
    ·subst hk
     rw [if_pos ⟨trivial,rfl⟩,beq_self_eq_true,cond_true,j1]
     exact ⟨rfl,by omega⟩
    ·rw [if_neg (fun h=>hk h.2),show (z.1==k)=false from beq_eq_false_iff_ne.2 hk,cond_false,j1]
     exact ⟨rfl,by omega⟩
   ·simp only [QO]
    rcases List.mem_cons.1 hy with e | hy
    ·subst e
     rw [beq_self_eq_true,cond_true,hno];omega
    ·have:=h1 y hy
     rw [show (z.1==y.1)=false from beq_eq_false_iff_ne.2 (by omega),cond_false,i2 y hy];omega
  ·rw [decide_eq_false hg,cond_false]
   refine ⟨i1,fun y hy => ?_⟩
   rcases List.mem_cons.1 hy with e | hy
   ·subst e
    rw [hno];omega
   ·exact i2 y hy
theorem SS {β:Type} (P:β→Bool) (f:β→β):∀ l:List β,(∀ y∈l,P y=false→P (f y)=false)→((l.filter P).map f).filter P=(l.map f).filter P
 | [],_=>rfl
 | y::r,h=>by
  have ih:=SS P f r fun z hz=>h z (List.mem_cons_of_mem _ hz)
  rw [List.filter_cons]
  cases hp:P y with
  | true=>rw [if_pos rfl,List.map_cons,List.map_cons,List.filter_cons,List.filter_cons,ih]
  | false =>
   rw [if_neg (by simp),ih,List.map_cons,List.filter_cons,h y List.mem_cons_self hp,if_neg (by simp)]
theorem W4 {a:List PV} (ha:PE a) {work:List PV} (hwl:work.length=a.length) (hw:PE work) (x1:List PB) (x2:Bool) (o x4:List PB) {l left:List PH} (hl:Tf l) (hleft:Tf left) {u:List Bool} (hu:u.length=a.length)
  (hc:∀ k (h:k<a.length) (h2:k<work.length),(u[k]? = some false→PJ work[k].1 (PC work[k]) left=PJ a[k].1 (PC a[k]) l)∧(u[k]? = some true→PJ work[k].1 (PC work[k]) left=[])) (n:Nat) (hn:PY≤n) :
  ∃ (best most:Int) (bt:List PB),iter n (P5 n a (x1,x2,o,x4,l,u)) ((-1),0,0)=some (best,most,(a.length:Int))∧iter n (Ry n (o,left,work)) (([]:List PB),0,0)=some (bt,most,(a.length:Int)) ∧
   (best = -1∧most=0∧bt=[]∨∃ j,∃ h:j<a.length,best=(j:Int)∧u[j]? = some false∧bt=PJ a[j].1 (PC a[j]) l∧0<most):=by
 have h12:=ha.1
 obtain ⟨z,w,hS,e1,e2⟩:=Va (f:=P5 n a (x1,x2,o,x4,l,u)) (g:=Ry n (o,left,work))
  (fun s t=>∃ k:Nat,k≤a.length∧s.2.2=(k:Int)∧t.2.2=(k:Int)∧t.2.1=s.2.1∧(s.1 = -1∧s.2.1=0∧t.1=[]∨∃ j,∃ h:j<a.length,s.1=(j:Int)∧u[j]? = some false∧t.1=PJ a[j].1 (PC a[j]) l∧0<s.2.1))
  (fun z w=>z.2.2=(a.length:Int)∧w.2.2=(a.length:Int)∧w.2.1=z.2.1∧(z.1 = -1∧z.2.1=0∧w.1=[]∨∃ j,∃ h:j<a.length,z.1=(j:Int)∧u[j]? = some false∧w.1=PJ a[j].1 (PC a[j]) l∧0<z.2.1))
  (fun s=>((a.length:Int) - s.2.2).toNat) (fun s t hR=>by
   obtain ⟨b,m,i⟩:=s
   obtain ⟨bt,m2,i2⟩:=t
   obtain ⟨k,hk,h1,h2,h3,h4⟩:=hR
   dsimp only at h1 h2 h3 h4
   subst h1;subst h2;subst h3
   have hm0:0≤m2:=by
    rcases h4 with ⟨_,h,_⟩ | ⟨_,_,_,_,_,h⟩ <;> (clear hn;omega)
   unfold P5 Ry
   dsimp only
   rw [hwl]
   by_cases hlt:k<a.length
   ·right
    have hkw:k<work.length:=by clear hn;omega
    have hst:=(ha.2.2 _ (List.getElem_mem hlt)).2.2
    have hst2:=(hw.2.2 _ (List.getElem_mem hkw)).2.2
    obtain ⟨c1,c2⟩:=hc k hlt hkw
    rw [show decide ((k:Int)<(a.length:Int))=true by rw [decide_eq_true_eq];clear hn;omega,cond_true,cond_true,PD hlt,Option.bind_some,Sq a[k] hst l hl n hn,Option.bind_some,Qr (by clear hn;omega),cond_true,Int.toNat_natCast,List.getElem?_eq_getElem (show k<u.length by clear hn;omega),Option.bind_some,PF hlt (show a.length≤9223372036854775807 by clear hn;omega)]
    rw [PD hkw,Option.bind_some,UW work[k] hst2 left hleft n hn,Option.bind_some]
    rw [List.getElem?_eq_getElem (show k<u.length by clear hn;omega)] at c1 c2
    have hμ:((a.length:Int) - ((k+1:Nat):Int)).toNat<((a.length:Int) - (k:Int)).toNat:=by clear hn;omega
    dsimp only
    cases hui:u[k]'(by clear hn;omega) with
    | true =>
     rw [c2 (by rw [hui])]
     simp only [Bool.not_true,cond_false,Option.bind_some]
     rw [show decide (SC []>m2)=false by rw [decide_eq_false_iff_not];simp only [SC];clear hn;omega]
     exact ⟨_,_,rfl,rfl,⟨k+1,hlt,rfl,rfl,rfl,h4⟩,hμ⟩
    | false =>
     rw [c1 (by rw [hui])]
     simp only [Bool.not_false,cond_true,Option.bind_some]
     by_cases hg:SC (PJ a[k].1 (PC a[k]) l)>m2
     ·rw [decide_eq_true hg]
      exact ⟨_,_,rfl,rfl,⟨k+1,hlt,rfl,rfl,rfl, .inr ⟨k,hlt,rfl,by rw [List.getElem?_eq_getElem (show k<u.length by clear hn;omega),hui],rfl,by show 0<SC _;clear hn;omega⟩⟩,hμ⟩
     ·rw [decide_eq_false hg]
      exact ⟨_,_,rfl,rfl,⟨k+1,hlt,rfl,rfl,rfl,h4⟩,hμ⟩
   ·left
    have:k=a.length:=by clear hn;omega
    subst this
    rw [show decide ((a.length:Int)<(a.length:Int))=false by rw [decide_eq_false_iff_not];clear hn;omega]
    exact ⟨_,_,rfl,rfl,rfl,rfl,rfl,h4⟩) n ((-1),0,0) (([]:List PB),0,0) ⟨0,Nat.zero_le _,rfl,rfl,rfl, .inl ⟨rfl,rfl,rfl⟩⟩ (by show ((a.length:Int) - 0).toNat<n;unfold PY at hn;omega)
 obtain ⟨best,most,i⟩:=z
 obtain ⟨bt,m2,i2⟩:=w
 obtain ⟨h1,h2,h3,h4⟩:=hS
 dsimp only at h1 h2 h3 h4
 subst h1;subst h2;subst h3
 exact ⟨best,m2,bt,e1,e2,h4⟩
def QG (want:List PH) (o:List PB):List PH:=(leftOf want o).filter fun y=>decide (y.2>0)
theorem Wt {want:List PH} {o:List PB} (h:Tf (leftOf want o)):Tf (QG want o):=⟨h.1.filter _,fun y hy=>h.2.1 y (List.mem_filter.1 hy).1,Nat.le_trans (List.length_filter_le _ _) h.2.2⟩
structure PI (a:List PV) (want:List PH) (o:List PB) (u:List Bool):Prop where
 ul:u.length=a.length
 ol:o.length+6 * Qp u≤72
 kY:∀ y∈want,QO y.1 o≤y.2
 mem:∀ p∈o,1≤p.2.2∧∃ y∈want,y.1=p.2.1
 fits:Fits a o
 iO:PE (PN a (tp o))
 off:∀ k (h:k<a.length),u[k]? = some false→∀ s,tp o a[k].1 s=0
 on:∀ k (h:k<a.length),u[k]? = some true→∀ y∈want,QO y.1 o<y.2→PC a[k] y.1 - tp o a[k].1 y.1≤0
theorem UH:∀ (l:List PH),(∀ y∈l,0≤y.2)→(Rc l=0↔(l.filter fun y=>decide (y.2>0))=[])
 | [],_=>⟨fun _=>rfl,fun _=>rfl⟩
 | y::r,h=>by
  have ih:=UH r fun z hz=>h z (List.mem_cons_of_mem _ hz)
  have h1:=h y List.mem_cons_self
  have h2:=(TJ r fun z hz=>h z (List.mem_cons_of_mem _ hz)).1
  rw [List.filter_cons]
  simp only [Rc]
  by_cases hy:y.2>0
  ·rw [if_pos (by rw [decide_eq_true_eq];exact hy)]
   exact ⟨fun e=>by omega,fun e=>by cases e⟩
  ·rw [if_neg (by rw [decide_eq_true_eq];exact hy), ← ih]
   constructor <;> intro e <;> omega
theorem Ua (want:List PH) (o bt:List PB):(leftOf want o).map (fun y=>(y.1,y.2 - QO y.1 bt))=leftOf want (o++bt):=by
 unfold leftOf
 rw [List.map_map]
 refine List.map_congr_left fun y _ => ?_
 simp only [Function.comp,Sx,Int.sub_sub]
theorem PI.step {a:List PV} (ha:PE a) {want:List PH} (hw:Rd want) {o:List PB} {u:List Bool} (h:PI a want o u) {j:Nat} (hj:j<a.length) (hu:u[j]? = some false):PI a want (o++PJ a[j].1 (PC a[j]) (leftOf want o)) (CV u j true):=by
 have hL:=UZ hw (fun p hp=>(h.mem p hp).1) h.kY
 obtain ⟨f1,f2⟩:=Sl u j hu
 have hst:=(ha.2.2 _ (List.getElem_mem hj)).2.2
 have hcl:=Si a[j].1 (PC a[j]) (leftOf want o)
 have hll:(leftOf want o).length≤6:=hL.2.2
 have hcm:=Rr a[j].1 (PC a[j]) (leftOf want o)
 have hct:=Sj a[j].1 (PC a[j]) (leftOf want o) hL.1 (fun y hy=>(hL.2.1 y hy).1)
 obtain ⟨t1,t2⟩:=Uy a[j].1 (PC a[j]) (fun k=>(SG a[j] hst k).1) (leftOf want o) hL.1 (fun y hy=>(hL.2.1 y hy).1)
 generalize hbt:PJ a[j].1 (PC a[j]) (leftOf want o)=bt at hcl hcm hct t1 t2
 have hlm:∀ y∈want,(y.1,y.2 - QO y.1 o)∈leftOf want o:=fun y hy=>by unfold leftOf;exact List.mem_map.2 ⟨y,hy,rfl⟩
 have hbm:∀ p∈bt,1≤p.2.2∧p.2.2≤1000∧∃ y∈want,y.1=p.2.1:=fun p hp=>by
  obtain ⟨_,q1,y,hy,q2,q3⟩:=hcm p hp
  have:=(hL.2.1 y hy).2
  unfold leftOf at hy
  obtain ⟨z,hz',rfl⟩:=List.mem_map.1 hy
  exact ⟨q1,by omega,z,hz',q2⟩
 have hother:∀ k (hk:k<a.length),k≠j→∀ s,tp bt a[k].1 s=0:=fun k hk hne s=>Zd bt _ s fun p hp e=>by
  have e2:a[j].1=a[k].1:=(hcm p hp).1.symm.trans e
  exfalso
  rcases Nat.lt_trichotomy j k with hl | hl | hl
  ·have:=(List.pairwise_iff_getElem.1 ha.2.1 j k hj hk hl).1;omega
  ·exact hne hl.symm
  ·have:=(List.pairwise_iff_getElem.1 ha.2.1 k j hk hj hl).1;omega
 have hF:Fits a (o++bt):=by
  refine ⟨fun p hp => ?_,fun q hq k => ?_⟩
  ·rcases List.mem_append.1 hp with hp | hp
   ·exact h.fits.each p hp
   ·obtain ⟨q1,q2,y,hy,q3⟩:=hbm p hp
    have hyb:=hw.2.1 y hy
    exact ⟨by omega,⟨q1,q2⟩,j,hj,(hcm p hp).1.symm⟩
  ·obtain ⟨i,hi,rfl⟩:=List.mem_iff_getElem.1 hq
   rw [Te]
   by_cases hij:i=j
   ·subst hij
    rw [h.off i hi hu k,(t1 k).1]
    have:=(t1 k).2;omega
   ·rw [hother i hi hij k]
    have:=h.fits.free _ (List.getElem_mem hi) k;omega
 have hug:∀ k,(CV u j true)[k]? = if j=k then some true else u[k]? := fun k=>by
  rw [cK,List.getElem?_set]
  have:j<u.length:=by rw [h.ul];exact hj
  by_cases hjk:j=k
  ·rw [if_pos hjk,if_pos hjk,if_pos this]
  ·rw [if_neg hjk,if_neg hjk]
 refine ⟨by rw [f2];exact h.ul, ?_,fun y hy => ?_,fun p hp => ?_,hF,(Uz ha h.iO hF).2,fun k hk e s => ?_,fun k hk e y hy hlt => ?_⟩
 ·have:=h.ol
  rw [List.length_append];omega
 ·have:=hct _ (hlm y hy)
  dsimp only at this
  rw [Sx];omega
 ·rcases List.mem_append.1 hp with hp | hp
  ·exact h.mem p hp
  ·obtain ⟨q1,_,q3⟩:=hbm p hp
   exact ⟨q1,q3⟩
 ·rw [hug] at e
  by_cases hjk:j=k
  ·rw [if_pos hjk] at e;cases e
  ·rw [if_neg hjk] at e
   rw [Te,h.off k hk e s,hother k hk (fun q=>hjk q.symm) s];rfl
 ·rw [Sx] at hlt
  rw [hug] at e
  rw [Te]
  by_cases hjk:j=k
  ·subst hjk
   have e3:=t2 _ (hlm y hy)
   dsimp only at e3
   rw [h.off j hk hu y.1,(t1 y.1).1,e3]
   rw [e3] at hlt
   unfold PZ at hlt ⊢
   by_cases hc:y.2 - QO y.1 o<PC a[j] y.1
   ·rw [decide_eq_true hc,cond_true] at hlt;omega
   ·rw [decide_eq_false hc,cond_false];omega
  ·rw [if_neg hjk] at e
   have hb0:=SY y.1 bt fun p hp=>(hbm p hp).1
   rw [hother k hk (fun q=>hjk q.symm) y.1]
   have:=h.on k hk e y hy (by omega)
   omega
abbrev iT:=(List PB)×Bool×(List PB)×(List PB)×(List PH)×(List Bool)
abbrev iR:=(List PB)×(List PH)×(List PV)
def iS (a:List PV) (want:List PH) (x:iT) (y:iR):Prop:=x.2.2.2.1=[]∧x.2.2.2.2.1=leftOf want x.2.2.1∧PI a want x.2.2.1 x.2.2.2.2.2∧y=(x.2.2.1,QG want x.2.2.1,PN a (tp x.2.2.1))
def kB (a:List PV) (want:List PH) (z:iT⊕((List PB)×Bool)) (w:iR⊕((List PB)×Bool)):Prop:=∃ o b,z = .inr (o,b)∧(b=true→PG o want∧Fits a o∧o.length≤72)∧(b=false→o=[])∧(w = .inr (o,b)∨b=true∧∃ l s,w = .inl (o,l,s))
theorem WB {want:List PH} {y:PH} (hy:y∈want) (o:List PB):(y.1,y.2 - QO y.1 o)∈leftOf want o:=by
 unfold leftOf;exact List.mem_map.2 ⟨y,hy,rfl⟩
theorem WC {want:List PH} {o bt:List PB} (hb:∀ p∈bt,1≤p.2.2):Ta (QG want o) bt=QG want (o++bt):=by
 unfold Ta QG
 rw [SS (fun y:PH=>decide (y.2>0)) (fun y=>(y.1,y.2 - QO y.1 bt)) (leftOf want o) fun y _ hp=>by
  have:=SY y.1 bt hb
  rw [decide_eq_false_iff_not] at hp ⊢
  show ¬ (y.2 - QO y.1 bt>0)
  omega,Ua]
theorem PI.dU {a:List PV} (ha:PE a) {want:List PH} {o:List PB} {u:List Bool} (hI:PI a want o u) (k:Nat) (hk:k<a.length) (hk2:k<(PN a (tp o)).length) :
  (u[k]? = some false→PJ (PN a (tp o))[k].1 (PC (PN a (tp o))[k]) (QG want o)=PJ a[k].1 (PC a[k]) (leftOf want o))∧(u[k]? = some true→PJ (PN a (tp o))[k].1 (PC (PN a (tp o))[k]) (QG want o)=[]):=by
 rw [Tv hk2]
 have hto:=hI.fits.to ha (List.getElem_mem hk)
 refine ⟨fun e => ?_,fun e => ?_⟩
 ·unfold QG
  rw [TN]
  exact VF _ (fun s=>by rw [hto s,hI.off k hk e s,Int.sub_zero]) _
 ·refine UR _ _ _ fun y hy hpos => ?_
  unfold QG leftOf at hy
  obtain ⟨z,hz,rfl⟩:=List.mem_map.1 (List.mem_filter.1 hy).1
  show PC (Vx (tp o) a[k]) z.1≤0
  rw [hto]
  exact hI.on k hk e z hz (by have:0<z.2 - QO z.1 o:=hpos;omega)
theorem WH {a:List PV} (ha:PE a) {want:List PH} (hw:Rd want) (n:Nat) (hn:PY≤n) (x:iT) (y:iR) (hR:iS a want x y) :
  (∃ z w,QM n a x=some (.inr z)∧Rx n y=some (.inr w)∧kB a want z w)∨(∃ x' y',QM n a x=some (.inl x')∧Rx n y=some (.inl y')∧iS a want x' y'∧Qp x'.2.2.2.2.2<Qp x.2.2.2.2.2):=by
 obtain ⟨x1,x2,o,nn,l,u⟩:=x
 obtain ⟨g1,g2,hI,g4⟩:=hR
 dsimp only at g1 g2 hI g4
 subst g1;subst g2;subst g4
 have hol:=hI.ol
 have hL:=UZ hw (fun p hp=>(hI.mem p hp).1) hI.kY
 have hLP:=Wt hL
 have h0:=UH (leftOf want o) fun y hy=>(hL.2.1 y hy).1
 unfold QM Rx
 rw [Vk (x1,x2,o,[],leftOf want o,u) hL n hn,Option.bind_some]
 dsimp only
 by_cases hz:Rc (leftOf want o)=0
 ·left
  have hnil:QG want o=[]:=h0.1 hz
  rw [hz,hnil]
  refine ⟨_,_,rfl,rfl,o,true,rfl,fun _=>⟨⟨hI.mem,fun y hy => ?_⟩,hI.fits,by clear hn;omega⟩,(fun e=>by cases e), .inr ⟨rfl,_,_,rfl⟩⟩
  have:=(TJ (leftOf want o) fun y hy=>(hL.2.1 y hy).1).2 hz _ (WB hy o)
  dsimp only at this
  clear hn
  omega
 ·have hne:QG want o≠[]:=fun e=>hz (h0.2 e)
  have hpos:0<(QG want o).length:=by
   cases hq:QG want o with
   | nil=>exact (hne hq).elim
   | cons _ _=>simp
  rw [show (Rc (leftOf want o)==0)=false from beq_eq_false_iff_ne.2 hz,cond_false,show decide (((QG want o).length:Int)>0)=true by rw [decide_eq_true_eq];clear hn;omega,cond_true]
  obtain ⟨best,most,bt,e1,e2,hb⟩:=W4 ha (Sn a (tp o)) hI.iO x1 x2 o [] hL hLP hI.ul (fun k hk hk2=>hI.dU ha k hk hk2) n hn
  rw [e1,e2,Option.bind_some,Option.bind_some]
  dsimp only
  rcases hb with ⟨rfl,rfl,rfl⟩ | ⟨j,hj,rfl,hu,hbt,hm⟩
  ·left
   exact ⟨_,_,rfl,rfl,[],false,rfl,(fun e=>by cases e),fun _=>rfl, .inl rfl⟩
  ·right
   have hju:j<u.length:=by rw [hI.ul];exact hj
   have hst:=(ha.2.2 _ (List.getElem_mem hj)).2.2
   have hcl:=Si a[j].1 (PC a[j]) (leftOf want o)
   have hll:(leftOf want o).length≤6:=hL.2.2
   have hcm:=Rr a[j].1 (PC a[j]) (leftOf want o)
   have hct:=Sj a[j].1 (PC a[j]) (leftOf want o) hL.1 (fun y hy=>(hL.2.1 y hy).1)
   have hstep:=hI.step ha hw hj hu
   have hc:=Sq a[j] hst (leftOf want o) hL n hn
   have hpg:∀ p∈bt,1≤p.2.2:=fun p hp=>by rw [hbt] at hp;exact (hcm p hp).2.1
   have hsub:=VQ bt (leftOf want o) hpg (fun y hy=>⟨by rw [hbt];exact hct y hy,(hL.2.1 y hy).2⟩)
   rw [← hbt] at hcl hct hstep hc
   have hH:=Uz ha hI.iO hstep.fits
   have hHA:=Sb (PN a (tp o)) hI.iO.sm bt (by clear hn;omega) n hn
   rw [hH.1] at hHA
   have hle:=Uo (QG want o) hLP.2.2 bt (by clear hn;omega) hpg (fun y hy=>by
    have hy2:=(List.mem_filter.1 hy).1
    exact ⟨hct y hy2,(hL.2.1 y hy2).2⟩) n hn
   rw [WC hpg] at hle
   have hrow:decide (o.length+bt.length≤DZ)=true:=Tc (by clear hn;omega)
   have h4:=Vl bt (by clear hn;omega) (SC bt) (leftOf want o) hll n hn
   rw [show decide ((j:Int)<0)=false by simp,cond_false,Qr hju,cond_true,PD hj,Option.bind_some,hc,Option.bind_some]
   dsimp only
   rw [show (most==0)=false from beq_eq_false_iff_ne.2 (by clear hn;omega),cond_false,hrow,cond_true,cond_true,h4,Option.bind_some,hHA,Option.bind_some,hle,Option.bind_some,Int.toNat_natCast]
   refine ⟨_,_,rfl,rfl,⟨rfl, ?_,hstep,rfl⟩,by have:=(Sl u j hu).1;show Qp (CV u j true)<Qp u;clear hn;omega⟩
   show bt.foldl (fun l p=>Tq p l) (leftOf want o)=leftOf want (o++bt)
   rw [hsub,Ua]
theorem PI.init {a:List PV} (ha:PE a) {want:List PH} (hw:Rd want):PI a want [] (List.replicate a.length false):=by
 have h0:PN a (tp [])=a:=SU a _ fun _ _=>rfl
 have h12:=ha.1
 refine ⟨by simp,by rw [Sk];simp;omega,fun y hy => ?_,(fun p hp=>by cases hp),⟨(fun p hp=>by cases hp),fun q hq k => ?_⟩,by rw [h0];exact ha,fun k hk _ s=>rfl,fun k hk e => ?_⟩
 ·have:=hw.2.1 y hy
  simp only [QO];omega
 ·exact (SG q (ha.2.2 q hq).2.2 k).1
 ·rw [List.getElem?_replicate,if_pos hk] at e
  cases e
theorem Vc {want:List PH} (hw:Rd want):QG want []=want:=by
 have:leftOf want []=want:=by unfold leftOf;simp [QO]
 unfold QG
 rw [this]
 exact List.filter_eq_self.2 fun y hy=>by have:=hw.2.1 y hy;rw [decide_eq_true_eq];omega
theorem UO {a:List PV} (ha:PE a) {want:List PH} (hw:Rd want) (n:Nat) (hn:PY≤n):∃ o b,P9 n a want=some (o,b)∧QU n a want=some (o,b)∧(b=true→PG o want∧Fits a o∧o.length≤72)∧(b=false→o=[]):=by
 have h12:=ha.1
 have h6:=hw.2.2
 have h0:PN a (tp [])=a:=SU a _ fun _ _=>rfl
 obtain ⟨z,w,hS,e1,e2⟩:=Va (iS a want) (kB a want) (fun x=>Qp x.2.2.2.2.2) (fun x y hR=>WH ha hw n hn x y hR) n
  (([]:List PB),false,([]:List PB),([]:List PB),want,List.replicate a.length (false:Bool)) (([]:List PB),want,a)
  ⟨rfl,by show want=leftOf want [];unfold leftOf;simp [QO],PI.init ha hw,by rw [Vc hw,h0]⟩ (by show Qp (List.replicate a.length false)<n;rw [Sk];unfold PY at hn;omega)
 obtain ⟨o,b,rfl,q1,q2,q3⟩:=hS
 refine ⟨o,b, ?_, ?_,q1,q2⟩
 ·unfold P9
  rw [Pl a ha.sm n hn,ha.ok,hw.ok n hn]
  simp only [Option.bind_some,Bool.not_true,cond_false]
  rw [show decide (([]:List PH).length+want.length≤DZ)=true from Tc (by simp;clear hn;omega),cond_true]
  rw [show (decide (0≤(a.length:Int))&&decide ((a.length:Int)≤(DZ:Int))&&decide True)=true by rw [show decide ((a.length:Int)≤(DZ:Int))=true by rw [decide_eq_true_eq];unfold DZ;clear hn;omega];simp,cond_true,List.nil_append,Int.toNat_natCast,e1,Option.bind_some]
 ·unfold QU Pj
  rw [Pz a ha.sm n hn,ha.ok,Qy want (by clear hn;omega) n hn,Rs.2 hw,Pa a ha.sm n hn,Tc (show want.length≤1048576 by clear hn;omega)]
  simp only [Option.bind_some,Bool.not_true,cond_false,cond_true]
  rw [e2,Option.bind_some]
  rcases q3 with rfl | ⟨rfl,l,s,rfl⟩ <;> rfl
theorem Wf (a:List PV) (hs:Pc a) (want:List PH) (hl:want.length≤1048576) (n:Nat) (hn:PY≤n):∃ o b,P9 n a want=some (o,b)∧QU n a want=some (o,b)∧(b=true→PE a∧Rd want∧PG o want∧Fits a o∧o.length≤72)∧(b=false→o=[]):=by
 cases h1:Pw a with
 | false =>
  refine ⟨[],false, ?_, ?_,(fun e=>by cases e),fun _=>rfl⟩
  ·unfold P9;rw [Pl a hs n hn,h1];rfl
  ·unfold QU;rw [Pz a hs n hn,h1];rfl
 | true =>
  cases h2:Q7 want with
  | false =>
   refine ⟨[],false, ?_, ?_,(fun e=>by cases e),fun _=>rfl⟩
   ·unfold P9;rw [Pl a hs n hn,h1,Rw want hl n hn,h2];rfl
   ·unfold QU;rw [Pz a hs n hn,h1,Qy want hl n hn,h2];rfl
  | true =>
   have ha:=QK.1 h1
   have hw:=Rs.1 h2
   obtain ⟨o,b,e1,e2,q1,q2⟩:=UO ha hw n hn
   exact ⟨o,b,e1,e2,fun e=>⟨ha,hw,q1 e⟩,q2⟩
def TX (p:PB) (y:PH):Bool:=y.1==p.2.1&&Pp p.2.2 1 y.2
def TE (p:PB) (l:List PH):List PH:=l.map fun y=>bif y.1==p.2.1 then (y.1,y.2 - p.2.2) else y
def foldI:List PB→List PH→Option (List PH)
 | [],l=>some l
 | p::r,l=>if l.any (TX p) then foldI r (TE p l) else none
def Ru (ps:List PB) (l:List PH):Bool:=match foldI ps l with
 | some z=>z.all fun y=>y.2==0
 | none=>false
theorem Tj {p:PB} {y:PH}:TX p y=true↔y.1=p.2.1∧1≤p.2.2∧p.2.2≤y.2:=by
 unfold TX Pp
 simp only [Bool.and_eq_true,beq_iff_eq,decide_eq_true_eq]
theorem Vr (p:PB) (l:List PH):(TE p l).length=l.length:=by unfold TE;rw [List.length_map]
theorem WY {p:PB} {l:List PH} (h:l.Pairwise fun a b=>a.1<b.1):(TE p l).Pairwise fun a b=>a.1<b.1:=by
 unfold TE
 rw [List.pairwise_map]
 refine h.imp fun {a b} hab => ?_
 cases (a.1==p.2.1) <;> cases (b.1==p.2.1) <;> exact hab
theorem Ug {p:PB} {l:List PH} {y:PH} (h:y∈TE p l):∃ z∈l,y.1=z.1∧y.2=if z.1=p.2.1 then z.2 - p.2.2 else z.2:=by
 unfold TE at h
 obtain ⟨z,hz,rfl⟩:=List.mem_map.1 h
 refine ⟨z,hz, ?_⟩
 by_cases e:z.1=p.2.1
 ·rw [show (z.1==p.2.1)=true from beq_iff_eq.2 e,cond_true,if_pos e];exact ⟨rfl,rfl⟩
 ·rw [show (z.1==p.2.1)=false from beq_eq_false_iff_ne.2 e,cond_false,if_neg e];exact ⟨rfl,rfl⟩
theorem WX {p:PB} {l:List PH} {z:PH} (h:z∈l):(z.1,if z.1=p.2.1 then z.2 - p.2.2 else z.2)∈TE p l:=by
 unfold TE
 refine List.mem_map.2 ⟨z,h, ?_⟩
 by_cases e:z.1=p.2.1
 ·rw [show (z.1==p.2.1)=true from beq_iff_eq.2 e,cond_true,if_pos e]
 ·rw [show (z.1==p.2.1)=false from beq_eq_false_iff_ne.2 e,cond_false,if_neg e]
theorem XM {l:List PH} (h:l.Pairwise fun a b=>a.1<b.1) {y z:PH} (hy:y∈l) (hz:z∈l) (e:y.1=z.1):y=z:=by
 obtain ⟨i,hi,rfl⟩:=List.mem_iff_getElem.1 hy
 obtain ⟨j,hj,rfl⟩:=List.mem_iff_getElem.1 hz
 rcases Nat.lt_trichotomy i j with hl | hl | hl
 ·have:=List.pairwise_iff_getElem.1 h i j hi hj hl;omega
 ·subst hl;rfl
 ·have:=List.pairwise_iff_getElem.1 h j i hj hi hl;omega
theorem Sr:∀ (ps:List PB) (l:List PH),l.Pairwise (fun a b=>a.1<b.1)→(Ru ps l=true↔PG ps l)
 | [],l,hl=>by
  show (l.all fun y=>y.2==0)=true↔_
  rw [List.all_eq_true]
  constructor
  ·intro h
   refine ⟨(fun p hp=>by cases hp),fun y hy => ?_⟩
   have:=h y hy
   rw [beq_iff_eq] at this
   rw [this];rfl
  ·intro h y hy
   rw [beq_iff_eq]
   exact (h.2 y hy).symm
 | p::ps,l,hl=>by
  have ih:=Sr ps (TE p l) (WY hl)
  have hun:Ru (p::ps) l=(if l.any (TX p) then Ru ps (TE p l) else false):=by
   unfold Ru
   rw [foldI]
   cases l.any (TX p) <;> rfl
  rw [hun]
  by_cases ha:l.any (TX p)=true
  ·rw [if_pos ha,ih]
   obtain ⟨y,hy,hh⟩:=List.any_eq_true.1 ha
   obtain ⟨h1,h2,h3⟩:=Tj.1 hh
   constructor
   ·rintro ⟨g1,g2⟩
    refine ⟨fun q hq => ?_,fun z hz => ?_⟩
    ·rcases List.mem_cons.1 hq with rfl | hq
     ·exact ⟨h2,y,hy,h1⟩
     ·obtain ⟨a1,v,hv,a2⟩:=g1 q hq
      obtain ⟨w,hw,b1,_⟩:=Ug hv
      exact ⟨a1,w,hw,b1.symm.trans a2⟩
    ·have:=g2 _ (WX (p:=p) hz)
     dsimp only at this
     simp only [QO]
     rw [this]
     by_cases e:z.1=p.2.1
     ·rw [if_pos e,show (p.2.1==z.1)=true from beq_iff_eq.2 e.symm,cond_true];omega
     ·rw [if_neg e,show (p.2.1==z.1)=false from beq_eq_false_iff_ne.2 (fun q=>e q.symm),cond_false];omega
   ·rintro ⟨g1,g2⟩
    refine ⟨fun q hq => ?_,fun z hz => ?_⟩
    ·obtain ⟨a1,v,hv,a2⟩:=g1 q (List.mem_cons_of_mem _ hq)
     exact ⟨a1,_,WX (p:=p) hv,a2⟩
    ·obtain ⟨w,hw,b1,b2⟩:=Ug hz
     have:=g2 w hw
     simp only [QO] at this
     rw [b1,b2]
     by_cases e:w.1=p.2.1
     ·rw [if_pos e]
      rw [show (p.2.1==w.1)=true from beq_iff_eq.2 e.symm,cond_true] at this
      omega
     ·rw [if_neg e]
      rw [show (p.2.1==w.1)=false from beq_eq_false_iff_ne.2 (fun q=>e q.symm),cond_false] at this
      omega
  ·rw [if_neg ha]
   refine ⟨(fun e=>by cases e),fun ⟨g1,g2⟩=>(ha ?_).elim⟩
   obtain ⟨a1,y,hy,a2⟩:=g1 p List.mem_cons_self
   have h3:=g2 y hy
   have h4:=SY y.1 ps fun q hq=>(g1 q (List.mem_cons_of_mem _ hq)).1
   simp only [QO] at h3
   rw [show (p.2.1==y.1)=true from beq_iff_eq.2 a2.symm,cond_true] at h3
   exact List.any_eq_true.2 ⟨y,hy,Tj.2 ⟨a2,a1,by omega⟩⟩
def We (l:List PH):Prop:=l.Pairwise (fun a b=>a.1<b.1)∧(∀ y∈l,0≤y.2∧y.2≤1000)∧l.length≤6
theorem We.sub {p:PB} {l:List PH} (h:We l) (ha:l.any (TX p)=true):We (TE p l):=by
 obtain ⟨y,hy,hh⟩:=List.any_eq_true.1 ha
 obtain ⟨h1,h2,h3⟩:=Tj.1 hh
 refine ⟨WY h.1,fun z hz => ?_,by rw [Vr];exact h.2.2⟩
 obtain ⟨w,hw,b1,b2⟩:=Ug hz
 have hwb:=h.2.1 w hw
 rw [b2]
 split
 ·rename_i e
  have:w=y:=XM h.1 hw hy (e.trans h1.symm)
  subst this
  omega
 ·exact hwb
theorem Vg {l:List PH} (h:l.Pairwise fun a b=>a.1<b.1) {i:Nat} (hi:i<l.length) {p:PB} (e:l[i].1=p.2.1):l.modify i (fun y=>(y.1,l[i].2 - p.2.2))=TE p l:=by
 apply List.ext_getElem?
 intro k
 unfold TE
 rw [List.getElem?_modify,List.getElem?_map]
 by_cases hk:k<l.length
 ·rw [List.getElem?_eq_getElem hk]
  by_cases hik:i=k
  ·subst hik
   rw [Option.map_eq_map,Option.map_some,Option.map_some,if_pos rfl,show (l[i].1==p.2.1)=true from beq_iff_eq.2 e,cond_true]
  ·rw [Option.map_eq_map,Option.map_some,Option.map_some,if_neg hik]
   have:l[k].1≠p.2.1:=fun e2=>by
    rcases Nat.lt_trichotomy i k with hl | hl | hl
    ·have:=List.pairwise_iff_getElem.1 h i k hi hk hl;omega
    ·exact hik hl
    ·have:=List.pairwise_iff_getElem.1 h k i hk hi hl;omega
   rw [show (l[k].1==p.2.1)=false from beq_eq_false_iff_ne.2 this,cond_false]
 ·rw [List.getElem?_eq_none (by omega)];rfl
theorem WG (k:Int) (l:List PH) (hl:We l) (p:PB) (n:Nat) (hn:PY≤n):∃ i:Int,iter n (RI (k,l) p) (false,0,l)=some (bif l.any (TX p) then (true,i,TE p l) else (false,i,l)):=by
 have h6:=hl.2.2
 obtain ⟨z,hS,e⟩:=XL (f:=RI (k,l) p) (fun x=>x.1=false∧x.2.2=l∧∃ m:Nat,m≤l.length∧x.2.1=(m:Int)∧∀ i (h:i<l.length),i<m→TX p l[i]=false)
  (fun z=>z.1=false∧z.2.2=l∧l.any (TX p)=false∨z.1=true∧z.2.2=TE p l∧l.any (TX p)=true) (fun x=>((l.length:Int) - x.2.1).toNat) (fun x hR=>by
   obtain ⟨b,i,l'⟩:=x
   obtain ⟨h1,h2,m,hm,h3,h4⟩:=hR
   dsimp only at h1 h2 h3
   subst h1;subst h2;subst h3
   unfold RI
   dsimp only
   by_cases hlt:m<l'.length
   ·have hyb:=hl.2.1 _ (List.getElem_mem hlt)
    rw [show decide ((m:Int)<(l'.length:Int))=true by rw [decide_eq_true_eq];clear hn;omega,cond_true,Qr hlt,Int.toNat_natCast,List.getElem?_eq_getElem hlt]
    simp only [cond_true,Option.bind_some,TU,Qc]
    have hx:(bif l'[m].1==p.2.1 then some (Pp p.2.2 1 l'[m].2) else some false)=some (TX p l'[m]):=by
     unfold TX
     cases (l'[m].1==p.2.1) <;> rfl
    rw [hx,Option.bind_some]
    cases hh:TX p l'[m] with
    | true =>
     obtain ⟨a1,a2,a3⟩:=Tj.1 hh
     left
     refine ⟨_,rfl, .inr ⟨rfl, ?_,List.any_eq_true.2 ⟨_,List.getElem_mem hlt,hh⟩⟩⟩
     show l'.modify m (fun y=>(y.1,Pe (l'[m].2 - p.2.2)))=_
     rw [PS (n:=l'[m].2 - p.2.2) (by clear hn;omega) (by clear hn;omega),Vg hl.1 hlt a1]
    | false =>
     right
     rw [cond_false,PF hlt (show l'.length≤9223372036854775807 by clear hn;omega)]
     refine ⟨_,rfl,⟨rfl,rfl,m+1,hlt,rfl,fun i hi him => ?_⟩,by show ((l'.length:Int) - ((m+1:Nat):Int)).toNat<((l'.length:Int) - (m:Int)).toNat;clear hn;omega⟩
     by_cases e:i=m
     ·subst e;exact hh
     ·exact h4 i hi (by clear hn;omega)
   ·left
    rw [show decide ((m:Int)<(l'.length:Int))=false by rw [decide_eq_false_iff_not];clear hn;omega]
    refine ⟨_,rfl, .inl ⟨rfl,rfl, ?_⟩⟩
    rw [← Bool.not_eq_true]
    intro ha
    obtain ⟨y,hy,hh⟩:=List.any_eq_true.1 ha
    obtain ⟨i,hi,rfl⟩:=List.mem_iff_getElem.1 hy
    rw [h4 i hi (by clear hn;omega)] at hh
    cases hh) n (false,0,l) ⟨rfl,rfl,0,Nat.zero_le _,rfl,fun i _ h=>by omega⟩ (by show ((l.length:Int) - 0).toNat<n;unfold PY at hn;omega)
 obtain ⟨b,i,l'⟩:=z
 refine ⟨i, ?_⟩
 rw [e]
 rcases hS with ⟨h1,h2,h3⟩ | ⟨h1,h2,h3⟩ <;> (dsimp only at h1 h2;subst h1;subst h2;rw [h3];rfl)
theorem Tz (ps:List PB) (hp:ps.length≤1048576) (l:List PH) (hl:We l) (n:Nat) (hn:PY≤n):Q0 n ps l=some (Ru ps l):=by
 have h6:=hl.2.2
 have hc:=Pm (σ:=List PH) (RH n ps) (fun i s=>((i:Int),s)) ps (fun r s=>match foldI r s with | some z => .inl ((ps.length:Int),z) | none => .inr false) (fun i s=>We s)
  (fun s hs=>by unfold RH;simp [foldI])
  (fun i p r s g1 g2 g3 g4 g5=>by
   have hpi:ps[i]=p:=by rw [List.getElem?_eq_getElem g1] at g2;exact Option.some.inj g2
   obtain ⟨j,e⟩:=WG (i:Int) s g5 p n hn
   unfold RH
   dsimp only
   rw [show decide ((i:Int)<(ps.length:Int))=true by rw [decide_eq_true_eq];clear hn;omega,cond_true,PD g1,hpi,Option.bind_some,e,Option.bind_some,PF g1 (show ps.length≤9223372036854775807 by clear hn;omega)]
   cases ha:s.any (TX p) with
   | true =>
    left
    refine ⟨TE p s,rfl,g5.sub ha, ?_⟩
    rw [foldI,if_pos ha]
   | false =>
    right
    rw [foldI,if_neg (by rw [ha];simp)]
    rfl)
  n (by unfold PY at hn;omega) l hl
 unfold Q0 Pj
 rw [Tc (show l.length≤1048576 by clear hn;omega),cond_true,Option.bind_some]
 rw [show ((0:Nat):Int)=0 from rfl] at hc
 rw [hc,Option.bind_some]
 unfold Ru
 cases hf:foldI ps l with
 | none=>rfl
 | some z =>
  have hzl:z.length≤6:=by
   have:∀ (ps:List PB) (l z:List PH),foldI ps l=some z→z.length=l.length:=by
    intro ps
    induction ps with
    | nil=>intro l z e;injection e with e;rw [e]
    | cons p ps ih =>
     intro l z e
     rw [foldI] at e
     split at e
     ·rw [ih _ _ e,Vr]
     ·cases e
   rw [this ps l z hf];exact h6
  have h3:=SK (RJ ((ps.length:Int),z)) z (fun y=>y.2==0) (fun i x hi hx=>by
   obtain ⟨_,rfl⟩:=List.getElem?_eq_some_iff.1 hx
   unfold RJ
   dsimp only
   rw [show decide ((i:Int)<(z.length:Int))=true by rw [decide_eq_true_eq];clear hn;omega,cond_true,Qr hi,Int.toNat_natCast,List.getElem?_eq_getElem hi,cond_true,Option.bind_some,PF hi (show z.length≤9223372036854775807 by clear hn;omega)]
   simp only [bne]
   cases (z[i].2==0) <;> rfl) (by unfold RJ;simp) n (by unfold PY at hn;omega)
  dsimp only
  rw [h3]
  cases (z.all fun y=>y.2==0) <;> rfl
abbrev Ra:=Int×Int×(List PH)×(List PB)×Int
def Ze (nx:Int) (o:Ra):Prop:=(1≤o.1∧o.1≤nx - 1)∧(0≤o.2.1∧o.2.1≤99)∧(Rd o.2.2.1∧0<o.2.2.1.length)∧(PG o.2.2.2.1 o.2.2.1∧o.2.2.2.1.length≤72∧∀ p∈o.2.2.2.1,1≤p.1∧p.1≤999)∧(1≤o.2.2.2.2∧o.2.2.2.2≤3)
structure Qi (k:Nat) (nx:Int) (l:List Ra):Prop where
 len:l.length≤k
 lt:l.Pairwise (fun a b=>a.1<b.1)
 each:∀ o∈l,Ze nx o
 nx:1≤nx∧nx≤(k:Int)+3
 kk:k≤1000
theorem Ze.sm {nx:Int} {o:Ra} (h:Ze nx o):TB o:=⟨by show o.2.2.1.length≤_;have:=h.2.2.1.1.2.2;omega,by show o.2.2.2.1.length≤_;have:=h.2.2.2.1.2.1;omega⟩
theorem Qi.sm {k:Nat} {nx:Int} {l:List Ra} (h:Qi k nx l):Q1 (nx,l):=⟨by show l.length≤_;have:=h.len;have:=h.kk;omega,fun o ho=>(h.each o ho).sm⟩
theorem Qi.more {k:Nat} {nx:Int} {l:List Ra} (h:Qi k nx l) (m:Nat) (hm:k≤m) (hk:m≤1000):Qi m nx l :=
 { h with len:=Nat.le_trans h.len hm,nx:=⟨h.nx.1,by have:=h.nx.2;omega⟩,kk:=hk }
theorem Qi.Df {k:Nat} {nx:Int} {l:List Ra} (h:Qi k nx l) (i:Nat) (st:Int) (hs:1≤st∧st≤3):Qi k nx (l.modify i fun y=>(y.1,y.2.1,y.2.2.1,y.2.2.2.1,st)):=by
 refine {len:=by rw [List.length_modify];exact h.len,lt := ?_,each:=fun o ho => ?_,nx:=h.nx,kk:=h.kk }
 ·have h2:=h.lt
  rw [List.pairwise_iff_getElem] at h2 ⊢
  intro a b ha hb hab
  rw [List.length_modify] at ha hb
  have:=h2 a b ha hb hab
  rw [List.getElem_modify,List.getElem_modify]
  split <;> split <;> exact this
 ·obtain ⟨j,hj,rfl⟩:=List.getElem_of_mem ho
  rw [List.length_modify] at hj
  have:=h.each _ (List.getElem_mem hj)
  rw [List.getElem_modify]
  split
  ·exact ⟨this.1,this.2.1,this.2.2.1,this.2.2.2.1,hs⟩
  ·exact this
theorem RP (nx:Int) (l:List Ra) (h:Q1 (nx,l)) (n:Nat) (hn:PY≤n):QX n nx l=some (nx,l):=by
 have hl:l.length≤1048576:=h.1
 have hc:=Pm (σ:=List Ra) (RO l) (fun i s=>((i:Int),nx,s)) l (fun r s=>((l.length:Int),nx,s++r)) (fun i s=>s.length≤i)
  (fun s hs=>by simp [RO]) (fun i y r s h1 h2 h3 h4 h5=>by
   left
   have hy:l[i]=y:=by rw [List.getElem?_eq_getElem h1] at h2;exact Option.some.inj h2
   refine ⟨s++[y], ?_,by rw [List.length_append,List.length_singleton];omega,by simp⟩
   unfold RO
   dsimp only
   rw [show decide ((i:Int)<(l.length:Int))=true by simpa using h1,cond_true,PD h1,hy,Option.bind_some,TC y (h.2 y (by rw [← hy];exact List.getElem_mem h1)),Option.bind_some,PF h1 (by omega)]
   rw [show decide (s.length+[(y.1,y.2.1,y.2.2.1,y.2.2.2.1,y.2.2.2.2)].length≤DZ)=true from S0 (by omega),cond_true])
  n (by unfold PY at hn;omega) [] (by simp)
 unfold QX
 rw [show ((0:Nat):Int)=0 from rfl] at hc
 rw [hc]
 simp
theorem Ue (p:List PB) (hp:p.length≤1048576) (k:Int) (n:Nat) (hn:PY≤n):∃ r,Qt n p k=some r:=by
 obtain ⟨_,r,e,_⟩:=Qs (QA p k) (QA p k) (fun i (x:PH)=>x.2=(i:Int)) (fun _=>True) p.length (fun i x hi hI=>by
  refine ⟨rfl, ?_⟩
  obtain ⟨s,j⟩:=x
  dsimp only at hI
  subst hI
  unfold QA
  dsimp only
  by_cases hl:i<p.length
  ·left
   rw [show decide ((i:Int)<(p.length:Int))=true by simpa using hl,cond_true,PD hl,Option.bind_some,PF hl (by omega)]
   cases (p[i].2.1==k) with
   | true=>exact ⟨_,rfl,rfl,hl⟩
   | false=>exact ⟨_,rfl,rfl,hl⟩
  ·right
   rw [show decide ((i:Int)<(p.length:Int))=false by simpa using hl]
   exact ⟨_,rfl,trivial⟩) n (by unfold PY at hn;omega) (0,0) rfl
 unfold Qt
 rw [e]
 exact ⟨_,rfl⟩
theorem TL (o:Ra) (h:TB o) (n:Nat) (hn:PY≤n):∃ b,QN n o.1 o.2.1 o.2.2.1 o.2.2.2.1 o.2.2.2.2=some b:=by
 obtain ⟨id,desk,it,pk,st⟩:=o
 obtain ⟨h1,h2⟩:=h
 have h1:it.length≤1048576:=h1
 have h2:pk.length≤1048576:=h2
 dsimp only
 unfold QN
 obtain ⟨bi,ei⟩:=VK n hn it h1
 simp only [Qc,ei,Option.bind_some]
 have first:∃ b,(bif !Pp desk 0 99 then some true else bif !bi then some true else bif ((it.length:Int)==0) then some true else bif !Pp st 1 3 then some true else some (decide ((pk.length:Int)>72)))=some b:=by
  cases Pp desk 0 99 <;> cases bi <;> cases ((it.length:Int)==0) <;> cases Pp st 1 3 <;> exact ⟨_,rfl⟩
 obtain ⟨b,eb⟩:=first
 rw [eb,Option.bind_some]
 cases b with
 | true=>exact ⟨_,rfl⟩
 | false =>
  rw [cond_false]
  obtain ⟨_,r1,e1,_⟩:=Qs (Pn it) (Pn it) (fun i (x:PH)=>x.2=(i:Int)) (fun _=>True) it.length (fun i x hi hI=>by
   refine ⟨rfl, ?_⟩
   obtain ⟨s,j⟩:=x
   dsimp only at hI
   subst hI
   unfold Pn
   dsimp only
   by_cases hl:i<it.length
   ·left
    rw [show decide ((i:Int)<(it.length:Int))=true by simpa using hl,cond_true,PD hl,Option.bind_some,PF hl (by omega)]
    exact ⟨_,rfl,rfl,hl⟩
   ·right
    rw [show decide ((i:Int)<(it.length:Int))=false by simpa using hl]
    exact ⟨_,rfl,trivial⟩) n (by unfold PY at hn;omega) (0,0) rfl
  rw [e1,Option.bind_some]
  obtain ⟨_,r2,e2,_⟩:=Qs (Po pk) (Po pk) (fun i (x:PH)=>x.2=(i:Int)) (fun _=>True) pk.length (fun i x hi hI=>by
   refine ⟨rfl, ?_⟩
   obtain ⟨s,j⟩:=x
   dsimp only at hI
   subst hI
   unfold Po
   dsimp only
   by_cases hl:i<pk.length
   ·rw [show decide ((i:Int)<(pk.length:Int))=true by simpa using hl,cond_true,PD hl,Option.bind_some,PF hl (by omega)]
    simp only [Qc,Option.bind_some]
    cases Pp pk[i].2.2 1 1000 <;> cases Pp pk[i].1 1 999 <;> first | exact .inr ⟨_,rfl,trivial⟩ | exact .inl ⟨_,rfl,rfl,hl⟩
   ·right
    rw [show decide ((i:Int)<(pk.length:Int))=false by simpa using hl]
    exact ⟨_,rfl,trivial⟩) n (by unfold PY at hn;omega) (r1.1,0) rfl
  rw [e2,Option.bind_some]
  cases r2 with
  | inr b=>exact ⟨_,rfl⟩
  | inl x =>
   obtain ⟨r3,e3⟩:=TZ (Ps n it pk) it.length (fun i hi=>by
    obtain ⟨s,es⟩:=Ue pk h2 it[i].1 n hn
    unfold Ps
    rw [show decide ((i:Int)<(it.length:Int))=true by simpa using hi,cond_true,PD hi,Option.bind_some,es,Option.bind_some,Option.bind_some,PF hi (by omega)]
    cases (s != it[i].2) with
    | true=>exact .inr ⟨_,rfl⟩
    | false=>exact .inl rfl) (by unfold Ps;simp) n (by unfold PY at hn;omega)
   dsimp only
   rw [e3,Option.bind_some]
   cases r3 <;> exact ⟨_,rfl⟩
theorem Rm (nx:Int) (l:List Ra) (h:Q1 (nx,l)) (n:Nat) (hn:PY≤n):∃ b,Py n nx l=some b:=by
 have hl:l.length≤1048576:=h.1
 unfold Py
 simp only [Qc,Option.bind_some]
 obtain ⟨b,eb⟩:∃ b,(bif !Pp nx 1 1000000 then some true else some (decide ((l.length:Int)>30)))=some b:=by cases Pp nx 1 1000000 <;> exact ⟨_,rfl⟩
 rw [eb,Option.bind_some]
 cases b with
 | true=>exact ⟨_,rfl⟩
 | false =>
  rw [cond_false]
  obtain ⟨r,e⟩:=TZ (P8 n nx l) l.length (fun i hi=>by
   obtain ⟨b,ob⟩:=TL l[i] (h.2 _ (List.getElem_mem hi)) n hn
   have hp:(bif decide ((i:Int)>0) then (ND l (Pe ((i:Int) - 1))).bind (fun y=>some (decide (y.1≥l[i].1))) else some false)=some (!P4 (·.1) l i l[i]):=Ss (·.1) l l[i] i hi hl some
   simp only [P8,PD hi,Option.bind_some,Qc,PF hi (by omega),hp,ob]
   rw [show decide ((i:Int)<(l.length:Int))=true by simpa using hi]
   generalize P4 (·.1) l i l[i]=b4
   cases b <;> cases Pp l[i].1 1 (Pe (nx - 1)) <;> cases b4 <;> first | exact .inr ⟨_,rfl⟩ | exact .inl rfl) (by unfold P8;simp) n (by unfold PY at hn;omega)
  rw [e,Option.bind_some]
  cases r <;> exact ⟨_,rfl⟩
theorem VV (s:List PV) (hs:PE s) (k:Nat) (nx:Int) (l:List Ra) (h:Qi k nx l) (id:Int) (n:Nat) (hn:PY≤n):∃ s' l' b,RE n s nx l id=some (s',nx,l',b)∧PE s'∧Qi k nx l':=by
 obtain ⟨b,eb⟩:=Rm nx l h.sm n hn
 unfold RE
 rw [RP nx l h.sm n hn,Option.bind_some,Pl s hs.sm n hn,hs.ok,eb]
 simp only [Option.bind_some,Bool.not_true,cond_false,PO s hs.sm n hn]
 have keep:∃ s' l' b,(some (s,nx,l,false):Option ((List PV)×Int×(List Ra)×Bool))=some (s',nx,l',b)∧PE s'∧Qi k nx l':=⟨_,_,_,rfl,hs,h⟩
 cases b with
 | false =>
  rcases RS nx l h.sm.1 id n hn with e | ⟨i,hi,e⟩ <;> (rw [e];exact keep)
 | true =>
  simp only [Bool.not_true,cond_false]
  rcases RS nx l h.sm.1 id n hn with e | ⟨i,hi,e⟩
  ·rw [e];exact keep
  ·rw [e,Option.bind_some,show decide ((i:Int)<0)=false by simp,cond_false,PD hi,Option.bind_some,Option.bind_some]
   cases (l[i].2.2.2.2 != 1) with
   | true=>exact keep
   | false =>
    rw [cond_false,Option.bind_some]
    have hp:=(h.each _ (List.getElem_mem hi)).2.2.2.1.2.1
    obtain ⟨s2,b2,e2,hs2⟩:=U3 s hs l[i].2.2.2.1 (by omega) 2 (.inr rfl) n hn
    unfold RM
    rw [e2,Option.bind_some,Option.bind_some]
    cases b2 with
    | false=>exact keep
    | true =>
     simp only [Bool.not_true,cond_false,Qr hi,cond_true,Int.toNat_natCast]
     exact ⟨_,_,_,rfl,hs2,h.Df i 3 ⟨by omega,by omega⟩⟩
theorem Wc (k:Nat) (nx:Int) (l:List Ra) (h:Qi k nx l) (id:Int) (n:Nat) (hn:PY≤n):∃ l' b,R5 n nx l id=some (nx,l',b)∧Qi k nx l':=by
 obtain ⟨b,eb⟩:=Rm nx l h.sm n hn
 unfold R5
 rw [RP nx l h.sm n hn,Option.bind_some,eb]
 simp only [Option.bind_some]
 have keep:∃ l' b,(some (nx,l,false):Option (Int×(List Ra)×Bool))=some (nx,l',b)∧Qi k nx l':=⟨_,_,rfl,h⟩
 cases b with
 | false =>
  rcases RS nx l h.sm.1 id n hn with e | ⟨i,hi,e⟩ <;> (rw [e];exact keep)
 | true =>
  simp only [Bool.not_true,cond_false]
  rcases RS nx l h.sm.1 id n hn with e | ⟨i,hi,e⟩
  ·rw [e];exact keep
  ·rw [e,Option.bind_some,show decide ((i:Int)<0)=false by simp,cond_false,PD hi,Option.bind_some]
   cases (l[i].2.2.2.2 != 1) with
   | true=>exact keep
   | false =>
    simp only [Option.bind_some,cond_false,Qr hi,cond_true,Int.toNat_natCast]
    exact ⟨_,_,rfl,h.Df i 2 ⟨by omega,by omega⟩⟩
theorem Wb (s:List PV) (hs:PE s) (k:Nat) (nx:Int) (l:List Ra) (h:Qi k nx l) (hk:k+1≤1000) (desk:Int) (hd:0≤desk∧desk≤99) (it:List PH) (hi:Rd it) (n:Nat) (hn:PY≤n) :
  ∃ s' nx' l' id,QH n s nx l desk it=some (s',nx',l',id)∧PE s'∧Qi (k+1) nx' l':=by
 obtain ⟨b,eb⟩:=Rm nx l h.sm n hn
 have hnx:=h.nx
 have hlen:=h.len
 unfold QH
 rw [RP nx l h.sm n hn,Option.bind_some,Pl s hs.sm n hn,hs.ok,eb]
 simp only [Option.bind_some,Bool.not_true,cond_false,PO s hs.sm n hn,Qc]
 have keep:∃ s' nx' l' id,(some (s,nx,l,0):Option ((List PV)×Int×(List Ra)×Int))=some (s',nx',l',id)∧PE s'∧Qi (k+1) nx' l':=⟨_,_,_,_,rfl,hs,h.more (k+1) (by omega) hk⟩
 cases b with
 | false=>exact keep
 | true =>
  rw [show Pp desk 0 99=true by simp [Pp];omega]
  simp only [Bool.not_true,cond_false]
  cases hz:((it.length:Int)==0) with
  | true=>exact keep
  | false =>
   have hz:¬ ((it.length:Int)=0):=by simpa using hz
   rw [cond_false]
   cases ((l.length:Int)==30) with
   | true=>exact keep
   | false =>
    rw [cond_false,Option.bind_some]
    cases (nx==1000000) with
    | true=>exact keep
    | false =>
     rw [cond_false]
     obtain ⟨o,ok,ep,_,hg,_⟩:=UO hs hi n hn
     rw [ep,Option.bind_some]
     cases ok with
     | false=>exact keep
     | true =>
      simp only [Bool.not_true,cond_false]
      obtain ⟨hpg,hft,ol⟩:=hg rfl
      obtain ⟨s2,b2,e2,hs2⟩:=U3 s hs o (by clear hn;omega) 1 (.inl rfl) n hn
      unfold Q2
      rw [e2,Option.bind_some,Option.bind_some]
      dsimp only
      rw [show decide (([]:List PH).length+it.length≤DZ)=true from Tc (by have:=hi.2.2;simp;omega),cond_true]
      have hr:decide (l.length+1≤DZ)=true:=S0 (by omega)
      simp only [List.length_singleton,hr,cond_true]
      rw [PS (n:=nx+1) (by omega) (by omega)]
      refine ⟨_,_,_,_,rfl,hs2, ?_⟩
      refine {len:=by rw [List.length_append,List.length_singleton];omega,lt := ?_,each:=fun q hq => ?_,nx:=⟨by omega,by omega⟩,kk:=hk }
      ·refine List.pairwise_append.2 ⟨h.lt,List.pairwise_singleton _ _,fun x hx y hy => ?_⟩
       rw [List.mem_singleton.1 hy]
       have:=(h.each x hx).1
       show x.1<nx
       omega
      ·rcases List.mem_append.1 hq with hq | hq
       ·obtain ⟨⟨q1,q2⟩,q3⟩:=h.each q hq
        exact ⟨⟨q1,by omega⟩,q3⟩
       ·rw [List.mem_singleton.1 hq]
        exact ⟨⟨by show 1≤nx;omega,by show nx≤nx+1 - 1;omega⟩,hd,⟨hi,by show 0<it.length;omega⟩,⟨hpg,ol,fun p hp=>by
         obtain ⟨_,_,i,hi2,e⟩:=hft.each p hp
         rw [← e];exact (hs.2.2 _ (List.getElem_mem hi2)).1⟩,⟨by show (1:Int)≤1;omega,by show (1:Int)≤3;omega⟩⟩
theorem V9 (n:Nat) (hn:PY≤n) (a:List Int) (ha:a.length≤1048576) (ci ch:Int) (hci:0≤ci) (M:Int) (hM:M≤29) :
  ∃ s nx l i' h',Ro n a ci ch M=some (s,nx,l,a,i',h')∧0≤i'∧PE s∧Qi 29 nx l:=by
 obtain ⟨s0,i0,h0,e0,j0,hs0⟩:=Wq n hn a ha ci ch hci
 unfold Ro
 rw [e0,Option.bind_some]
 obtain ⟨v,i1,h1,e1,j1,v0,v1⟩:=QL a i0 h0 j0 ha 3
 dsimp only
 rw [e1,Option.bind_some]
 obtain ⟨K,i2,h2,e2,j2,k0,k1⟩:=QL a i1 h1 j1 ha M
 dsimp only
 rw [e2,Option.bind_some]
 dsimp only
 obtain ⟨k,rfl⟩:∃ k:Nat,K=(k:Int):=⟨K.toNat,by omega⟩
 have hk:k≤29:=by omega
 rw [PS (n:=1+v) (by omega) (by omega)]
 have hb0:Qi 0 (1+v) []:={len:=by simp,lt:=List.Pairwise.nil,each:=fun o ho=>(by cases ho),nx:=⟨by omega,by omega⟩,kk:=by omega }
 obtain ⟨_,r,e,hr⟩:=Qs (RQ n) (RQ n) (fun i (x:Int×(List Int)×Int×Int×(List PV)×Int×(List Ra))=>x.1=(k:Int) - (i:Int)∧i≤k∧x.2.1=a∧0≤x.2.2.1∧PE x.2.2.2.2.1∧Qi i x.2.2.2.2.2.1 x.2.2.2.2.2.2)
  (fun r=>r.2.1=a∧0≤r.2.2.1∧PE r.2.2.2.2.1∧Qi 29 r.2.2.2.2.2.1 r.2.2.2.2.2.2) k (fun i x hi hI=>by
  refine ⟨rfl, ?_⟩
  obtain ⟨c,b,ci,ch,s,nx,l⟩:=x
  obtain ⟨g1,g2,g3,g4,g5,g6⟩:=hI
  dsimp only at g1 g3 g4 g5 g6
  subst g1;subst g3
  unfold RQ
  dsimp only
  by_cases hlt:i<k
  ·left
   rw [show decide ((k:Int) - (i:Int)>0)=true by simp;omega,cond_true]
   obtain ⟨u,i3,h3,e3,j3,u0,u1⟩:=QL b ci ch g4 ha 5
   rw [e3,Option.bind_some]
   dsimp only
   rw [PS (n:=(k:Int) - (i:Int) - 1) (by omega) (by omega)]
   cases (u==0) with
   | true =>
    obtain ⟨c,i4,h4,e4,j4,_⟩:=QL b i3 h3 j3 ha 6
    rw [cond_true,e4,Option.bind_some]
    dsimp only
    obtain ⟨s',l',b',e5,hs',hl'⟩:=VV s g5 i nx l g6 c n hn
    rw [e5]
    exact ⟨_,rfl,⟨by show (k:Int) - (i:Int) - 1=(k:Int) - ((i+1:Nat):Int);omega,by omega,rfl,j4,hs',hl'.more (i+1) (by omega) (by omega)⟩,hlt⟩
   | false =>
    rw [cond_false]
    cases (u==1) with
    | true =>
     obtain ⟨c,i4,h4,e4,j4,_⟩:=QL b i3 h3 j3 ha 6
     rw [cond_true,e4,Option.bind_some]
     dsimp only
     obtain ⟨l',b',e5,hl'⟩:=Wc i nx l g6 c n hn
     rw [e5]
     exact ⟨_,rfl,⟨by show (k:Int) - (i:Int) - 1=(k:Int) - ((i+1:Nat):Int);omega,by omega,rfl,j4,g5,hl'.more (i+1) (by omega) (by omega)⟩,hlt⟩
    | false =>
     obtain ⟨d,i4,h4,e4,j4,d0,d1⟩:=QL b i3 h3 j3 ha 30
     rw [cond_false,e4,Option.bind_some]
     dsimp only
     obtain ⟨it,i5,h5,e5,j5,hit⟩:=UY n hn b ha i4 h4 j4
     rw [e5,Option.bind_some]
     dsimp only
     obtain ⟨s',nx',l',id,e6,hs',hl'⟩:=Wb s g5 i nx l g6 (by omega) d ⟨d0,by omega⟩ it hit n hn
     rw [e6]
     exact ⟨_,rfl,⟨by show (k:Int) - (i:Int) - 1=(k:Int) - ((i+1:Nat):Int);omega,by omega,rfl,j5,hs',hl'⟩,hlt⟩
  ·right
   have:i=k:=by omega
   subst this
   rw [show decide ((i:Int) - (i:Int)>0)=false by simp]
   exact ⟨_,rfl,rfl,g4,g5,g6.more 29 (by omega) (by omega)⟩) n (by unfold PY at hn;omega) ((k:Int),a,i2,h2,s0,1+v,([]:List Ra)) ⟨by show (k:Int)=(k:Int) - ((0:Nat):Int);omega,by omega,rfl,j2,hs0,hb0⟩
 rw [e,Option.bind_some]
 obtain ⟨c,b,ci2,ch2,s,nx,l⟩:=r
 obtain ⟨g1,g2,g3,g4⟩:=hr
 dsimp only at g1 g2 g3 g4
 subst g1
 exact ⟨_,_,_,_,_,rfl,g2,g3,g4⟩
theorem Sc (nx:Int) (l:List Ra) (h:Q1 (nx,l)) (n:Nat) (hn:PY≤n):Pt n nx l=some (nx,l):=by
 have hl:l.length≤1048576:=h.1
 have hc:=Pm (σ:=List Ra) (Qz l) (fun i s=>((i:Int),nx,s)) l (fun r s=>((l.length:Int),nx,s++r)) (fun i s=>s.length≤i)
  (fun s hs=>by simp [Qz]) (fun i y r s h1 h2 h3 h4 h5=>by
   left
   have hy:l[i]=y:=by rw [List.getElem?_eq_getElem h1] at h2;exact Option.some.inj h2
   refine ⟨s++[y], ?_,by rw [List.length_append,List.length_singleton];omega,by simp⟩
   unfold Qz
   dsimp only
   rw [show decide ((i:Int)<(l.length:Int))=true by simpa using h1,cond_true,PD h1,hy,Option.bind_some,SV y (h.2 y (by rw [← hy];exact List.getElem_mem h1)),Option.bind_some,PF h1 (by omega)]
   have hr:decide (s.length+1≤DZ)=true:=S0 (by omega)
   simp only [List.length_singleton,hr,cond_true])
  n (by unfold PY at hn;omega) [] (by simp)
 unfold Pt
 rw [show ((0:Nat):Int)=0 from rfl] at hc
 rw [hc]
 simp
theorem XI {β:Type} (f:Int→Option (Int⊕(Int⊕Int))) (xs:List β) (P:β→Bool) (hs:∀ (i:Nat) (x:β),i<xs.length→xs[i]? = some x→f (i:Int)=some (bif P x then .inr (.inr (i:Int)) else .inl ((i+1:Nat):Int)))
  (j:Nat) (hj:j<xs.length) (hP:P xs[j]=true):∀ n,xs.length<n→∃ i,∃ h:i<xs.length,P xs[i]=true∧iter n f 0=some (.inr (i:Int)):=by
 have key:∀ d i n,i+d=j→d<n→∃ k,∃ h:k<xs.length,P xs[k]=true∧iter n f (i:Int)=some (.inr (k:Int)):=by
  intro d
  induction d with
  | zero =>
   intro i n hi hn
   obtain ⟨n,rfl⟩:∃ k,n=k+1:=⟨n - 1,by omega⟩
   have:i=j:=by omega
   subst this
   have hf:=hs i xs[i] hj (List.getElem?_eq_getElem hj)
   rw [hP,cond_true] at hf
   exact ⟨i,hj,hP,Pf hf n⟩
  | succ d ih =>
   intro i n hi hn
   obtain ⟨n,rfl⟩:∃ k,n=k+1:=⟨n - 1,by omega⟩
   have hlt:i<xs.length:=by omega
   have hf:=hs i xs[i] hlt (List.getElem?_eq_getElem hlt)
   cases hp:P xs[i] with
   | true=>rw [hp,cond_true] at hf;exact ⟨i,hlt,hp,Pf hf n⟩
   | false=>rw [hp,cond_false] at hf;rw [QW hf n];exact ih (i+1) n (by omega) (by omega)
 exact fun n hn=>key j 0 n (by omega) (by omega)
theorem UF (nx:Int) (l:List Ra) (hl:l.length≤1048576) (hp:l.Pairwise (fun a b=>a.1<b.1)) (i:Nat) (hi:i<l.length) (n:Nat) (hn:PY≤n):Pv n nx l l[i].1=some (i:Int):=by
 obtain ⟨j,hj,hP,e⟩:=XI (QC l l[i].1) l (fun x=>x.1==l[i].1) (fun m x h1 h2=>by
  have hx:l[m]=x:=by rw [List.getElem?_eq_getElem h1] at h2;exact Option.some.inj h2
  simp only [QC,PD h1,hx,Option.bind_some,PF h1 (by omega)]
  rw [show decide ((m:Int)<(l.length:Int))=true by simpa using h1]
  cases hq:(x.1==l[i].1) <;> rfl) i hi (by simp) n (by unfold PY at hn;omega)
 have hji:j=i:=by
  have hP:l[j].1=l[i].1:=by simpa using hP
  rcases Nat.lt_trichotomy j i with q | q | q
  ·have:=List.pairwise_iff_getElem.1 hp j i hj hi q;omega
  ·exact q
  ·have:=List.pairwise_iff_getElem.1 hp i j hi hj q;omega
 subst hji
 unfold Pv
 rw [e];rfl
theorem Yl (nx:Int) (l:List Ra) (hl:l.length≤1048576) (c:Int) (hc:∀ x∈l,x.1≠c) (n:Nat) (hn:PY≤n):Pv n nx l c=some (-1):=by
 have:=Tu (QC l c) l (fun x=>x.1==c) (fun m x h1 h2=>by
  have hx:l[m]=x:=by rw [List.getElem?_eq_getElem h1] at h2;exact Option.some.inj h2
  simp only [QC,PD h1,hx,Option.bind_some,PF h1 (by omega)]
  rw [show decide ((m:Int)<(l.length:Int))=true by simpa using h1]
  cases hq:(x.1==c) <;> rfl) (by simp [QC]) n (by unfold PY at hn;omega)
 unfold Pv
 rcases this with e | ⟨i,hi,hP,e⟩
 ·rw [e];rfl
 ·exact absurd (by simpa using hP) (hc _ (List.getElem_mem hi))
def UB (l:List PH) (ps:List PB):Int:=match l with
 | []=>0
 | y::r=>QO y.1 ps+UB r ps
theorem Vu:∀ l:List PH,UB l []=0
 | []=>rfl
 | y::r=>by simp only [UB,Vu r,QO];rfl
theorem Ui (p:PB) (ps:List PB):∀ l:List PH,(∀ y∈l,y.1≠p.2.1)→UB l (p::ps)=UB l ps
 | [],_=>rfl
 | y::r,h=>by
  have h1:=h y List.mem_cons_self
  simp only [UB,QO,Ui p ps r fun z hz=>h z (List.mem_cons_of_mem _ hz)]
  rw [show (p.2.1==y.1)=false from beq_eq_false_iff_ne.2 fun e=>h1 e.symm,cond_false];omega
theorem WZ (p:PB) (ps:List PB):∀ l:List PH,l.Pairwise (fun a b=>a.1<b.1)→(∃ y∈l,y.1=p.2.1)→UB l (p::ps)=p.2.2+UB l ps
 | [],_,⟨y,hy,_⟩=>by cases hy
 | y::r,hl,⟨z,hz,e⟩=>by
  obtain ⟨h1,h2⟩:=List.pairwise_cons.1 hl
  simp only [UB,QO]
  by_cases hy:y.1=p.2.1
  ·rw [Ui p ps r fun w hw=>by have:=h1 w hw;omega,show (p.2.1==y.1)=true from beq_iff_eq.2 hy.symm,cond_true];omega
  ·rcases List.mem_cons.1 hz with e2 | hz
   ·rw [e2] at e;exact (hy e).elim
   ·rw [WZ p ps r h2 ⟨z,hz,e⟩,show (p.2.1==y.1)=false from beq_eq_false_iff_ne.2 fun e=>hy e.symm,cond_false];omega
theorem Uh {l:List PH} (hl:l.Pairwise fun a b=>a.1<b.1):∀ ps:List PB,(∀ p∈ps,1≤p.2.2)→UB l ps≤SC ps∧(UB l ps=SC ps↔∀ p∈ps,∃ y∈l,y.1=p.2.1)
 | [],_=>by
  rw [Vu]
  exact ⟨by simp [SC],⟨fun _ p hp=>(by cases hp),fun _=>rfl⟩⟩
 | p::ps,h=>by
  obtain ⟨i1,i2⟩:=Uh hl ps fun q hq=>h q (List.mem_cons_of_mem _ hq)
  have hp:=h p List.mem_cons_self
  simp only [SC]
  by_cases hy:∃ y∈l,y.1=p.2.1
  ·rw [WZ p ps l hl hy]
   refine ⟨by omega,fun e q hq => ?_,fun hh => ?_⟩
   ·rcases List.mem_cons.1 hq with rfl | hq
    ·exact hy
    ·exact i2.1 (by omega) q hq
   ·have:=i2.2 fun q hq=>hh q (List.mem_cons_of_mem _ hq)
    omega
  ·rw [Ui p ps l fun y hy2 e=>hy ⟨y,hy2,e⟩]
   exact ⟨by omega,fun e=>by omega,fun hh=>(hy (hh p List.mem_cons_self)).elim⟩
theorem VR (ps:List PB):∀ l:List PH,(∀ y∈l,QO y.1 ps=y.2)→UB l ps=Rc l
 | [],_=>rfl
 | y::r,h=>by
  simp only [UB,Rc,h y List.mem_cons_self,VR ps r fun z hz=>h z (List.mem_cons_of_mem _ hz)]
theorem Yw {ps:List PB} (h:∀ p∈ps,1≤p.2.2) {p:PB} (hp:p∈ps):p.2.2≤QO p.2.1 ps:=by
 induction ps with
 | nil=>cases hp
 | cons q r ih =>
  have h1:=SY p.2.1 r fun z hz=>h z (List.mem_cons_of_mem _ hz)
  have h2:=h q List.mem_cons_self
  simp only [QO]
  rcases List.mem_cons.1 hp with rfl | hp
  ·rw [beq_self_eq_true,cond_true];omega
  ·have:=ih (fun z hz=>h z (List.mem_cons_of_mem _ hz)) hp
   cases (q.2.1==p.2.1)
   ·rw [cond_false];omega
   ·rw [cond_true];omega
theorem W0 {l:List PH} (hl:Rd l) {ps:List PB}:((∀ p∈ps,1≤p.2.2∧p.2.2≤1000)∧(∀ y∈l,QO y.1 ps=y.2)∧Rc l - SC ps=0)↔PG ps l:=by
 constructor
 ·rintro ⟨h1,h2,h3⟩
  have hs:=(Uh hl.1 ps fun p hp=>(h1 p hp).1).2.1 (by rw [VR ps l h2];omega)
  exact ⟨fun p hp=>⟨(h1 p hp).1,hs p hp⟩,h2⟩
 ·rintro ⟨h1,h2⟩
  have hs:=(Uh hl.1 ps fun p hp=>(h1 p hp).1).2.2 fun p hp=>(h1 p hp).2
  refine ⟨fun p hp=>⟨(h1 p hp).1, ?_⟩,h2,by rw [VR ps l h2] at hs;omega⟩
  obtain ⟨y,hy,e⟩:=(h1 p hp).2
  have:=Yw (fun q hq=>(h1 q hq).1) hp
  have h4:=h2 y hy
  have h5:=hl.2.1 y hy
  rw [e] at h4
  omega
def W8 (nx:Int) (o:Ra):Prop:=(1≤o.1∧o.1≤nx - 1)∧(0≤o.2.1∧o.2.1≤99)∧(Rd o.2.2.1∧0<o.2.2.1.length)∧PG o.2.2.2.1 o.2.2.1∧(1≤o.2.2.2.2∧o.2.2.2.2≤3)
def UD (nx:Int) (l:List Ra):Prop:=(1≤nx∧nx≤1000000)∧l.length≤30∧l.Pairwise (fun a b=>a.1<b.1)∧∀ o∈l,W8 nx o
def W9 (l:List Ra):Prop:=∀ o∈l,∀ p∈o.2.2.2.1,1≤p.1∧p.1≤999
def Sy (nx:Int) (l:List Ra) (i:Nat):Bool:=match l[i]? with
 | some o=>Pp o.1 1 (nx - 1)&&P4 (·.1) l i o&&Pp o.2.1 0 99&&Pp o.2.2.2.2 1 3 && !((o.2.2.1.length:Int)==0)&&Q7 o.2.2.1&&Ru o.2.2.2.1 o.2.2.1
 | none=>false
theorem Wz {nx:Int} {l:List Ra} {i:Nat} (hi:i<l.length):Sy nx l i=true↔W8 nx l[i]∧P4 (·.1) l i l[i]=true:=by
 unfold Sy W8
 rw [List.getElem?_eq_getElem hi]
 simp only [Bool.and_eq_true,Rs,Bool.not_eq_true',beq_eq_false_iff_ne]
 have hin:∀ a b c:Int,Pp a b c=true↔b≤a∧a≤c:=fun a b c=>by unfold Pp;simp only [Bool.and_eq_true,decide_eq_true_eq]
 rw [hin,hin,hin]
 constructor
 ·rintro ⟨⟨⟨⟨⟨⟨h1,h2⟩,h3⟩,h4⟩,h5⟩,h6⟩,h7⟩
  exact ⟨⟨h1,h3,⟨h6,by omega⟩,(Sr _ _ h6.1).1 h7,h4⟩,h2⟩
 ·rintro ⟨⟨h1,h3,⟨h6,h5⟩,h7,h4⟩,h2⟩
  exact ⟨⟨⟨⟨⟨⟨h1,h2⟩,h3⟩,h4⟩,by omega⟩,h6⟩,(Sr _ _ h6.1).2 h7⟩
theorem VW {nx:Int} {l:List Ra} (hn:1≤nx∧nx≤1000000) (h30:l.length≤30):(List.range l.length).all (Sy nx l)=true↔UD nx l:=by
 rw [List.all_eq_true]
 have hat:∀ i (hi:i<l.length),Sy nx l i=true↔W8 nx l[i]∧P4 (·.1) l i l[i]=true:=fun i hi=>Wz hi
 constructor
 ·intro h
  have hi:∀ i (hi:i<l.length),W8 nx l[i]∧P4 (·.1) l i l[i]=true:=fun i hi=>(hat i hi).1 (h i (List.mem_range.2 hi))
  refine ⟨hn,h30,Su _ _ fun i hi2=>(SX (·.1) l (i+1) hi2).1 (hi (i+1) hi2).2 i rfl,fun o ho => ?_⟩
  obtain ⟨i,hi2,rfl⟩:=List.mem_iff_getElem.1 ho
  exact (hi i hi2).1
 ·rintro ⟨_,_,h3,h4⟩ i hi
  have hi:=List.mem_range.1 hi
  exact (hat i hi).2 ⟨h4 _ (List.getElem_mem hi),TA h3 (fun x y h=>h) i hi⟩
theorem UN (ps:List PB) (h72:ps.length≤72) (hN:∀ p∈ps,1≤p.2.2∧p.2.2≤1000) (k:Int) (n:Nat) (hn:PY≤n):Qt n ps k=some (QO k ps):=by
 have hc:=Pm (σ:=Int) (QA ps k) (fun i s=>(s,(i:Int))) ps (fun r s=>(s+QO k r,(ps.length:Int))) (fun i s=>0≤s∧s≤1000 * (i:Int))
  (fun s hs=>by unfold QA;simp [QO])
  (fun i p r s g1 g2 g3 g4 g5=>by
   left
   have hp:ps[i]=p:=by rw [List.getElem?_eq_getElem g1] at g2;exact Option.some.inj g2
   have hpN:=hN p (by rw [← hp];exact List.getElem_mem g1)
   unfold QA
   dsimp only
   rw [show decide ((i:Int)<(ps.length:Int))=true by rw [decide_eq_true_eq];clear hn;omega,cond_true,PD g1,hp,PF g1 (show ps.length≤9223372036854775807 by clear hn;omega)]
   simp only [Option.bind_some,QO]
   cases (p.2.1==k) with
   | true =>
    rw [cond_true,Option.bind_some,PS (n:=s+p.2.2) (by clear hn;omega) (by clear hn;omega)]
    exact ⟨s+p.2.2,rfl,⟨by clear hn;omega,by clear hn;omega⟩,by rw [cond_true,Int.add_assoc]⟩
   | false =>
    rw [cond_false,Option.bind_some]
    exact ⟨s,rfl,⟨g5.1,by clear hn;omega⟩,by rw [cond_false,Int.zero_add]⟩)
  n (by unfold PY at hn;omega) 0 ⟨by omega,by omega⟩
 unfold Qt
 rw [show ((0:Nat):Int)=0 from rfl] at hc
 rw [hc,Option.bind_some,Int.zero_add]
theorem XT (l:List PH) (hl:Rd l) (n:Nat) (hn:PY≤n):iter n (Pn l) (0,0)=some (Rc l,(l.length:Int)):=by
 have h6:=hl.2.2
 have hc:=Pm (σ:=Int) (Pn l) (fun i s=>(s,(i:Int))) l (fun r s=>(s+Rc r,(l.length:Int))) (fun i s=>0≤s∧s≤1000 * (i:Int))
  (fun s hs=>by unfold Pn;simp [Rc])
  (fun i y r s g1 g2 g3 g4 g5=>by
   left
   have hy:l[i]=y:=by rw [List.getElem?_eq_getElem g1] at g2;exact Option.some.inj g2
   have hyb:=hl.2.1 y (by rw [← hy];exact List.getElem_mem g1)
   refine ⟨s+y.2, ?_,⟨by clear hn;omega,by clear hn;omega⟩,by simp only [Rc,Int.add_assoc]⟩
   unfold Pn
   dsimp only
   rw [show decide ((i:Int)<(l.length:Int))=true by rw [decide_eq_true_eq];clear hn;omega,cond_true,PD g1,hy,Option.bind_some,PF g1 (show l.length≤9223372036854775807 by clear hn;omega),PS (n:=s+y.2) (by clear hn;omega) (by clear hn;omega)])
  n (by unfold PY at hn;omega) 0 ⟨by omega,by omega⟩
 rw [show ((0:Nat):Int)=0 from rfl] at hc
 rw [hc,Int.zero_add]
theorem XU (ps:List PB) (h72:ps.length≤72) (hP:∀ p∈ps,1≤p.1∧p.1≤999) (s0:Int) (hs0:0≤s0∧s0≤6000) (n:Nat) (hn:PY≤n) :
  iter n (Po ps) (s0,0)=some (if ∀ p∈ps,1≤p.2.2∧p.2.2≤1000 then .inl (s0 - SC ps,(ps.length:Int)) else .inr false):=by
 have hc:=Pm (σ:=Int) (Po ps) (fun i s=>(s,(i:Int))) ps (fun r s=>if ∀ p∈r,1≤p.2.2∧p.2.2≤1000 then .inl (s - SC r,(ps.length:Int)) else .inr false) (fun i s => -1000 * (i:Int)≤s∧s≤6000)
  (fun s hs=>by
   rw [if_pos (fun p hp=>by cases hp)]
   unfold Po;simp [SC])
  (fun i p r s g1 g2 g3 g4 g5=>by
   have hp:ps[i]=p:=by rw [List.getElem?_eq_getElem g1] at g2;exact Option.some.inj g2
   have hpP:=hP p (by rw [← hp];exact List.getElem_mem g1)
   unfold Po
   dsimp only
   rw [show decide ((i:Int)<(ps.length:Int))=true by rw [decide_eq_true_eq];clear hn;omega,cond_true,PD g1,hp,PF g1 (show ps.length≤9223372036854775807 by clear hn;omega)]
   simp only [Option.bind_some,Qc]
   rw [show Pp p.1 1 999=true by unfold Pp;rw [decide_eq_true hpP.1,decide_eq_true hpP.2];rfl]
   by_cases hb:1≤p.2.2∧p.2.2≤1000
   ·left
    rw [show Pp p.2.2 1 1000=true by unfold Pp;rw [decide_eq_true hb.1,decide_eq_true hb.2];rfl]
    simp only [Bool.not_true,cond_false,Option.bind_some]
    rw [PS (n:=s - p.2.2) (by clear hn;omega) (by clear hn;omega)]
    refine ⟨s - p.2.2,rfl,⟨by clear hn;omega,by clear hn;omega⟩, ?_⟩
    simp only [List.forall_mem_cons,hb,and_self,true_and,SC,Int.sub_sub]
   ·right
    rw [show Pp p.2.2 1 1000=false by
     unfold Pp
     rw [Bool.and_eq_false_iff,decide_eq_false_iff_not,decide_eq_false_iff_not]
     by_cases h:1≤p.2.2
     ·exact .inr fun q=>hb ⟨h,q⟩
     ·exact .inl h]
    rw [if_neg (fun q=>hb (q p List.mem_cons_self))]
    rfl)
  n (by unfold PY at hn;omega) s0 ⟨by omega,by omega⟩
 rw [show ((0:Nat):Int)=0 from rfl] at hc
 exact hc
theorem Tp (o:Ra) (h1:o.2.2.1.length≤1048576) (hP:∀ p∈o.2.2.2.1,1≤p.1∧p.1≤999) (n:Nat) (hn:PY≤n) :
  QN n o.1 o.2.1 o.2.2.1 o.2.2.2.1 o.2.2.2.2=some (Pp o.2.1 0 99&&Pp o.2.2.2.2 1 3 && !((o.2.2.1.length:Int)==0)&&Q7 o.2.2.1&&(decide (o.2.2.2.1.length≤72)&&Ru o.2.2.2.1 o.2.2.1)):=by
 obtain ⟨id,desk,it,pk,st⟩:=o
 dsimp only at h1 hP ⊢
 unfold QN
 simp only [Qc,Rw it h1 n hn,Option.bind_some]
 by_cases h72:pk.length≤72
 case neg =>
  rw [show decide ((pk.length:Int)>72)=true by rw [decide_eq_true_eq];clear hn;omega,decide_eq_false h72,Bool.false_and,Bool.and_false]
  cases Pp desk 0 99 <;> cases Q7 it <;> cases ((it.length:Int)==0) <;> cases Pp st 1 3 <;> rfl
 rw [show decide ((pk.length:Int)>72)=false by rw [decide_eq_false_iff_not];clear hn;omega,decide_eq_true h72,Bool.true_and]
 cases Pp desk 0 99 with
 | false=>rfl
 | true =>
 cases hi:Q7 it with
 | false=>cases ((it.length:Int)==0) <;> cases Pp st 1 3 <;> rfl
 | true =>
 cases ((it.length:Int)==0) with
 | true=>cases Pp st 1 3 <;> rfl
 | false =>
 cases Pp st 1 3 with
 | false=>rfl
 | true =>
 have hI:=Rs.1 hi
 have h6:=hI.2.2
 have hs0:0≤Rc it∧Rc it≤6000:=by
  have:∀ l:List PH,(∀ y∈l,1≤y.2∧y.2≤1000)→0≤Rc l∧Rc l≤1000 * (l.length:Int):=by
   intro l
   induction l with
   | nil=>intro _;simp [Rc]
   | cons y r ih =>
    intro h
    have a1:=ih fun z hz=>h z (List.mem_cons_of_mem _ hz)
    have a2:=h y List.mem_cons_self
    simp only [Rc,List.length_cons]
    clear hn
    omega
  have:=this it fun y hy=>⟨(hI.2.1 y hy).2.2.1,(hI.2.1 y hy).2.2.2⟩
  clear hn
  omega
 have hask:=W0 hI (ps:=pk)
 have hpb:=Sr pk it hI.1
 simp only [Bool.not_true,Bool.not_false,cond_false,Bool.and_true,Bool.true_and,Option.bind_some]
 rw [XT it hI n hn,Option.bind_some]
 dsimp only
 rw [XU pk h72 hP (Rc it) hs0 n hn,Option.bind_some]
 by_cases hN:∀ p∈pk,1≤p.2.2∧p.2.2≤1000
 ·rw [if_pos hN]
  have h3:=SK (Ps n it pk) it (fun y=>QO y.1 pk==y.2) (fun i x hi hx=>by
   obtain ⟨_,rfl⟩:=List.getElem?_eq_some_iff.1 hx
   unfold Ps
   rw [show decide ((i:Int)<(it.length:Int))=true by rw [decide_eq_true_eq];clear hn;omega,cond_true,PD hi,Option.bind_some,UN pk h72 hN it[i].1 n hn,Option.bind_some,Option.bind_some,PF hi (show it.length≤9223372036854775807 by clear hn;omega)]
   simp only [bne]
   cases (QO it[i].1 pk==it[i].2) <;> rfl) (by unfold Ps;simp) n (by unfold PY at hn;omega)
  dsimp only
  rw [h3]
  cases ha:it.all (fun y=>QO y.1 pk==y.2) with
  | false =>
   rw [cond_false,Option.bind_some]
   show some false=_
   rw [show Ru pk it=false by
    rw [← Bool.not_eq_true]
    intro h
    have:=(hask.2 (hpb.1 h)).2.1
    rw [← Bool.not_eq_true] at ha
    exact ha (List.all_eq_true.2 fun y hy=>beq_iff_eq.2 (this y hy))]
  | true =>
   rw [cond_true,Option.bind_some]
   show some (Rc it - SC pk==0)=_
   refine congrArg some ?_
   rw [Bool.eq_iff_iff,hpb, ← hask,beq_iff_eq]
   exact ⟨fun h=>⟨hN,fun y hy=>beq_iff_eq.1 (List.all_eq_true.1 ha y hy),h⟩,fun h=>h.2.2⟩
 ·rw [if_neg hN]
  show some false=_
  rw [show Ru pk it=false by
   rw [← Bool.not_eq_true]
   intro h
   exact hN (hask.2 (hpb.1 h)).1]
def U4 (l:List Ra) (i:Nat):Bool:=match l[i]? with
 | some o=>decide (o.2.2.2.1.length≤72)
 | none=>false
theorem UL {nx:Int} {l:List Ra} (h:Q1 (nx,l)) (hp:W9 l) (n:Nat) (hn:PY≤n):∃ b,Py n nx l=some b∧(b=true↔UD nx l∧∀ o∈l,o.2.2.2.1.length≤72):=by
 have hl:l.length≤1048576:=h.1
 unfold Py
 simp only [Qc,Option.bind_some]
 by_cases hx:1≤nx∧nx≤1000000
 ·rw [show Pp nx 1 1000000=true by unfold Pp;rw [decide_eq_true hx.1,decide_eq_true hx.2];rfl]
  simp only [Bool.not_true,cond_false,Option.bind_some]
  by_cases h30:l.length≤30
  ·rw [show decide ((l.length:Int)>30)=false by rw [decide_eq_false_iff_not];clear hn;omega,cond_false]
   have:=RU (P8 n nx l) (fun i=>(i:Int)) l.length (fun i=>Sy nx l i&&U4 l i) (fun i hi=>by
    have hm:=List.getElem_mem hi
    have hpr:(bif decide ((i:Int)>0) then (ND l (Pe ((i:Int) - 1))).bind (fun y=>some (decide (y.1≥l[i].1))) else some false)=some (!P4 (·.1) l i l[i]):=Ss (·.1) l l[i] i hi hl some
    have hov:=Tp l[i] (h.2 _ hm).1 (hp _ hm) n hn
    simp only [P8,PD hi,Option.bind_some,Qc,PF hi (show l.length≤9223372036854775807 by clear hn;omega),hpr,hov]
    rw [show decide ((i:Int)<(l.length:Int))=true by rw [decide_eq_true_eq];clear hn;omega,PS (n:=nx - 1) (by clear hn;omega) (by clear hn;omega)]
    unfold Sy U4
    rw [List.getElem?_eq_getElem hi]
    dsimp only
    cases Pp l[i].1 1 (nx - 1) <;> cases P4 (·.1) l i l[i] <;> cases Pp l[i].2.1 0 99 <;> cases Pp l[i].2.2.2.2 1 3 <;> cases ((l[i].2.2.1.length:Int)==0) <;> cases Q7 l[i].2.2.1 <;> cases Ru l[i].2.2.2.1 l[i].2.2.1 <;> cases decide (l[i].2.2.2.1.length≤72) <;> rfl) (by simp [P8]) n (by unfold PY at hn;omega)
   rw [show ((0:Nat):Int)=0 from rfl] at this
   rw [this,Option.bind_some]
   refine ⟨(List.range l.length).all (fun i=>Sy nx l i&&U4 l i), ?_, ?_⟩
   ·cases (List.range l.length).all (fun i=>Sy nx l i&&U4 l i) <;> rfl
   ·rw [← VW hx h30,List.all_eq_true,List.all_eq_true]
    simp only [Bool.and_eq_true]
    constructor
    ·intro q
     refine ⟨fun i hi=>(q i hi).1,fun o ho => ?_⟩
     obtain ⟨i,hi,rfl⟩:=List.mem_iff_getElem.1 ho
     have:=(q i (List.mem_range.2 hi)).2
     unfold U4 at this
     rw [List.getElem?_eq_getElem hi] at this
     exact of_decide_eq_true this
    ·rintro ⟨q1,q2⟩ i hi
     refine ⟨q1 i hi, ?_⟩
     have hi:=List.mem_range.1 hi
     unfold U4
     rw [List.getElem?_eq_getElem hi]
     exact decide_eq_true (q2 _ (List.getElem_mem hi))
  ·rw [show decide ((l.length:Int)>30)=true by rw [decide_eq_true_eq];clear hn;omega,cond_true]
   exact ⟨false,rfl,(fun e=>by cases e),fun hb=>(h30 hb.1.2.1).elim⟩
 ·rw [show Pp nx 1 1000000=false by
   unfold Pp
   rw [Bool.and_eq_false_iff,decide_eq_false_iff_not,decide_eq_false_iff_not]
   by_cases h:1≤nx
   ·exact .inr fun q=>hx ⟨h,q⟩
   ·exact .inl h]
  exact ⟨false,rfl,(fun e=>by cases e),fun hb=>(hx hb.1.1).elim⟩
theorem SA {nx:Int} {l:List Ra} (h:Q1 (nx,l)) (n:Nat) (hn:PY≤n):∃ b,Px n nx l=some b∧(b=true↔UD nx l):=by
 have hl:l.length≤1048576:=h.1
 unfold Px
 simp only [TU,Qc,Option.bind_some]
 by_cases hx:1≤nx∧nx≤1000000
 ·rw [show Pp nx 1 1000000=true by unfold Pp;rw [decide_eq_true hx.1,decide_eq_true hx.2];rfl]
  simp only [Bool.not_true,cond_false,Option.bind_some]
  by_cases h30:l.length≤30
  ·rw [show decide ((l.length:Int)>30)=false by rw [decide_eq_false_iff_not];clear hn;omega,cond_false]
   have:=RU (Rf n nx l) (fun i=>(i:Int)) l.length (Sy nx l) (fun i hi=>by
    have hm:=List.getElem_mem hi
    have hpr:∀ C:Option Bool,(bif decide ((i:Int)>0) then (ND l (Pe ((i:Int) - 1))).bind (fun y=>bif decide (y.1≥l[i].1) then some true else C) else C)=bif !P4 (·.1) l i l[i] then some true else C:=fun C=>Ss (·.1) l l[i] i hi hl fun b=>bif b then some true else C
    have hit:l[i].2.2.1.length≤1048576:=(h.2 _ hm).1
    have hpk:l[i].2.2.2.1.length≤1048576:=(h.2 _ hm).2
    have hpo:Q7 l[i].2.2.1=true→Q0 n l[i].2.2.2.1 l[i].2.2.1=some (Ru l[i].2.2.2.1 l[i].2.2.1):=fun e=>by
     have hI:=Rs.1 e
     exact Tz _ hpk _ ⟨hI.1,fun y hy=>by have:=hI.2.1 y hy;clear hn;omega,hI.2.2⟩ n hn
    simp only [Rf,PD hi,Option.bind_some,TU,Qc,PF hi (show l.length≤9223372036854775807 by clear hn;omega),hpr,Qy _ hit n hn]
    rw [show decide ((i:Int)<(l.length:Int))=true by rw [decide_eq_true_eq];clear hn;omega,PS (n:=nx - 1) (by clear hn;omega) (by clear hn;omega)]
    unfold Sy
    rw [List.getElem?_eq_getElem hi]
    dsimp only
    cases hib:Q7 l[i].2.2.1 with
    | false=>cases Pp l[i].1 1 (nx - 1) <;> cases P4 (·.1) l i l[i] <;> cases Pp l[i].2.1 0 99 <;> cases Pp l[i].2.2.2.2 1 3 <;> cases ((l[i].2.2.1.length:Int)==0) <;> rfl
    | true =>
     rw [hpo hib]
     cases Pp l[i].1 1 (nx - 1) <;> cases P4 (·.1) l i l[i] <;> cases Pp l[i].2.1 0 99 <;> cases Pp l[i].2.2.2.2 1 3 <;> cases ((l[i].2.2.1.length:Int)==0) <;> cases Ru l[i].2.2.2.1 l[i].2.2.1 <;> rfl) (by simp [Rf]) n (by unfold PY at hn;omega)
   rw [show ((0:Nat):Int)=0 from rfl] at this
   rw [this,Option.bind_some]
   refine ⟨(List.range l.length).all (Sy nx l), ?_,VW hx h30⟩
   cases (List.range l.length).all (Sy nx l) <;> rfl
  ·rw [show decide ((l.length:Int)>30)=true by rw [decide_eq_true_eq];clear hn;omega,cond_true]
   exact ⟨false,rfl,(fun e=>by cases e),fun hb=>(h30 hb.2.1).elim⟩
 ·rw [show Pp nx 1 1000000=false by
   unfold Pp
   rw [Bool.and_eq_false_iff,decide_eq_false_iff_not,decide_eq_false_iff_not]
   by_cases h:1≤nx
   ·exact .inr fun q=>hx ⟨h,q⟩
   ·exact .inl h]
  exact ⟨false,rfl,(fun e=>by cases e),fun hb=>(hx hb.1).elim⟩
def Ok {α:Type} (x:Option α) (P:α→Prop):Prop:=∃ r,x=some r∧P r
section
variable {α β γ:Type} {P:α→Prop} {Q:β→Prop}
theorem Ok.pure {r:α} (h:P r):Ok (some r) P:=⟨r,rfl,h⟩
theorem Ok.bind {x:Option α} {f:α→Option β} (h:Ok x P) (hf:∀ r,P r→Ok (f r) Q):Ok (x.bind f) Q:=by
 obtain ⟨r,rfl,hr⟩:=h
 exact hf r hr
theorem Ok.cond {b:Bool} {x y:Option α} (h1:b=true→Ok x P) (h2:b=false→Ok y P):Ok (bif b then x else y) P:=by
 cases b with
 | true=>exact h1 rfl
 | false=>exact h2 rfl
theorem Ok.guard {b:Bool} {x y:Option α} (hb:b=true) (h:Ok x P):Ok (bif b then x else y) P:=by
 subst hb;exact h
theorem Ok.mono {x:Option α} {P':α→Prop} (h:Ok x P) (hp:∀ r,P r→P' r):Ok x P':=by
 obtain ⟨r,e,hr⟩:=h
 exact ⟨r,e,hp r hr⟩
theorem Ok.of {x:Option α} {r:α} (e:x=some r) (h:P r):Ok x P:=⟨r,e,h⟩
theorem Ok.ND {xs:List α} {i:Int} (h:0≤i∧i<(xs.length:Int)):Ok (Go.Ev.ND xs i) fun r=>xs[i.toNat]? = some r:=by
 obtain ⟨m,rfl⟩:∃ m:Nat,i=m:=⟨i.toNat,by omega⟩
 have hm:m<xs.length:=by omega
 exact ⟨xs[m],PD hm,by simp [hm]⟩
theorem Ok.get {xs:List α} {i:Nat} (h:i<xs.length):Ok xs[i]? fun r=>xs[i]? = some r:=⟨xs[i],List.getElem?_eq_getElem h,List.getElem?_eq_getElem h⟩
theorem VJ {xs:List α} {i:Int} (h:0≤i∧i<(xs.length:Int)):Of xs i=true:=by
 unfold Of;rw [decide_eq_true h.1,decide_eq_true h.2];rfl
theorem Ok.iter {f:α→Option (α⊕γ)} {S:γ→Prop} (R:Nat→α→Prop)
  (h:∀ k x,R k x→Ok (f x) fun y=>(∃ x',y = .inl x'∧∃ k',R k' x'∧k'<k)∨∃ z,y = .inr z∧S z) {n k:Nat} {x:α} (hR:R k x) (hk:k<n):Ok (Go.Ev.iter n f x) S:=by
 obtain ⟨z,hz,e⟩:=Wm R S (fun k x hx=>by
  obtain ⟨y,e,hy⟩:=h k x hx
  rcases hy with ⟨x',rfl,k',h1,h2⟩ | ⟨z,rfl,h1⟩
  ·exact .inr ⟨x',k',e,h1,h2⟩
  ·exact .inl ⟨z,e,h1⟩) n k x hR hk
 exact ⟨z,e,hz⟩
end
def S3 {α:Type} (g:Nat→Option α):Prop:=∀ n m r,n≤m→g n=some r→g m=some r
theorem S3.const {α:Type} (x:Option α):S3 fun _=>x:=fun _ _ _ _ h=>h
theorem S3.bind {α β:Type} {g:Nat→Option α} {f:Nat→α→Option β} (hg:S3 g) (hf:∀ x,S3 fun n=>f n x):S3 fun n=>(g n).bind (f n):=by
 intro n m r hnm h
 cases hx:g n with
 | none=>simp only [hx] at h;cases h
 | some x =>
  simp only [hx,Option.bind_some] at h
  simp only [hg n m x hnm hx,Option.bind_some]
  exact hf x n m r hnm h
theorem S3.cond {α:Type} {b:Bool} {g h:Nat→Option α} (hg:S3 g) (hh:S3 h):S3 fun n=>bif b then g n else h n:=by
 cases b with
 | true=>exact hg
 | false=>exact hh
theorem S3.sum {α β γ:Type} {x:α⊕β} {g:α→Nat→Option γ} {h:β→Nat→Option γ} (hg:∀ a,S3 (g a)) (hh:∀ b,S3 (h b)):S3 fun n=>(match x with | .inl a=>g a n | .inr b=>h b n):=by
 cases x with
 | inl a=>exact hg a
 | inr b=>exact hh b
theorem S3.iter {α γ:Type} {L:Nat→α→Option (α⊕γ)} (hL:∀ x,S3 fun n=>L n x) (x0:α):S3 fun n=>Go.Ev.iter n (L n) x0:=by
 have key:∀ (k n m:Nat) (x:α) (r:γ),n≤m→k≤k+0→Go.Ev.iter k (L n) x=some r→∀ j,k≤j→Go.Ev.iter j (L m) x=some r:=by
  intro k
  induction k with
  | zero=>intro n m x r _ _ h;simp [Go.Ev.iter] at h
  | succ k ih =>
   intro n m x r hnm _ h j hj
   obtain ⟨j,rfl⟩:∃ i,j=i+1:=⟨j - 1,by omega⟩
   simp only [Go.Ev.iter] at h ⊢
   cases hx:L n x with
   | none=>rw [hx] at h;cases h
   | some y =>
    rw [hx] at h
    have h2:L m x=some y:=hL x n m y hnm hx
    rw [h2]
    cases y with
    | inl x'=>exact ih n m x' r hnm (by omega) h j (by omega)
    | inr z=>exact h
 intro n m r hnm h
 exact key n n m x0 r hnm (by omega) h m hnm
def Cu (b:List Int) (i:Int):Prop:=b.length≤1048576∧0≤i
theorem Se {b:List Int} {i c:Int} (h:Cu b i) (m:Int):Ok (PQ b i c m) fun x=>Cu x.2.1 x.2.2.1∧0≤x.1∧(0<m→x.1<m):=by
 obtain ⟨x,i',h',e,h1,h2,h3⟩:=QL b i c h.2 h.1 m
 exact ⟨_,e,⟨h.1,h1⟩,h2,fun hm=>by rcases h3 with h3 | h3 <;> omega⟩
theorem ok_int {b:List Int} {i c:Int} (h:Cu b i) {xs:List Int} (hx:0<xs.length):Ok (Ph b i c xs) fun x=>Cu x.2.1 x.2.2.1∧x.1∈xs:=by
 unfold Ph
 refine (Se h _).bind fun r hr=>(Ok.ND ⟨hr.2.1,hr.2.2 (by omega)⟩).bind fun v hv=>Ok.pure ⟨hr.1,List.mem_of_getElem? hv⟩
end Go.Ev.N
