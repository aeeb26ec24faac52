/- FnBegun,as a plain law bE native forms: what the program's function answers is what the reference's answers. Conditions: none but the lengths' and numbers' bounds. -/
import Derived.Test.YtglbgceejloiaaaFnBegunNat
namespace Go.Ev.N
open Go Go.Ev
set_option linter.unusedVariables false
set_option linter.unusedSimpArgs false
theorem PN {n:Int} (h1 : -9223372036854775808≤n) (h2:n≤9223372036854775807):PL n=n:=by
 unfold PL IntKind.wrap
 simp only [IntKind.bits,IntKind.signed]
 simp
 split <;> omega
theorem eT {i:Int} {m:Nat} (h0:0≤i) (h:i<(m:Int)) (hm:m≤9223372036854775807):PL (i+1)=i+1:=PN (by omega) (by omega)
theorem PI {i m:Nat} (h:i<m) (hm:m≤9223372036854775807):PL ((i:Int)+1)=((i+1:Nat):Int):=by rw [PN (by omega) (by omega)];omega
theorem TQ {α:Type} (xs:List α) (i:Nat):ND xs (i:Int)=xs[i]? := by
 unfold ND
 rw [if_pos (by omega)]
 simp
theorem PE {α:Type} {xs:List α} {i:Nat} (h:i<xs.length):ND xs (i:Int)=some xs[i]:=by rw [TQ];exact List.getElem?_eq_getElem h
theorem V4 {α:Type} (xs:List α) (i:Nat):Of xs (i:Int)=decide (i<xs.length):=by
 unfold Of
 have:decide (0≤(i:Int))=true:=by simp
 rw [this,Bool.true_and]
 simp
theorem Sj {α:Type} {xs:List α} {i:Nat} (h:i<xs.length):Of xs (i:Int)=true:=by rw [V4];simpa using h
theorem UY {α:Type} (l:List α) (n:Nat) (y:α):CV l n y=l.set n y:=Bk l n y
def fI (x:Int):Prop:=IntKind.min .i64≤x∧x≤IntKind.max .i64
def fB (_:Bool):Prop:=True
def fq (x:List UInt8):Prop:=List.length x≤maxLen
def Ug {α:Type} (p:α→Prop) (x:List α):Prop:=List.length x≤maxLen∧∀ y,List.Mem y x→p y
def fP {α β:Type} (p:α→Prop) (q:β→Prop) (x:α×β):Prop:=p x.1∧q x.2
theorem fp {x:Int} (h:fI x) : -9223372036854775808≤x∧x≤9223372036854775807:=by
 unfold fI IntKind.min IntKind.max at h
 simpa [IntKind.bits,IntKind.signed] using h
theorem bg {α:Type} {p:α→Prop} {x:List α} (h:Ug p x):x.length≤9223372036854775807:=h.1
theorem bh {α:Type} {p:α→Prop} {x:List α} (h:Ug p x) {y:α} (hy:y∈x):p y:=h.2 y hy
section
variable {α γ σ β:Type}
theorem Rh {f:α→Option (α⊕γ)} {x y:α} (h:f x=some (.inl y)) (n:Nat):iter (n+1) f x=iter n f y:=by simp [iter,h]
theorem Pf {f:α→Option (α⊕γ)} {x:α} {z:γ} (h:f x=some (.inr z)) (n:Nat):iter (n+1) f x=some z:=by simp [iter,h]
theorem Q3 (f:α→Option (α⊕γ)) (st:Nat→α) (m:Nat) (r:γ) (hs:∀ i,i<m→f (st i)=some (.inl (st (i+1)))) (he:f (st m)=some (.inr r)):∀ n,m<n→iter n f (st 0)=some r:=by
 have key:∀ d i n,i+d=m→d<n→iter n f (st i)=some r:=by
  intro d
  induction d with
  | zero =>
   intro i n hi hn
   obtain ⟨n,rfl⟩:∃ k,n=k+1:=⟨n - 1,by omega⟩
   have:i=m:=by omega
   subst this
   exact Pf he n
  | succ d ih =>
   intro i n hi hn
   obtain ⟨n,rfl⟩:∃ k,n=k+1:=⟨n - 1,by omega⟩
   rw [Rh (hs i (by omega)) n]
   exact ih (i+1) n (by omega) (by omega)
 exact fun n hn=>key m 0 n (by omega) hn
theorem Qu (f:α→Option (α⊕γ)) (st:Nat→σ→α) (xs:List β) (G:List β→σ→γ) (Inv:Nat→σ→Prop)
  (hend:∀ s,Inv xs.length s→f (st xs.length s)=some (.inr (G [] s)))
  (hstep:∀ i x l s,i<xs.length→xs[i]? = some x→xs.drop i=x::l→xs.drop (i+1)=l→Inv i s→(∃ s',f (st i s)=some (.inl (st (i+1) s'))∧Inv (i+1) s'∧G (x::l) s=G l s')∨f (st i s)=some (.inr (G (x::l) s))) :
  ∀ n,xs.length<n→∀ s,Inv 0 s→iter n f (st 0 s)=some (G xs s):=by
 have key:∀ d i n s,i+d=xs.length→d<n→Inv i s→iter n f (st i s)=some (G (xs.drop i) s):=by
  intro d
  induction d with
  | zero =>
   intro i n s hi hn hI
   obtain ⟨n,rfl⟩:∃ k,n=k+1:=⟨n - 1,by omega⟩
   have:i=xs.length:=by omega
   subst this
   rw [Pf (hend s hI) n,List.drop_length]
  | succ d ih =>
   intro i n s hi hn hI
   obtain ⟨n,rfl⟩:∃ k,n=k+1:=⟨n - 1,by omega⟩
   have hlt:i<xs.length:=by omega
   have hd:xs.drop i=xs[i]::xs.drop (i+1):=List.drop_eq_getElem_cons hlt
   rcases hstep i xs[i] (xs.drop (i+1)) s hlt (List.getElem?_eq_getElem hlt) hd rfl hI with ⟨s',h1,h2,h3⟩ | h1
   ·rw [Rh h1 n,ih (i+1) n s' (by omega) (by omega) h2,hd,h3]
   ·rw [Pf h1 n,hd]
 intro n hn s hI
 have:=key xs.length 0 n s (by omega) hn hI
 simpa using this
theorem Uh (f:Int→Option (Int⊕γ)) (xs:List β) (G:List β→List β→γ) (hend:f (xs.length:Int)=some (.inr (G xs [])))
  (hstep:∀ i x l p,i<xs.length→xs[i]? = some x→xs=p++x::l→p.length=i→p=xs.take i→(f (i:Int)=some (.inl ((i+1:Nat):Int))∧G p (x::l)=G (p++[x]) l)∨f (i:Int)=some (.inr (G p (x::l)))) :
  ∀ n,xs.length<n→iter n f 0=some (G [] xs):=by
 intro n hn
 refine Qu (σ:=List β) f (fun i _=>(i:Int)) xs (fun l p=>G p l) (fun i p=>p=xs.take i) (fun s hs => ?_) (fun i x l s h1 h2 h3 h4 h5 => ?_) n hn [] (by simp)
 ·have:s=xs:=by rw [hs];simp
  rw [this];exact hend
 ·have hlen:s.length=i:=by rw [h5];simp;omega
  have hx:xs=s++x::l:=by rw [← h3,h5,List.take_append_drop]
  rcases hstep i x l s h1 h2 hx hlen h5 with ⟨q1,q2⟩ | q1
  ·refine .inl ⟨s++[x],q1, ?_,q2⟩
   have hxi:x=xs[i]:=by rw [List.getElem?_eq_getElem h1] at h2;exact (Option.some.inj h2).symm
   rw [h5,List.take_succ_eq_append_getElem h1,hxi]
  ·exact .inr q1
end
theorem Ql {β:Type} (f:Int→Option (Int⊕(Int⊕Bool))) (xs:List β) (P:β→Bool) (hs:∀ (i:Nat) (x:β),i<xs.length→xs[i]? = some x→f (i:Int)=some (bif P x then .inl ((i+1:Nat):Int) else .inr (.inr false)))
  (he:f (xs.length:Int)=some (.inr (.inl (xs.length:Int)))):∀ n,xs.length<n→iter n f 0=some (bif xs.all P then .inl (xs.length:Int) else .inr false):=by
 intro n hn
 refine Uh f xs (fun p l=>bif l.all P then .inl (xs.length:Int) else .inr false) ?_ ?_ n hn
 ·rw [he];simp
 ·intro i x l p h1 h2 h3 h4 h5
  rw [hs i x h1 h2]
  cases hp:P x with
  | true=>exact .inl ⟨by simp,by simp [hp]⟩
  | false=>exact .inr (by simp [hp])
theorem gK (b c:Bool):(bif b then some true else some c)=some (b||c):=by cases b <;> rfl
theorem fZ (b c:Bool):(bif b then some c else some false)=some (b&&c):=by cases b <;> rfl
theorem fe (b c:Bool):(bif b then some false else some c)=some (!b&&c):=by cases b <;> rfl
theorem gL (b c:Bool):(bif b then some c else some true)=some (!b||c):=by cases b <;> rfl
theorem YQ {α:Type} (b:Bool) (x y:α):(bif b then some x else some y)=some (bif b then x else y):=by cases b <;> rfl
theorem bf {β:Type} (L:Int×List β→Option ((Int×List β)⊕(Int×List β))) (xs:List β) (z:β)
  (hL:∀ (i:Nat) (h:i<xs.length) (out:List β),out.length=xs.length→L ((i:Int),out)=some (.inl (((i+1:Nat):Int),out.set i xs[i]))) (hend:∀ out,L ((xs.length:Int),out)=some (.inr ((xs.length:Int),out))) :
  ∀ n,xs.length<n→iter n L (0,List.replicate xs.length z)=some ((xs.length:Int),xs):=by
 intro n hn
 have:=Qu (σ:=List β) L (fun i s=>((i:Int),s)) xs (fun l s=>((xs.length:Int),s.take (xs.length - l.length)++l)) (fun i s=>s.length=xs.length∧s.take i=xs.take i)
  (fun s hs=>by
   rw [hend s,show s.take (xs.length - ([]:List β).length)++[]=s by simp [← hs.1]])
  (fun i x l s h1 h2 h3 h4 h5=>by
   left
   have hx:xs[i]=x:=by rw [List.getElem?_eq_getElem h1] at h2;exact Option.some.inj h2
   refine ⟨s.set i xs[i],hL i h1 s h5.1,⟨by simp [h5.1], ?_⟩, ?_⟩
   ·rw [List.take_succ_eq_append_getElem h1,List.take_succ_eq_append_getElem (by simp [h5.1];exact h1)]
    congr 1
    ·rw [List.take_set_of_le (Nat.le_refl i),h5.2]
    ·simp
   ·have hl:l.length=xs.length - (i+1):=by rw [← h4];simp
    congr 1
    rw [List.length_cons,hl,show xs.length - (xs.length - (i+1)+1)=i by omega,show xs.length - (xs.length - (i+1))=i+1 by omega]
    rw [List.take_succ_eq_append_getElem (by simp [h5.1];exact h1),List.take_set_of_le (Nat.le_refl i)]
    simp [hx])
  n hn (List.replicate xs.length z) ⟨by simp,by simp⟩
 simpa using this
def Pa:Nat:=18446744073709551616
theorem YS:maxLen=9223372036854775807:=rfl
def Vf (a:List (Int×Int)):Prop:=a.length≤1048576
def Vh (a:List (Int×Int×Int)):Prop:=a.length≤1048576
def Vg (a:Int×Int×(List (Int×Int))×(List (Int×Int×Int))×Int):Prop:=Vf a.2.2.1∧Vh a.2.2.2.1
def Uq (a:List (Int×Int×(List (Int×Int))×(List (Int×Int×Int))×Int)):Prop:=a.length≤1048576∧∀ y∈a,Vg y
def V8 (a:Int×(List (Int×Int×(List (Int×Int))×(List (Int×Int×Int))×Int))):Prop:=Uq a.2
def UE (a:List Int):Prop:=a.length≤1048576
def Ve (a:Int×Int×(List Int)):Prop:=UE a.2.2
def Us (a:List (Int×Int×Int)):Prop:=a.length≤1048576
def YN (a:Int×Int×(List (Int×Int×Int))):Prop:=Us a.2.2
def PY (a:List (Int×Int×(List (Int×Int×Int)))):Prop:=a.length≤1048576∧∀ y∈a,YN y
def Vi (a:(List (Int×Int×(List (Int×Int×Int))))):Prop:=PY a
def Ur (a:List (Int×Int×Int×Bool×Int)):Prop:=a.length≤1048576
def Vj (a:List (Int×Int×Int×Int)):Prop:=a.length≤1048576
def Se (a:Int×Int×(List Int)×(List (Int×Int×(List (Int×Int×Int))))×Int×(List (Int×Int×(List (Int×Int))×(List (Int×Int×Int))×Int))×(List (Int×Int×Int×Bool×Int))×(List (Int×Int×Int×Int))×(List Int)×(List Int)×Int):Prop:=Ve (a.1,a.2.1,a.2.2.1)∧Vi a.2.2.2.1∧V8 (a.2.2.2.2.1,a.2.2.2.2.2.1)∧Ur a.2.2.2.2.2.2.1∧Vj a.2.2.2.2.2.2.2.1∧UE a.2.2.2.2.2.2.2.2.1∧UE a.2.2.2.2.2.2.2.2.2.1
theorem Sl {m:Nat} (h:m≤1048576):decide (m+1≤DZ)=true:=by
 have hm:DZ=68719476736:=rfl
 rw [hm];simp;omega
theorem V7 {m:Nat} (h:m≤1048576):decide (m≤DZ)=true:=by
 have hm:DZ=68719476736:=rfl
 rw [hm];simp;omega
theorem Te {α γ:Type} (f g:α→Option (α⊕γ)) (I:Nat→α→Prop) (Q:γ→Prop) (m:Nat)
  (h:∀ i x,i≤m→I i x→g x=f x∧((∃ y,f x=some (.inl y)∧I (i+1) y∧i<m)∨∃ r,f x=some (.inr r)∧Q r)) :
  ∀ n,m<n→∀ x,I 0 x→iter n g x=iter n f x∧∃ r,iter n f x=some r∧Q r:=by
 have key:∀ d i n x,i+d=m→d<n→I i x→iter n g x=iter n f x∧∃ r,iter n f x=some r∧Q r:=by
  intro d
  induction d with
  | zero =>
   intro i n x hi hn hI
   obtain ⟨n,rfl⟩:∃ k,n=k+1:=⟨n - 1,by omega⟩
   obtain ⟨e,h1 | ⟨r,h1,h2⟩⟩:=h i x (by omega) hI
   ·obtain ⟨y,_,_,hlt⟩:=h1;omega
   ·exact ⟨by rw [Pf h1 n,Pf (e.trans h1) n],r,Pf h1 n,h2⟩
  | succ d ih =>
   intro i n x hi hn hI
   obtain ⟨n,rfl⟩:∃ k,n=k+1:=⟨n - 1,by omega⟩
   obtain ⟨e,⟨y,h1,h2,_⟩ | ⟨r,h1,h2⟩⟩:=h i x (by omega) hI
   ·obtain ⟨j1,j2⟩:=ih (i+1) n y (by omega) (by omega) h2
    rw [Rh h1 n,Rh (e.trans h1) n]
    exact ⟨j1,j2⟩
   ·exact ⟨by rw [Pf h1 n,Pf (e.trans h1) n],r,Pf h1 n,h2⟩
 exact fun n hn x hx=>key m 0 n x (by omega) hn hx
abbrev Dp:=Int×Int×(List Int)×(List (Int×Int×(List PH)))×Int×(List O9)×(List (Int×Int×Int×Bool×Int))×(List (Int×Int×Int×Int))×(List Int)×(List Int)×Int
def gJ:Dp→Prop:=fP fI (fP fI (fP (Ug fI) (fP (Ug (fP fI (fP fI (Ug (fP fI (fP fI fI)))))) (fP fI (fP (Ug (fP fI (fP fI (fP (Ug (fP fI fI)) (fP (Ug (fP fI (fP fI fI))) fI))))) (fP (Ug (fP fI (fP fI (fP fI (fP fB fI))))) (fP (Ug (fP fI (fP fI (fP fI fI)))) (fP (Ug fI) (fP (Ug fI) fI)))))))))
def UF (t:List (Int×Int×Int×Int)) (o:O9):Bool := !((t.any fun x=>x.1==o.1) != (o.2.2.2.2==1))
theorem T6 (t:List (Int×Int×Int×Int)) (h:t.length≤1048576) (o:O9) (n:Nat) (hn:Pa≤n):iter n (Qo t o) (false,0)=some (t.any fun x=>x.1==o.1,(t.length:Int)):=by
 have hc:=Qu (σ:=Bool) (Qo t o) (fun i s=>(s,(i:Int))) t (fun l s=>(s||l.any fun x=>x.1==o.1,(t.length:Int))) (fun _ _=>True)
  (fun s hs=>by simp [Qo])
  (fun i x l s h1 h2 h3 h4 h5=>by
   left
   have hx:t[i]=x:=by rw [List.getElem?_eq_getElem h1] at h2;exact Option.some.inj h2
   refine ⟨s||x.1==o.1, ?_,trivial,by simp [Bool.or_assoc]⟩
   simp only [Qo,PE h1,hx,Option.bind_some,PI h1 (by omega)]
   rw [show decide ((i:Int)<(t.length:Int))=true by simpa using h1]
   cases s <;> rfl)
  n (by unfold Pa at hn;omega) false trivial
 rw [show ((0:Nat):Int)=0 from rfl] at hc
 rw [hc];simp
theorem T7 (a:Dp) (h:Se a) (n:Nat) (hn:Pa≤n):Rn n a.1 a.2.1 a.2.2.1 a.2.2.2.1 a.2.2.2.2.1 a.2.2.2.2.2.1 a.2.2.2.2.2.2.1 a.2.2.2.2.2.2.2.1 a.2.2.2.2.2.2.2.2.1 a.2.2.2.2.2.2.2.2.2.1 a.2.2.2.2.2.2.2.2.2.2=some (a.2.2.2.2.2.1.all (UF a.2.2.2.2.2.2.2.1)):=by
 have hl:a.2.2.2.2.2.1.length≤1048576:=h.2.2.1.1
 have ht:a.2.2.2.2.2.2.2.1.length≤1048576:=h.2.2.2.2.1
 have:=Ql (RN n a.2.2.2.2.2.1 a.2.2.2.2.2.2.2.1) a.2.2.2.2.2.1 (UF a.2.2.2.2.2.2.2.1) (fun i x h1 h2=>by
  have hx:a.2.2.2.2.2.1[i]=x:=by rw [List.getElem?_eq_getElem h1] at h2;exact Option.some.inj h2
  simp only [RN,PE h1,hx,Option.bind_some,PI h1 (by omega),T6 _ ht x n hn,UF]
  rw [show decide ((i:Int)<(a.2.2.2.2.2.1.length:Int))=true by simpa using h1]
  cases ((a.2.2.2.2.2.2.2.1.any fun y=>y.1==x.1) != (x.2.2.2.2==1)) <;> rfl) (by simp [RN]) n (by unfold Pa at hn;omega)
 unfold Rn
 rw [this]
 cases a.2.2.2.2.2.1.all (UF a.2.2.2.2.2.2.2.1) <;> rfl
theorem Td:PJ=Pb:=rfl
theorem V5 (a b c:Int):Pb a b c=some (decide (b≤a)&&decide (a≤c)):=by
 unfold Pb
 by_cases h:a≥b <;> simp [h]
theorem P6 {α:Type} (f:α→Option (α⊕(α⊕Bool))) (st:Nat→α) (m:Nat) (P:Nat→Bool) (hs:∀ i,i<m→f (st i)=some (bif P i then .inl (st (i+1)) else .inr (.inr false))) (he:f (st m)=some (.inr (.inl (st m)))) :
  ∀ n,m<n→iter n f (st 0)=some (bif (List.range m).all P then .inl (st m) else .inr false):=by
 have key:∀ d i n,i+d=m→d<n→iter n f (st i)=some (bif (List.range' i d).all P then .inl (st m) else .inr false):=by
  intro d
  induction d with
  | zero =>
   intro i n hi hn
   obtain ⟨n,rfl⟩:∃ k,n=k+1:=⟨n - 1,by omega⟩
   have:i=m:=by omega
   subst this
   rw [Pf he n];rfl
  | succ d ih =>
   intro i n hi hn
   obtain ⟨n,rfl⟩:∃ k,n=k+1:=⟨n - 1,by omega⟩
   have hf:=hs i (by omega)
   rw [List.range'_succ,List.all_cons]
   cases hp:P i with
   | true=>rw [hp,cond_true] at hf;rw [Rh hf n,ih (i+1) n (by omega) (by omega)];rfl
   | false=>rw [hp,cond_false] at hf;rw [Pf hf n];rfl
 intro n hn
 rw [List.range_eq_range']
 exact key m 0 n (by omega) hn
theorem UZ (f:Int→Option (Int⊕Int)) (m:Nat) (P:Nat→Bool) (hs:∀ i,i<m→f (i:Int)=some (bif P i then .inl ((i+1:Nat):Int) else .inr (i:Int))) (he:f (m:Int)=some (.inr (m:Int))) :
  ∀ n,m<n→∃ j,j≤m∧iter n f 0=some (j:Int)∧(∀ i,i<j→P i=true)∧(j<m→P j=false):=by
 have key:∀ d i n,i+d=m→d<n→∃ j,i≤j∧j≤m∧iter n f (i:Int)=some (j:Int)∧(∀ q,i≤q→q<j→P q=true)∧(j<m→P j=false):=by
  intro d
  induction d with
  | zero =>
   intro i n hi hn
   obtain ⟨n,rfl⟩:∃ k,n=k+1:=⟨n - 1,by omega⟩
   have:i=m:=by omega
   subst this
   exact ⟨i,Nat.le_refl _,Nat.le_refl _,Pf he n,fun q h1 h2=>by omega,fun h=>by omega⟩
  | succ d ih =>
   intro i n hi hn
   obtain ⟨n,rfl⟩:∃ k,n=k+1:=⟨n - 1,by omega⟩
   have hf:=hs i (by omega)
   cases hp:P i with
   | true =>
    rw [hp,cond_true] at hf
    obtain ⟨j,h1,h2,h3,h4,h5⟩:=ih (i+1) n (by omega) (by omega)
    refine ⟨j,by omega,h2,by rw [Rh hf n];exact h3,fun q q1 q2 => ?_,h5⟩
    by_cases e:q=i
    ·subst e;exact hp
    ·exact h4 q (by omega) q2
   | false=>rw [hp,cond_false] at hf;exact ⟨i,Nat.le_refl _,by omega,Pf hf n,fun q h1 h2=>by omega,fun _=>hp⟩
 intro n hn
 obtain ⟨j,_,h2,h3,h4,h5⟩:=key m 0 n (by omega) hn
 exact ⟨j,h2,h3,fun i hi=>h4 i (by omega) hi,h5⟩
theorem Tj {β:Type} {a:List β} {i j:Nat} {y:β} (h:j<(a.take i).length) (hy:(a.take i)[j]? = some y):j<i∧∃ h:j<a.length,a[j]=y:=by
 rw [List.length_take] at h
 rw [List.getElem?_take,if_pos (by omega),List.getElem?_eq_getElem (by omega)] at hy
 exact ⟨by omega,by omega,Option.some.inj hy⟩
def QQ {β:Type} (key:β→Int) (a:List β) (i:Nat) (x:β):Bool:=match i with
 | 0=>true
 | j+1=>match a[j]? with
  | some y => !decide (key y≥key x)
  | none=>true
theorem Th {β γ:Type} (key:β→Int) (a:List β) (x:β) (i:Nat) (hi:i<a.length) (hl:a.length≤1048576) (F:Bool→Option γ) :
  (bif decide ((i:Int)>0) then (ND a (PL ((i:Int) - 1))).bind (fun y=>F (decide (key y≥key x))) else F false)=F (!QQ key a i x):=by
 cases i with
 | zero=>rfl
 | succ j =>
  have hw:PL (((j+1:Nat):Int) - 1)=(j:Int):=by rw [PN (by omega) (by omega)];omega
  rw [show decide (((j+1:Nat):Int)>0)=true by rw [decide_eq_true_eq];omega,cond_true,hw,PE (by omega),Option.bind_some]
  simp only [QQ,List.getElem?_eq_getElem (show j<a.length by omega),Bool.not_not]
def Qk (a b c:Int):Bool:=decide (b≤a)&&decide (a≤c)
theorem R4 (a b c:Int):Pb a b c=some (Qk a b c):=V5 a b c
def PV (w h:Int) (c:List Int):Bool:=Qk w 1 10&&Qk h 1 10&&((c.length:Int)==PL (w * h))&&c.all fun k=>Qk k 0 4
theorem Pc (w h:Int) (c:List Int) (hl:c.length≤1048576) (n:Nat) (hn:Pa≤n):Pn n w h c=some (PV w h c):=by
 have:=Ql (Qb c) c (fun k=>Qk k 0 4) (fun i x h1 h2=>by
  have hx:c[i]=x:=by rw [List.getElem?_eq_getElem h1] at h2;exact Option.some.inj h2
  simp only [Qb,PE h1,hx,Option.bind_some,PI h1 (by omega),R4]
  rw [show decide ((i:Int)<(c.length:Int))=true by simpa using h1]
  cases Qk x 0 4 <;> rfl) (by simp [Qb]) n (by unfold Pa at hn;omega)
 unfold Pn PV
 rw [this]
 simp only [R4,Option.bind_some,bne]
 cases Qk w 1 10 <;> cases Qk h 1 10 <;> cases ((c.length:Int)==PL (w * h)) <;> cases (c.all fun k=>Qk k 0 4) <;> rfl
theorem Rl:Pk=Pn:=rfl
def RM (c:List Int) (i:Int):Bool:=Qk i 0 ((c.length:Int) - 1)&&(c.getD i.toNat 0 != 0)
theorem UR {c:List Int} {i:Int} (h:Qk i 0 ((c.length:Int) - 1)=true):∃ m:Nat,i=(m:Int)∧m<c.length:=by
 unfold Qk at h
 simp only [Bool.and_eq_true,decide_eq_true_eq] at h
 exact ⟨i.toNat,by omega,by omega⟩
theorem SC (w h:Int) (c:List Int) (hl:c.length≤1048576) (hf:PV w h c=true) (i:Int) (n:Nat) (hn:Pa≤n):∃ k,Pl n w h c i=some k∧(k != 0)=RM c i:=by
 unfold Pl RE RM
 rw [Rl,Pc w h c hl n hn,hf,show PL ((c.length:Int) - 1)=(c.length:Int) - 1 from PN (by omega) (by omega)]
 simp only [Td,R4,Option.bind_some]
 cases hb:Qk i 0 ((c.length:Int) - 1) with
 | false=>exact ⟨0,rfl,rfl⟩
 | true =>
  obtain ⟨m,rfl,hm⟩:=UR hb
  exact ⟨c[m],by simp [PE hm],by simp [hm]⟩
theorem Si (w h:Int) (c:List Int) (hl:c.length≤1048576) (hf:PV w h c=true) (x:PC) (n:Nat) (hn:Pa≤n):P8 n w h c x.1 x.2.1 x.2.2.1 x.2.2.2.1 x.2.2.2.2=some (RM c x.2.1&&(x.2.2.1 == -1||RM c x.2.2.1)):=by
 unfold P8
 obtain ⟨k1,e1,q1⟩:=SC w h c hl hf x.2.1 n hn
 obtain ⟨k2,e2,q2⟩:=SC w h c hl hf x.2.2.1 n hn
 simp only [e1,e2,Option.bind_some,q1,q2]
 cases RM c x.2.1 <;> cases (x.2.2.1 == -1) <;> cases RM c x.2.2.1 <;> rfl
def YT (c:List Int) (crew:List (Int×Int×Int×Bool×Int)) (i:Nat):Bool:=match crew[i]? with
 | none=>false
 | some x=>Qk x.1 1 99&&RM c x.2.1&&(x.2.2.1 == -1||RM c x.2.2.1)&&Qk x.2.2.2.2 0 1000000&&QQ (·.1) crew i x&&(crew.take i).all fun y => !(y.2.1==x.2.1)
def SA (w h:Int) (c:List Int) (crew:List (Int×Int×Int×Bool×Int)):Bool:=PV w h c&&decide (crew.length≤20)&&(List.range crew.length).all (YT c crew)
theorem TU (crew:List (Int×Int×Int×Bool×Int)) (hl:crew.length≤1048576) (i:Nat) (hi:i<crew.length) (x:Int×Int×Int×Bool×Int) (n:Nat) (hn:Pa≤n) :
  iter n (QD crew (i:Int) x) 0=some (bif (crew.take i).all fun y => !(y.2.1==x.2.1) then .inl (i:Int) else .inr false):=by
 have hsub:sub crew (Int.toNat (0:Int)) (Int.toNat (i:Int))=crew.take i:=by simp [sub]
 have hlen:(crew.take i).length=i:=by simp;omega
 have:=Ql (QD crew (i:Int) x) (crew.take i) (fun y => !(y.2.1==x.2.1)) (fun j y h1 h2=>by
  obtain ⟨hj,hj2,hy⟩:=Tj h1 h2
  simp only [QD,hsub,TQ,h2,Option.bind_some,PI hj2 (by omega),hlen]
  rw [show decide ((j:Int)<(i:Int))=true by rw [decide_eq_true_eq];omega]
  cases (y.2.1==x.2.1) <;> rfl) (by simp only [QD,hsub,hlen];simp) n (by unfold Pa at hn;omega)
 rw [hlen] at this
 exact this
theorem SB (w h:Int) (c:List Int) (hc:c.length≤1048576) (crew:List (Int×Int×Int×Bool×Int)) (hl:crew.length≤1048576) (n:Nat) (hn:Pa≤n):Qg n w h c crew=some (SA w h c crew):=by
 unfold Qg SA
 rw [Rl,Pc w h c hc n hn]
 rw [show decide ((crew.length:Int)>20) = !decide (crew.length≤20) by by_cases q:crew.length≤20 <;> simp [q] <;> omega]
 cases hf:PV w h c with
 | false=>rfl
 | true =>
  have:=P6 (Qn n w h c crew) (fun i=>(i:Int)) crew.length (YT c crew) (fun i hi=>by
   have hp:∀ C:Option Bool,(bif decide ((i:Int)>0) then (ND crew (PL ((i:Int) - 1))).bind (fun y=>bif decide (y.1≥crew[i].1) then some true else C) else C)=bif !QQ (·.1) crew i crew[i] then some true else C:=fun C=>Th (·.1) crew crew[i] i hi hl fun b=>bif b then some true else C
   have hr:(decide (0≤(0:Int))&&decide ((0:Int)≤(i:Int))&&decide ((i:Int)≤(crew.length:Int)))=true:=by simp;omega
   simp only [Qn,YT,PE hi,List.getElem?_eq_getElem hi,Option.bind_some,Td,R4,Si w h c hc hf _ n hn,PI hi (by omega),hp,TU crew hl i hi crew[i] n hn,hr]
   rw [show decide ((i:Int)<(crew.length:Int))=true by simpa using hi]
   generalize crew[i]=x
   generalize ((crew.take i).all fun y => !(y.2.1==x.2.1))=b6
   generalize QQ (·.1) crew i x=b5
   generalize Qk x.2.2.2.2 0 1000000=b4
   generalize (x.2.2.1 == -1)=b3
   generalize RM c x.2.2.1=b7
   generalize RM c x.2.1=b2
   generalize Qk x.1 1 99=b1
   cases b1 <;> cases b2 <;> cases b3 <;> cases b4 <;> cases b5 <;> cases b6 <;> cases b7 <;> rfl) (by simp [Qn]) n (by unfold Pa at hn;omega)
  rw [show ((0:Nat):Int)=0 from rfl] at this
  rw [this]
  cases decide (crew.length≤20) <;> cases (List.range crew.length).all (YT c crew) <;> rfl
def Rc (t:List (Int×Int×Int×Int)) (x:Int×Int×Int×Bool×Int):Bool:=t.any fun y=>y.2.2.1==x.1&&Qk y.2.2.2 3 4
def Sd (a:Dp):Bool:=SA a.1 a.2.1 a.2.2.1 a.2.2.2.2.2.2.1&&a.2.2.2.2.2.2.1.all fun x => !(x.2.2.2.1 && !Rc a.2.2.2.2.2.2.2.1 x)
theorem TW (t:List (Int×Int×Int×Int)) (h:t.length≤1048576) (r:Int×Int×Int×Bool×Int) (n:Nat) (hn:Pa≤n):iter n (QE t r) (false,0)=some (Rc t r,(t.length:Int)):=by
 have hc:=Qu (σ:=Bool) (QE t r) (fun i s=>(s,(i:Int))) t (fun l s=>(s||Rc l r,(t.length:Int))) (fun _ _=>True)
  (fun s hs=>by simp [QE,Rc])
  (fun j x l s h1 h2 h3 h4 h5=>by
   left
   have hx:t[j]=x:=by rw [List.getElem?_eq_getElem h1] at h2;exact Option.some.inj h2
   refine ⟨s||(x.2.2.1==r.1&&Qk x.2.2.2 3 4), ?_,trivial,by simp [Rc,Bool.or_assoc]⟩
   have hin:Qk x.2.2.2 3 4=(x.2.2.2==3||x.2.2.2==4):=by unfold Qk;rw [Bool.eq_iff_iff];simp;omega
   simp only [QE,PE h1,hx,Option.bind_some,PI h1 (by omega),hin]
   rw [show decide ((j:Int)<(t.length:Int))=true by simpa using h1]
   cases s <;> cases (x.2.2.1==r.1) <;> cases (x.2.2.2==3) <;> cases (x.2.2.2==4) <;> rfl)
  n (by unfold Pa at hn;omega) false trivial
 rw [show ((0:Nat):Int)=0 from rfl] at hc
 rw [hc];simp
theorem TX (a:Dp) (h:Se a) (n:Nat) (hn:Pa≤n):RC n a.1 a.2.1 a.2.2.1 a.2.2.2.1 a.2.2.2.2.1 a.2.2.2.2.2.1 a.2.2.2.2.2.2.1 a.2.2.2.2.2.2.2.1 a.2.2.2.2.2.2.2.2.1 a.2.2.2.2.2.2.2.2.2.1 a.2.2.2.2.2.2.2.2.2.2=some (Sd a):=by
 have hf:a.2.2.1.length≤1048576:=h.1
 have hl:a.2.2.2.2.2.2.1.length≤1048576:=h.2.2.2.1
 have ht:a.2.2.2.2.2.2.2.1.length≤1048576:=h.2.2.2.2.1
 have:=Ql (Qq n a.2.2.2.2.2.2.1 a.2.2.2.2.2.2.2.1) a.2.2.2.2.2.2.1 (fun x => !(x.2.2.2.1 && !Rc a.2.2.2.2.2.2.2.1 x)) (fun i x h1 h2=>by
  have hx:a.2.2.2.2.2.2.1[i]=x:=by rw [List.getElem?_eq_getElem h1] at h2;exact Option.some.inj h2
  simp only [Qq,PE h1,hx,Option.bind_some,PI h1 (by omega),TW _ ht x n hn]
  rw [show decide ((i:Int)<(a.2.2.2.2.2.2.1.length:Int))=true by simpa using h1]
  cases x.2.2.2.1 <;> cases Rc a.2.2.2.2.2.2.2.1 x <;> rfl) (by simp [Qq]) n (by unfold Pa at hn;omega)
 unfold RC Sd
 rw [SB _ _ _ hf _ hl n hn,this]
 cases SA a.1 a.2.1 a.2.2.1 a.2.2.2.2.2.2.1 <;> cases (a.2.2.2.2.2.2.1.all fun x => !(x.2.2.2.1 && !Rc a.2.2.2.2.2.2.2.1 x)) <;> rfl
def Q1 (l:List PH) (i:Nat):Bool:=match l[i]? with
 | none=>false
 | some x=>Qk x.1 1 50&&Qk x.2.1 1 1000&&Qk x.2.2 0 x.2.1&&QQ (·.1) l i x
def PZ (l:List PH):Bool:=(List.range l.length).all (Q1 l)&&decide (l.length≤8)
abbrev Qj:=Int×Int×List PH
def SO (a:List Qj) (i:Nat):Bool:=match a[i]? with
 | none=>false
 | some x=>Qk x.1 1 999&&Qk x.2.1 0 99&&PZ x.2.2&&QQ (·.1) a i x&&(a.take i).all fun y => !(y.2.1==x.2.1)
def Ph (a:List Qj):Bool:=decide (a.length≤12)&&(List.range a.length).all (SO a)
theorem Sp (l:List PH) (hl:l.length≤1048576) (n:Nat) (hn:Pa≤n):QU n l=some (PZ l):=by
 have:=P6 (QP l) (fun i=>(i:Int)) l.length (Q1 l) (fun i hi=>by
  have hp:(bif decide ((i:Int)>0) then (ND l (PL ((i:Int) - 1))).bind (fun y=>some (decide (y.1≥l[i].1))) else some false)=some (!QQ (·.1) l i l[i]):=Th (·.1) l l[i] i hi hl some
  simp only [QP,Q1,PE hi,List.getElem?_eq_getElem hi,Option.bind_some,R4,PI hi (by omega),hp]
  rw [show decide ((i:Int)<(l.length:Int))=true by simpa using hi]
  generalize l[i]=x
  generalize QQ (·.1) l i x=b4
  cases Qk x.1 1 50 <;> cases Qk x.2.1 1 1000 <;> cases Qk x.2.2 0 x.2.1 <;> cases b4 <;> rfl) (by simp [QP]) n (by unfold Pa at hn;omega)
 unfold QU PZ
 rw [show ((0:Nat):Int)=0 from rfl] at this
 rw [this]
 rw [show decide ((l.length:Int)≤8)=decide (l.length≤8) by rw [Bool.eq_iff_iff];simp;omega]
 cases (List.range l.length).all (Q1 l) <;> rfl
theorem TF (a:List Qj) (hl:a.length≤1048576) (i:Nat) (hi:i<a.length) (x:Qj) (n:Nat) (hn:Pa≤n) :
  iter n (Pj a (i:Int) x) 0=some (bif (a.take i).all fun y => !(y.2.1==x.2.1) then .inl (i:Int) else .inr false):=by
 have hlen:(a.take i).length=i:=by simp;omega
 have:=Ql (Pj a (i:Int) x) (a.take i) (fun y => !(y.2.1==x.2.1)) (fun j y h1 h2=>by
  obtain ⟨hj,hj2,hy⟩:=Tj h1 h2
  simp only [Pj,PE hj2,hy,Option.bind_some,PI hj2 (by omega)]
  rw [show decide ((j:Int)<(i:Int))=true by rw [decide_eq_true_eq];omega]
  cases (y.2.1==x.2.1) <;> rfl) (by first | (simp [Pj,hlen];done) | (simp [Pj,hlen];omega)) n (by unfold Pa at hn;omega)
 rw [hlen] at this
 exact this
theorem R5 (a:List Qj) (hs:PY a) (n:Nat) (hn:Pa≤n):QO n a=some (Ph a):=by
 have hl:a.length≤1048576:=hs.1
 have:=P6 (Qc n a) (fun i=>(i:Int)) a.length (SO a) (fun i hi=>by
  have hp:(bif decide ((i:Int)>0) then (ND a (PL ((i:Int) - 1))).bind (fun y=>some (decide (y.1≥a[i].1))) else some false)=some (!QQ (·.1) a i a[i]):=Th (·.1) a a[i] i hi hl some
  have hst:a[i].2.2.length≤1048576:=hs.2 _ (List.getElem_mem hi)
  simp only [Qc,SO,PE hi,List.getElem?_eq_getElem hi,Option.bind_some,R4,PI hi (by omega),hp,Sp _ hst n hn,TF a hl i hi a[i] n hn]
  rw [show decide ((i:Int)<(a.length:Int))=true by simpa using hi]
  generalize a[i]=x
  generalize ((a.take i).all fun y => !(y.2.1==x.2.1))=b5
  generalize QQ (·.1) a i x=b4
  cases Qk x.1 1 999 <;> cases Qk x.2.1 0 99 <;> cases PZ x.2.2 <;> cases b4 <;> cases b5 <;> rfl) (by simp [Qc]) n (by unfold Pa at hn;omega)
 unfold QO Ph
 rw [show ((0:Nat):Int)=0 from rfl] at this
 rw [this,show decide ((a.length:Int)>12) = !decide (a.length≤12) by by_cases q:a.length≤12 <;> simp [q] <;> omega]
 cases decide (a.length≤12) <;> cases (List.range a.length).all (SO a) <;> rfl
theorem Tp (p:Qj) (hl:p.2.2.length≤1048576) (n:Nat) (hn:Pa≤n):RX n p.1 p.2.1 p.2.2=some (Qk p.1 1 999&&Qk p.2.1 0 99&&PZ p.2.2):=by
 have:=P6 (Q8 p.2.2) (fun i=>(i:Int)) p.2.2.length (Q1 p.2.2) (fun i hi=>by
  have hp:(bif decide ((i:Int)>0) then (ND p.2.2 (PL ((i:Int) - 1))).bind (fun y=>some (decide (y.1≥p.2.2[i].1))) else some false)=some (!QQ (·.1) p.2.2 i p.2.2[i]):=Th (·.1) p.2.2 p.2.2[i] i hi hl some
  simp only [Q8,Q1,PE hi,List.getElem?_eq_getElem hi,Option.bind_some,Td,R4,PI hi (by omega),hp]
  rw [show decide ((i:Int)<(p.2.2.length:Int))=true by simpa using hi]
  generalize p.2.2[i]=x
  generalize QQ (·.1) p.2.2 i x=b4
  cases Qk x.1 1 50 <;> cases Qk x.2.1 1 1000 <;> cases Qk x.2.2 0 x.2.1 <;> cases b4 <;> rfl) (by simp [Q8]) n (by unfold Pa at hn;omega)
 unfold RX PZ
 rw [show ((0:Nat):Int)=0 from rfl] at this
 rw [this,show decide ((p.2.2.length:Int)>8) = !decide (p.2.2.length≤8) by by_cases q:p.2.2.length≤8 <;> simp [q] <;> omega]
 simp only [Td,R4,Option.bind_some]
 cases Qk p.1 1 999 <;> cases Qk p.2.1 0 99 <;> cases decide (p.2.2.length≤8) <;> cases (List.range p.2.2.length).all (Q1 p.2.2) <;> rfl
theorem S4 (a:List Qj) (hl:a.length≤1048576) (i:Nat) (hi:i<a.length) (x:Qj) (n:Nat) (hn:Pa≤n) :
  iter n (P2 a (i:Int) x) 0=some (bif (a.take i).all fun y => !(y.2.1==x.2.1) then .inl (i:Int) else .inr false):=by
 have hsub:sub a (Int.toNat (0:Int)) (Int.toNat (i:Int))=a.take i:=by simp [sub]
 have hlen:(a.take i).length=i:=by simp;omega
 have:=Ql (P2 a (i:Int) x) (a.take i) (fun y => !(y.2.1==x.2.1)) (fun j y h1 h2=>by
  obtain ⟨hj,hj2,hy⟩:=Tj h1 h2
  simp only [P2,hsub,TQ,h2,Option.bind_some,PI hj2 (by omega),hlen]
  rw [show decide ((j:Int)<(i:Int))=true by rw [decide_eq_true_eq];omega]
  cases (y.2.1==x.2.1) <;> rfl) (by simp only [P2,hsub,hlen];simp) n (by unfold Pa at hn;omega)
 rw [hlen] at this
 exact this
theorem RJ (a:List Qj) (hs:PY a) (n:Nat) (hn:Pa≤n):P0 n a=some (Ph a):=by
 have hl:a.length≤1048576:=hs.1
 have:=P6 (QW n a) (fun i=>(i:Int)) a.length (SO a) (fun i hi=>by
  have hp:(bif decide ((i:Int)>0) then (ND a (PL ((i:Int) - 1))).bind (fun y=>some (decide (y.1≥a[i].1))) else some false)=some (!QQ (·.1) a i a[i]):=Th (·.1) a a[i] i hi hl some
  have hst:a[i].2.2.length≤1048576:=hs.2 _ (List.getElem_mem hi)
  have hr:(decide (0≤(0:Int))&&decide ((0:Int)≤(i:Int))&&decide ((i:Int)≤(a.length:Int)))=true:=by simp;omega
  simp only [QW,SO,PE hi,List.getElem?_eq_getElem hi,Option.bind_some,PI hi (by omega),hp,Tp _ hst n hn,S4 a hl i hi a[i] n hn,hr]
  rw [show decide ((i:Int)<(a.length:Int))=true by simpa using hi]
  generalize a[i]=x
  generalize ((a.take i).all fun y => !(y.2.1==x.2.1))=b5
  generalize QQ (·.1) a i x=b4
  cases Qk x.1 1 999 <;> cases Qk x.2.1 0 99 <;> cases PZ x.2.2 <;> cases b4 <;> cases b5 <;> rfl) (by simp [QW]) n (by unfold Pa at hn;omega)
 unfold P0 Ph
 rw [show ((0:Nat):Int)=0 from rfl] at this
 rw [this]
 rw [show decide ((a.length:Int)≤12)=decide (a.length≤12) by rw [Bool.eq_iff_iff];simp;omega]
 cases decide (a.length≤12) <;> cases (List.range a.length).all (SO a) <;> rfl
def QR (l:List PH) (k:Int):Int:=match l.find? fun x=>x.1==k with
 | some x=>x.2.1
 | none=>0
theorem Ti {l:List PH} (h:PZ l=true):∀ (i j:Nat) (hj:j<l.length) (hij:i<j),(l[i]'(by omega)).1<l[j].1:=by
 unfold PZ at h
 simp only [Bool.and_eq_true,List.all_eq_true,List.mem_range] at h
 have step:∀ j (hj:j+1<l.length),(l[j]'(by omega)).1<l[j+1].1:=by
  intro j hj
  have:=h.1 (j+1) hj
  simp only [Q1,List.getElem?_eq_getElem hj,Bool.and_eq_true,QQ,List.getElem?_eq_getElem (show j<l.length by omega)] at this
  have:=this.2
  simpa using this
 intro i j
 induction j with
 | zero=>intro hj hij;omega
 | succ j ih =>
  intro hj hij
  have h1:=step j hj
  by_cases e:i=j
  ·subst e;exact h1
  ·have:=ih (by omega) (by omega);omega
theorem Sq {l:List PH} (h:PZ l=true) (k:Int):0≤QR l k∧QR l k≤1000:=by
 unfold QR
 cases hf:l.find? fun x=>x.1==k with
 | none=>simp
 | some x =>
  have hm:=List.mem_of_find?_eq_some hf
  obtain ⟨i,hi,rfl⟩:=List.getElem_of_mem hm
  unfold PZ at h
  simp only [Bool.and_eq_true,List.all_eq_true,List.mem_range] at h
  have:=h.1 i hi
  simp only [Q1,List.getElem?_eq_getElem hi,Bool.and_eq_true,Qk,decide_eq_true_eq] at this
  show 0≤l[i].2.1∧l[i].2.1≤1000
  omega
theorem W5 {l:List PH} (h:PZ l=true) {j:Nat} (hj:j<l.length) {k:Int} (hk:l[j].1=k):QR l k=l[j].2.1:=by
 unfold QR
 cases hf:l.find? fun x=>x.1==k with
 | none =>
  have:=List.find?_eq_none.1 hf l[j] (List.getElem_mem hj)
  simp [hk] at this
 | some x =>
  obtain ⟨i,hi,rfl⟩:=List.getElem_of_mem (List.mem_of_find?_eq_some hf)
  have hki:l[i].1=k:=by have:=List.find?_some hf;simpa using this
  rcases Nat.lt_trichotomy i j with q | q | q
  ·have:=Ti h i j hj q;omega
  ·subst q;rfl
  ·have:=Ti h j i hi q;omega
theorem U7 {l:List PH} {k:Int} (h:∀ x∈l,x.1≠k):QR l k=0:=by
 unfold QR
 rw [List.find?_eq_none.2 fun x hx=>by simpa using h x hx]
def QV (a:List Qj) (k:Int):Int:=bif Ph a then (a.map fun p=>QR p.2.2 k).foldl (· + ·) 0 else 0
theorem UC {a:List Qj} (h:Ph a=true):a.length≤12∧∀ i (hi:i<a.length),PZ a[i].2.2=true:=by
 unfold Ph at h
 simp only [Bool.and_eq_true,List.all_eq_true,List.mem_range,decide_eq_true_eq] at h
 refine ⟨h.1,fun i hi => ?_⟩
 have:=h.2 i hi
 simp only [SO,List.getElem?_eq_getElem hi,Bool.and_eq_true] at this
 exact this.1.1.2
theorem TG (p:Qj) (hl:p.2.2.length≤1048576) (k:Int) (n:Nat) (hn:Pa≤n):∃ s,Q0 n p.1 p.2.1 p.2.2 k=some s∧s.2.1=QR p.2.2 k:=by
 have hc:=Qu (σ:=Unit) (P5 p.2.2 k) (fun i _=>((i:Int),(0:Int),(0:Int),(0:Int))) p.2.2 (fun l _=>match l.find? (fun x=>x.1==k) with | some x => .inr x | none => .inl ((p.2.2.length:Int),0,0,0)) (fun _ _=>True)
  (fun s hs=>by simp [P5])
  (fun i x l s h1 h2 h3 h4 h5=>by
   have hx:p.2.2[i]=x:=by rw [List.getElem?_eq_getElem h1] at h2;exact Option.some.inj h2
   cases hq:(x.1==k) with
   | true=>right;simp [P5,h1,PE h1,hx,hq]
   | false=>left;exact ⟨(),by simp [P5,h1,PE h1,hx,hq,PI h1 (by omega)],trivial,by simp [hq]⟩)
  n (by unfold Pa at hn;omega) () trivial
 unfold Q0
 rw [show ((0:Nat):Int)=0 from rfl] at hc
 rw [hc]
 unfold QR
 cases p.2.2.find? fun x=>x.1==k with
 | none=>exact ⟨(k,0,0),rfl,rfl⟩
 | some x=>exact ⟨x,rfl,rfl⟩
theorem Ts (a:List Qj) (hs:PY a) (k:Int) (n:Nat) (hn:Pa≤n):RY n a k=some (QV a k):=by
 have hl:a.length≤1048576:=hs.1
 have hst:=R5 a hs n hn
 unfold RY QV
 cases hk:Ph a with
 | false =>
  obtain ⟨m,rfl⟩:∃ m,n=m+1:=⟨n - 1,by unfold Pa at hn;omega⟩
  have:P9 (m+1) a k ((0:Int),(0:Int))=some (.inr (0,0)):=by
   unfold P9
   rw [hst,hk]
   cases decide ((0:Int)<(a.length:Int)) <;> rfl
  rw [Pf this m];rfl
 | true =>
  obtain ⟨h12,hp⟩:=UC hk
  have hc:=Qu (σ:=Int) (P9 n a k) (fun i s=>(s,(i:Int))) a (fun l s=>((l.map fun p=>QR p.2.2 k).foldl (· + ·) s,(a.length:Int))) (fun i s=>0≤s∧s≤1000 * (i:Int)∧i≤12)
   (fun s hs=>by simp [P9])
   (fun i x l s h1 h2 h3 h4 h5=>by
    left
    have hx:a[i]=x:=by rw [List.getElem?_eq_getElem h1] at h2;exact Option.some.inj h2
    have hlen:x.2.2.length≤1048576:=by rw [← hx];exact hs.2 _ (List.getElem_mem h1)
    obtain ⟨q,e,he⟩:=TG x hlen k n hn
    have hb:=Sq (hx ▸ hp i h1) k
    refine ⟨s+QR x.2.2 k, ?_,by omega,rfl⟩
    unfold P9
    rw [hst,hk,show decide ((i:Int)<(a.length:Int))=true by simpa using h1]
    simp only [cond_true,Option.bind_some,PE h1,hx,e,he,PI h1 (by omega)]
    rw [PN (by omega) (by omega)])
   n (by unfold Pa at hn;omega) 0 ⟨by omega,by omega,by omega⟩
  rw [show ((0:Nat):Int)=0 from rfl] at hc
  rw [hc];rfl
theorem R3 (p:Qj) (hl:p.2.2.length≤1048576) (hs:PZ p.2.2=true) (k:Int) (n:Nat) (hn:Pa≤n) :
  ∃ (j:Nat) (b:Bool),QM n p.1 p.2.1 p.2.2 k=some ((j:Int),b)∧(b=true→∃ h:j<p.2.2.length,QR p.2.2 k=p.2.2[j].2.1)∧(b=false→QR p.2.2 k=0):=by
 obtain ⟨j,h1,h2,h3,h4⟩:=UZ (QZ p.2.2 k) p.2.2.length (fun i=>decide ((p.2.2.getD i (0,0,0)).1<k)) (fun i hi=>by
  simp only [QZ,PE hi,Option.bind_some,PI hi (by omega)]
  rw [show decide ((i:Int)<(p.2.2.length:Int))=true by simpa using hi]
  rw [show p.2.2.getD i (0,0,0)=p.2.2[i] by simp [hi]]
  cases decide (p.2.2[i].1<k) <;> rfl) (by simp [QZ]) n (by unfold Pa at hn;omega)
 have hlow:∀ i (hi:i<p.2.2.length),i<j→p.2.2[i].1<k:=by
  intro i hi hij
  have:=h3 i hij
  simpa [hi] using this
 unfold QM
 rw [h2]
 by_cases hj:j<p.2.2.length
 ·have hge:=h4 hj
  have hge:k≤p.2.2[j].1:=by simpa [hj] using hge
  refine ⟨j,p.2.2[j].1==k, ?_,fun hb=>⟨hj,W5 hs hj (by simpa using hb)⟩,fun hb=>U7 fun x hx => ?_⟩
  ·simp [hj,PE hj]
  ·obtain ⟨i,hi,rfl⟩:=List.getElem_of_mem hx
   have hne:p.2.2[j].1≠k:=by simpa using hb
   rcases Nat.lt_trichotomy i j with q | q | q
   ·have:=hlow i hi q;omega
   ·subst q;exact hne
   ·have:=Ti hs j i hi q;omega
 ·refine ⟨j,false, ?_,fun hb=>(by cases hb),fun _=>U7 fun x hx => ?_⟩
  ·rw [Option.bind_some,show decide ((j:Int)<(p.2.2.length:Int))=false by simp;omega];rfl
  ·obtain ⟨i,hi,rfl⟩:=List.getElem_of_mem hx
   have:=hlow i hi (by omega);omega
theorem SN (a:List Qj) (hs:PY a) (k:Int) (n:Nat) (hn:Pa≤n):Q2 n a k=some (QV a k):=by
 have hl:a.length≤1048576:=hs.1
 unfold Q2 QV
 rw [RJ a hs n hn]
 cases hk:Ph a with
 | false=>rfl
 | true =>
  obtain ⟨h12,hp⟩:=UC hk
  have hc:=Qu (σ:=Int) (Q4 n a k) (fun i s=>(s,(i:Int))) a (fun l s=>((l.map fun p=>QR p.2.2 k).foldl (· + ·) s,(a.length:Int))) (fun i s=>0≤s∧s≤1000 * (i:Int)∧i≤12)
   (fun s hs=>by simp [Q4])
   (fun i x l s h1 h2 h3 h4 h5=>by
    left
    have hx:a[i]=x:=by rw [List.getElem?_eq_getElem h1] at h2;exact Option.some.inj h2
    have hlen:x.2.2.length≤1048576:=by rw [← hx];exact hs.2 _ (List.getElem_mem h1)
    obtain ⟨j,b,e,hb1,hb2⟩:=R3 x hlen (hx ▸ hp i h1) k n hn
    have hb:=Sq (hx ▸ hp i h1) k
    refine ⟨s+QR x.2.2 k, ?_,by omega,rfl⟩
    unfold Q4
    rw [show decide ((i:Int)<(a.length:Int))=true by simpa using h1]
    simp only [cond_true,Option.bind_some,PE h1,hx,e,PI h1 (by omega)]
    cases b with
    | false=>simp [hb2 rfl]
    | true =>
     obtain ⟨hj,hc⟩:=hb1 rfl
     simp only [cond_true,PE hj,Option.bind_some, ← hc]
     rw [PN (by omega) (by omega)])
   n (by unfold Pa at hn;omega) 0 ⟨by omega,by omega,by omega⟩
  rw [show ((0:Nat):Int)=0 from rfl] at hc
  simp only [Option.bind_some,Bool.not_true,cond_false]
  rw [hc];rfl
theorem Rj {α γ:Type} (f:α→Option (α⊕(α⊕γ))) (st:Nat→α) (m:Nat) (P:Nat→Bool) (r:γ) (hs:∀ i,i<m→f (st i)=some (bif P i then .inl (st (i+1)) else .inr (.inr r))) (he:f (st m)=some (.inr (.inl (st m)))) :
  ∀ n,m<n→iter n f (st 0)=some (bif (List.range m).all P then .inl (st m) else .inr r):=by
 have key:∀ d i n,i+d=m→d<n→iter n f (st i)=some (bif (List.range' i d).all P then .inl (st m) else .inr r):=by
  intro d
  induction d with
  | zero =>
   intro i n hi hn
   obtain ⟨n,rfl⟩:∃ k,n=k+1:=⟨n - 1,by omega⟩
   have:i=m:=by omega
   subst this
   rw [Pf he n];rfl
  | succ d ih =>
   intro i n hi hn
   obtain ⟨n,rfl⟩:∃ k,n=k+1:=⟨n - 1,by omega⟩
   have hf:=hs i (by omega)
   rw [List.range'_succ,List.all_cons]
   cases hp:P i with
   | true=>rw [hp,cond_true] at hf;rw [Rh hf n,ih (i+1) n (by omega) (by omega)];rfl
   | false=>rw [hp,cond_false] at hf;rw [Pf hf n];rfl
 intro n hn
 rw [List.range_eq_range']
 exact key m 0 n (by omega) hn
theorem SG (w h:Int) (c:List Int) (hl:c.length≤1048576):Qh w h c=some (w,h,c):=by
 unfold Qh;simp [V7 hl]
theorem SZ (w h:Int) (c:List Int) (hl:c.length≤1048576):QF w h c=some (w,h,c):=by
 unfold QF Q7;simp [V7 hl]
theorem SJ (a:List Qj) (hs:PY a) (n:Nat) (hn:Pa≤n):Qi n a=some a:=by
 have hl:a.length≤1048576:=hs.1
 have hc:=Qu (σ:=List Qj) (Qz a) (fun i s=>((i:Int),s)) a (fun l s=>((a.length:Int),s++l)) (fun i s=>s.length=i)
  (fun s hs=>by simp [Qz])
  (fun i x l s h1 h2 h3 h4 h5=>by
   left
   have hx:a[i]=x:=by rw [List.getElem?_eq_getElem h1] at h2;exact Option.some.inj h2
   have hst:x.2.2.length≤1048576:=by rw [← hx];exact hs.2 _ (List.getElem_mem h1)
   have hr:decide (s.length+1≤DZ)=true:=Sl (by omega)
   exact ⟨s++[x],by simp [Qz,h1,PE h1,hx,V7 hst,hr,PI h1 (by omega)],by simp [h5],by simp⟩)
  n (by unfold Pa at hn;omega) [] rfl
 unfold Qi
 rw [show ((0:Nat):Int)=0 from rfl] at hc
 rw [hc];rfl
theorem Sa (a:List Qj) (hs:PY a) (n:Nat) (hn:Pa≤n):QG n a=some a:=by
 have hl:a.length≤1048576:=hs.1
 have hc:=Qu (σ:=List Qj) (QA a) (fun i s=>((i:Int),s)) a (fun l s=>((a.length:Int),s++l)) (fun i s=>s.length=i)
  (fun s hs=>by simp [QA])
  (fun i x l s h1 h2 h3 h4 h5=>by
   left
   have hx:a[i]=x:=by rw [List.getElem?_eq_getElem h1] at h2;exact Option.some.inj h2
   have hst:x.2.2.length≤1048576:=by rw [← hx];exact hs.2 _ (List.getElem_mem h1)
   have hr:decide (s.length+1≤DZ)=true:=Sl (by omega)
   exact ⟨s++[x],by simp [QA,h1,PE h1,hx,V7 hst,hr,PI h1 (by omega)],by simp [h5],by simp⟩)
  n (by unfold Pa at hn;omega) [] rfl
 unfold QG
 rw [show ((0:Nat):Int)=0 from rfl] at hc
 rw [hc];rfl
abbrev Dn:=Int×Int×(List Int)×(List (Int×Int×(List PH)))×Int×(List O9)×(List (Int×Int×Int×Bool×Int))×(List (Int×Int×Int×Int))×(List Int)×(List Int)×Int
def RS:Dn:=(0,0,[],[],0,[],[],[],[],[],0)
def Rs (x:Dn×Bool):Int×Int×(List Int)×(List (Int×Int×(List PH)))×Int×(List O9)×(List (Int×Int×Int×Bool×Int))×(List (Int×Int×Int×Int))×(List Int)×(List Int)×Int×Bool :=
 (x.1.1,x.1.2.1,x.1.2.2.1,x.1.2.2.2.1,x.1.2.2.2.2.1,x.1.2.2.2.2.2.1,x.1.2.2.2.2.2.2.1,x.1.2.2.2.2.2.2.2.1,x.1.2.2.2.2.2.2.2.2.1,x.1.2.2.2.2.2.2.2.2.2.1,x.1.2.2.2.2.2.2.2.2.2.2,x.2)
def RT (c:List Int) (a:List Qj) (i:Nat):Bool:=match a[i]? with
 | some p=>Qk p.2.1 0 ((c.length:Int) - 1)&&(c.getD p.2.1.toNat 0==2)
 | none=>false
def Qm (a:List Qj) (i:Nat):Bool:=match a[i]? with
 | some p=>(List.range p.2.2.length).all fun k => !decide ((p.2.2.getD k (0,0,0)).2.2>0)
 | none=>false
def PO (PB:List Int):Nat→List (Int×Int×Int×Bool×Int)
 | 0=>[]
 | i+1=>PO PB i++[(((i+1:Nat):Int),PB.getD i 0, -1,false,0)]
theorem PR (PB:List Int):∀ i,(PO PB i).length=i
 | 0=>rfl
 | i+1=>by simp [PO,PR PB i]
def PS (a:List Qj):Nat→List Int
 | 0=>List.replicate 51 0
 | i+1=>(PS a i).set (i+1) (QV a ((i+1:Nat):Int))
theorem Po (a:List Qj):∀ i,(PS a i).length=51
 | 0=>rfl
 | i+1=>by simp [PS,Po a i]
theorem Sn (a:List Qj) (i:Nat) (hi:i<a.length) (hst:a[i].2.2.length≤1048576) (y:Int×Dn) (hy:y.1=(i:Int)) (z:Dn) (n:Nat) (hn:Pa≤n) :
  iter n (Pv a y) (0,z)=some (bif Qm a i then .inl ((a[i].2.2.length:Int),z) else .inr (Rs (RS,false))):=by
 have:=Rj (Pv a y) (fun k=>((k:Int),z)) a[i].2.2.length (fun k => !decide ((a[i].2.2.getD k (0,0,0)).2.2>0)) (Rs (RS,false)) (fun k hk=>by
  unfold Pv
  rw [hy]
  simp only [PE hi,Option.bind_some,PE hk,PI hk (by omega)]
  rw [show decide ((k:Int)<(a[i].2.2.length:Int))=true by simpa using hk]
  rw [show a[i].2.2.getD k (0,0,0)=a[i].2.2[k] by simp [hk]]
  cases decide (a[i].2.2[k].2.2>0) <;> rfl) (by
  unfold Pv
  rw [hy]
  simp [PE hi]) n (by unfold Pa at hn;omega)
 rw [show ((0:Nat):Int)=0 from rfl] at this
 rw [this]
 simp only [Qm,List.getElem?_eq_getElem hi]
theorem Sf (c:List Int) (hc:c.length≤1048576) (a:List Qj) (hs:PY a) (z:Dn) (n:Nat) (hn:Pa≤n) :
  iter n (Pt n c a) (0,z)=some (bif (List.range a.length).all (fun i=>RT c a i&&Qm a i) then .inl ((a.length:Int),z) else .inr (Rs (RS,false))):=by
 have hl:a.length≤1048576:=hs.1
 have:=Rj (Pt n c a) (fun k=>((k:Int),z)) a.length (fun i=>RT c a i&&Qm a i) (Rs (RS,false)) (fun i hi=>by
  have hst:a[i].2.2.length≤1048576:=hs.2 _ (List.getElem_mem hi)
  have hin:=Sn a i hi hst ((i:Int),z) rfl z n hn
  unfold Pt
  dsimp only
  rw [show decide ((i:Int)<(a.length:Int))=true by simpa using hi]
  simp only [cond_true,PE hi,Option.bind_some,R4,PI hi (by omega)]
  rw [show PL ((c.length:Int) - 1)=(c.length:Int) - 1 from PN (by omega) (by omega)]
  rw [show ((0:Int),z.1,z.2.1,z.2.2.1,z.2.2.2.1,z.2.2.2.2.1,z.2.2.2.2.2.1,z.2.2.2.2.2.2.1,z.2.2.2.2.2.2.2.1,z.2.2.2.2.2.2.2.2.1,z.2.2.2.2.2.2.2.2.2.1,z.2.2.2.2.2.2.2.2.2.2)=((0:Int),z) from rfl,hin]
  simp only [RT,List.getElem?_eq_getElem hi]
  cases hb:Qk a[i].2.1 0 ((c.length:Int) - 1) with
  | false=>rfl
  | true =>
   obtain ⟨m,hm,hmlt⟩:=UR hb
   rw [hm]
   simp only [PE hmlt,Option.bind_some,Bool.not_true,cond_false]
   rw [show c.getD (m:Int).toNat 0=c[m] by simp [hmlt]]
   cases hq:(c[m]==2) with
   | false=>simp only [bne,hq,Bool.not_false,cond_true];rfl
   | true =>
    simp only [bne,hq,Bool.not_true,cond_false]
    cases Qm a i <;> rfl) (by
  unfold Pt
  simp) n (by unfold Pa at hn;omega)
 rw [show ((0:Nat):Int)=0 from rfl] at this
 exact this
theorem S8 (a:List Qj) (hs:PY a) (n:Nat) (hn:Pa≤n):Qr n a=some (!(List.range a.length).all (Qm a)):=by
 have hl:a.length≤1048576:=hs.1
 have:=Rj (QX n a) (fun k=>(k:Int)) a.length (Qm a) true (fun i hi=>by
  have hst:a[i].2.2.length≤1048576:=hs.2 _ (List.getElem_mem hi)
  have hin:=Rj (QY a[i]) (fun k=>(k:Int)) a[i].2.2.length (fun k => !decide ((a[i].2.2.getD k (0,0,0)).2.2>0)) true (fun k hk=>by
   unfold QY
   simp only [PE hk,Option.bind_some,PI hk (by omega)]
   rw [show decide ((k:Int)<(a[i].2.2.length:Int))=true by simpa using hk]
   rw [show a[i].2.2.getD k (0,0,0)=a[i].2.2[k] by simp [hk]]
   cases decide (a[i].2.2[k].2.2>0) <;> rfl) (by simp [QY]) n (by unfold Pa at hn;omega)
  unfold QX
  rw [show ((0:Nat):Int)=0 from rfl] at hin
  simp only [PE hi,Option.bind_some,PI hi (by omega),hin]
  rw [show decide ((i:Int)<(a.length:Int))=true by simpa using hi]
  simp only [Qm,List.getElem?_eq_getElem hi]
  cases ((List.range a[i].2.2.length).all fun k => !decide ((a[i].2.2.getD k (0,0,0)).2.2>0)) <;> rfl) (by simp [QX]) n (by unfold Pa at hn;omega)
 unfold Qr
 rw [show ((0:Nat):Int)=0 from rfl] at this
 rw [this]
 cases (List.range a.length).all (Qm a) <;> rfl
theorem Sz (w h:Int) (c:List Int) (hl:c.length≤1048576) (hf:PV w h c=true) (i:Int) (n:Nat) (hn:Pa≤n):Pl n w h c i=some (bif Qk i 0 ((c.length:Int) - 1) then c.getD i.toNat 0 else 0):=by
 unfold Pl RE
 rw [Rl,Pc w h c hl n hn,hf,show PL ((c.length:Int) - 1)=(c.length:Int) - 1 from PN (by omega) (by omega)]
 simp only [Td,R4,Option.bind_some]
 cases hb:Qk i 0 ((c.length:Int) - 1) with
 | false=>rfl
 | true =>
  obtain ⟨m,rfl,hm⟩:=UR hb
  simp [PE hm,hm]
theorem SY (w h:Int) (c:List Int) (hc:c.length≤1048576) (hf:PV w h c=true) (a:List Qj) (hs:PY a) (z:Dn) (n:Nat) (hn:Pa≤n) :
  iter n (Pp n w h c a) (0,z)=some (bif (List.range a.length).all (RT c a) then .inl ((a.length:Int),z) else .inr (Rs (RS,false))):=by
 have hl:a.length≤1048576:=hs.1
 have:=Rj (Pp n w h c a) (fun k=>((k:Int),z)) a.length (RT c a) (Rs (RS,false)) (fun i hi=>by
  unfold Pp
  dsimp only
  rw [show decide ((i:Int)<(a.length:Int))=true by simpa using hi]
  simp only [cond_true,PE hi,Option.bind_some,PI hi (by omega),Sz w h c hc hf _ n hn,RT,List.getElem?_eq_getElem hi]
  cases Qk a[i].2.1 0 ((c.length:Int) - 1) with
  | false=>rfl
  | true =>
   simp only [cond_true,Bool.true_and,bne]
   cases (c.getD a[i].2.1.toNat 0==2) <;> rfl) (by
  unfold Pp
  simp) n (by unfold Pa at hn;omega)
 rw [show ((0:Nat):Int)=0 from rfl] at this
 exact this
theorem SL (a:List Qj) (hs:PY a) (f0 f1:Int) (c:List Int) (p:List Qj) (bn:Int) (os:List O9) (cr:List (Int×Int×Int×Bool×Int)) (ts:List (Int×Int×Int×Int)) (ou:List Int) (tk:Int) (n:Nat) (hn:Pa≤n) :
  iter n (Pw n a) (1,f0,f1,c,p,bn,os,cr,ts,List.replicate 51 0,ou,tk)=some (51,f0,f1,c,p,bn,os,cr,ts,PS a 50,ou,tk):=by
 have:=Q3 (γ:=Int×Dn) (Pw n a) (fun i=>(((i+1:Nat):Int),f0,f1,c,p,bn,os,cr,ts,PS a i,ou,tk)) 50 (51,f0,f1,c,p,bn,os,cr,ts,PS a 50,ou,tk) (fun i hi=>by
  unfold Pw
  dsimp only
  have hin:Of (PS a i) (((i+1:Nat):Int))=true:=Sj (by rw [Po];omega)
  rw [show decide (((i+1:Nat):Int)≤50)=true by rw [decide_eq_true_eq];omega,cond_true,Ts a hs _ n hn,Option.bind_some,hin,cond_true,show PL (((i+1:Nat):Int)+1)=((i+1+1:Nat):Int) by rw [PN (by omega) (by omega)];omega]
  rw [show Int.toNat ((i+1:Nat):Int)=i+1 by omega,UY]
  rfl) (by unfold Pw;simp) n (by unfold Pa at hn;omega)
 exact this
theorem SK (a:List Qj) (hs:PY a) (f0 f1:Int) (c:List Int) (p:List Qj) (bn:Int) (os:List O9) (cr:List (Int×Int×Int×Bool×Int)) (ts:List (Int×Int×Int×Int)) (ou:List Int) (tk:Int) (n:Nat) (hn:Pa≤n) :
  iter n (Pr n a) (1,f0,f1,c,p,bn,os,cr,ts,List.replicate 51 0,ou,tk)=some (51,f0,f1,c,p,bn,os,cr,ts,PS a 50,ou,tk):=by
 have:=Q3 (γ:=Int×Dn) (Pr n a) (fun i=>(((i+1:Nat):Int),f0,f1,c,p,bn,os,cr,ts,PS a i,ou,tk)) 50 (51,f0,f1,c,p,bn,os,cr,ts,PS a 50,ou,tk) (fun i hi=>by
  unfold Pr
  dsimp only
  have hin:Of (PS a i) (((i+1:Nat):Int))=true:=Sj (by rw [Po];omega)
  rw [show decide (((i+1:Nat):Int)≤50)=true by rw [decide_eq_true_eq];omega,cond_true,SN a hs _ n hn,Option.bind_some,hin,cond_true,show PL (((i+1:Nat):Int)+1)=((i+1+1:Nat):Int) by rw [PN (by omega) (by omega)];omega]
  rw [show Int.toNat ((i+1:Nat):Int)=i+1 by omega,UY]
  rfl) (by unfold Pr;simp) n (by unfold Pa at hn;omega)
 exact this
theorem SS (PB:List Int) (hd:PB.length≤1048576) (f0 f1:Int) (c:List Int) (p:List Qj) (bn:Int) (os:List O9) (ts:List (Int×Int×Int×Int)) (sr ou:List Int) (tk:Int) (n:Nat) (hn:Pa≤n) :
  iter n (Px PB) (0,f0,f1,c,p,bn,os,[],ts,sr,ou,tk)=some (((min PB.length 20:Nat):Int),f0,f1,c,p,bn,os,PO PB (min PB.length 20),ts,sr,ou,tk):=by
 have:=Q3 (γ:=Int×Dn) (Px PB) (fun i=>((i:Int),f0,f1,c,p,bn,os,PO PB i,ts,sr,ou,tk)) (min PB.length 20) (((min PB.length 20:Nat):Int),f0,f1,c,p,bn,os,PO PB (min PB.length 20),ts,sr,ou,tk) (fun i hi=>by
  unfold Px
  dsimp only
  have hlt:i<PB.length:=by omega
  have hr:decide ((PO PB i).length+1≤DZ)=true:=Sl (by rw [PR];omega)
  have hgo:PB[Int.toNat (i:Int)]? = some PB[i]:=by simp [hlt]
  rw [show decide ((i:Int)<(PB.length:Int))=true by rw [decide_eq_true_eq];omega,show decide ((i:Int)<20)=true by rw [decide_eq_true_eq];omega]
  simp only [cond_true,Option.bind_some,Sj hlt,hgo,List.length_singleton,hr,PI hlt (by omega)]
  simp only [PO]
  rw [show PB.getD i 0=PB[i] by simp [hlt]]) (by
  unfold Px
  dsimp only
  by_cases hlt:PB.length≤20
  ·rw [show min PB.length 20=PB.length by omega];simp
  ·rw [show min PB.length 20=20 by omega]
   rw [show decide (((20:Nat):Int)<20)=false from rfl]
   cases decide (((20:Nat):Int)<(PB.length:Int)) <;> rfl) n (by unfold Pa at hn;omega)
 exact this
theorem SQ (PB:List Int) (hd:PB.length≤1048576) (f0 f1:Int) (c:List Int) (p:List Qj) (bn:Int) (os:List O9) (ts:List (Int×Int×Int×Int)) (sr ou:List Int) (tk:Int) (n:Nat) (hn:Pa≤n) :
  iter n (Pq PB) (0,f0,f1,c,p,bn,os,[],ts,sr,ou,tk)=some ((PB.length:Int),f0,f1,c,p,bn,os,PO PB (min PB.length 20),ts,sr,ou,tk):=by
 have:=Q3 (γ:=Int×Dn) (Pq PB) (fun i=>((i:Int),f0,f1,c,p,bn,os,PO PB (min i 20),ts,sr,ou,tk)) PB.length ((PB.length:Int),f0,f1,c,p,bn,os,PO PB (min PB.length 20),ts,sr,ou,tk) (fun i hlt=>by
  unfold Pq
  dsimp only
  have hr:decide ((PO PB (min i 20)).length+1≤DZ)=true:=Sl (by rw [PR];omega)
  have hgo:PB[Int.toNat (i:Int)]? = some PB[i]:=by simp [hlt]
  rw [show decide ((i:Int)<(PB.length:Int))=true by rw [decide_eq_true_eq];omega]
  simp only [cond_true,Option.bind_some,Sj hlt,hgo,List.length_singleton,hr,PI hlt (by omega)]
  by_cases h20:i<20
  ·rw [show decide ((i:Int)<20)=true by rw [decide_eq_true_eq];omega]
   simp only [cond_true,Option.bind_some]
   rw [show min (i+1) 20=min i 20+1 by omega,PO,show min i 20=i by omega,show PB.getD i 0=PB[i] by simp [hlt]]
  ·rw [show decide ((i:Int)<20)=false by rw [decide_eq_false_iff_not];omega]
   simp only [cond_false,Option.bind_some]
   rw [show min (i+1) 20=min i 20 by omega]) (by
  unfold Pq
  simp) n (by unfold Pa at hn;omega)
 exact this
def SX (w h i:Int):List Int:=(bif decide (i.tdiv w>0) then [i - w] else [])++(bif decide (i.tmod w>0) then [i - 1] else [])++(bif decide (i.tmod w<w - 1) then [i+1] else [])++(bif decide (i.tdiv w<h - 1) then [i+w] else [])
structure Cell (w h i:Int):Prop where
 w1:1≤w
 w2:w≤10
 h1:1≤h
 h2:h≤10
 i1:0≤i
 i2:i<w * h
theorem WZ {w h:Int} (h1:1≤w) (h2:w≤10) (h3:1≤h) (h4:h≤10):w * h≤100:=by
 have:=Int.mul_le_mul h2 h4 (by omega) (by omega:(0:Int)≤10)
 omega
theorem U5 {w h i:Int} (c:Cell w h i):∃ q r,i=w * q+r∧0≤r∧r<w∧0≤q∧q≤h - 1∧i.tdiv w=q∧i.tmod w=r∧0≤w * q∧w * q+w≤w * h:=by
 obtain ⟨w1,w2,h1,h2,i1,i2⟩:=c
 have e1:i.tdiv w=i / w:=Int.tdiv_eq_ediv_of_nonneg i1
 have e2:i.tmod w=i % w:=Int.tmod_eq_emod_of_nonneg i1
 have e3:=Int.mul_ediv_add_emod i w
 have r1:=Int.emod_nonneg i (show w≠0 by omega)
 have r2:=Int.emod_lt_of_pos i (show 0<w by omega)
 have q1:0≤i / w:=Int.ediv_nonneg i1 (by omega)
 have q2:i / w<h:=Int.ediv_lt_of_lt_mul (by omega) (by rw [Int.mul_comm];exact i2)
 refine ⟨i / w,i % w,e3.symm,r1,r2,q1,by omega,e1,e2,Int.mul_nonneg (by omega) q1, ?_⟩
 have:=Int.mul_le_mul_of_nonneg_left (show i / w+1≤h by omega) (show (0:Int)≤w by omega)
 rw [Int.mul_add,Int.mul_one] at this
 exact this
theorem Uf {w h i:Int} (c:Cell w h i):(∀ y∈SX w h i,0≤y∧y<w * h∧y≠i)∧(SX w h i).Nodup∧(SX w h i).length≤4:=by
 obtain ⟨q,r,e,r1,r2,q1,q2,e1,e2,m1,m2⟩:=U5 c
 obtain ⟨w1,w2,h1,h2,i1,i2⟩:=c
 unfold SX
 rw [e1,e2]
 have g1:0<q→w≤w * q:=fun h=>by
  have:=Int.mul_le_mul_of_nonneg_left (show (1:Int)≤q by omega) (show (0:Int)≤w by omega)
  omega
 have g2:q<h - 1→w * q+w+w≤w * h:=fun hq=>by
  have:=Int.mul_le_mul_of_nonneg_left (show q+1+1≤h by omega) (show (0:Int)≤w by omega)
  rw [Int.mul_add,Int.mul_add,Int.mul_one] at this
  omega
 have G1:q≤0∨w≤w * q:=by
  by_cases hq:0<q
  ·exact .inr (g1 hq)
  ·exact .inl (by omega)
 have G2:h - 1≤q∨w * q+w+w≤w * h:=by
  by_cases hq:q<h - 1
  ·exact .inr (g2 hq)
  ·exact .inl (by omega)
 clear g1 g2
 generalize w * q=m at *
 generalize w * h=t at *
 subst e
 by_cases a1:q>0 <;> by_cases a2:r>0 <;> by_cases a3:r<w - 1 <;> by_cases a4:q<h - 1 <;> simp [a1,a2,a3,a4] <;> omega
def Ud (c:List Int) (i:Int):Int:=c.getD i.toNat 0
theorem aO {c:List Int} {i:Int} (h:0≤i∧i<(c.length:Int)):ND c i=some (Ud c i):=by
 obtain ⟨m,rfl⟩:∃ m:Nat,i=m:=⟨i.toNat,by omega⟩
 rw [PE (by omega)]
 simp [Ud,List.getD,List.getElem?_eq_getElem (show m<c.length by omega)]
structure YP (w h:Int) (c:List Int):Prop where
 w1:1≤w
 w2:w≤10
 h1:1≤h
 h2:h≤10
 len:(c.length:Int)=w * h
theorem YP.cell {w h:Int} {c:List Int} (f:YP w h c) {i:Int} (hi:0≤i∧i<(c.length:Int)):Cell w h i:=⟨f.w1,f.w2,f.h1,f.h2,hi.1,f.len ▸ hi.2⟩
theorem YP.le {w h:Int} {c:List Int} (f:YP w h c):c.length≤100:=by
 have:=WZ f.w1 f.w2 f.h1 f.h2
 have:=f.len
 omega
theorem XU {w h:Int} {c:List Int} (hf:PV w h c=true):YP w h c:=by
 unfold PV Qk at hf
 simp only [Bool.and_eq_true,decide_eq_true_eq,beq_iff_eq] at hf
 obtain ⟨⟨⟨⟨a,b⟩,⟨d,e⟩⟩,g⟩,_⟩:=hf
 have h1:=WZ a b d e
 have h2:0≤w * h:=Int.mul_nonneg (by omega) (by omega)
 rw [PN (by omega) (by omega)] at g
 exact ⟨a,b,d,e,g⟩
def VC (w h:Int) (c:List Int) (i:Int) (a:Bool):List Int:=(SX w h i).filter fun k=>Ud c k != 0 && !(a&&Ud c k==2)
theorem bj {w h:Int} {c:List Int} (f:YP w h c) {i:Int} (hi:0≤i∧i<(c.length:Int)) (a:Bool):(∀ y∈VC w h c i a,(0≤y∧y<(c.length:Int))∧y≠i)∧(VC w h c i a).Nodup∧(VC w h c i a).length≤4:=by
 obtain ⟨h1,h2,h3⟩:=Uf (f.cell hi)
 refine ⟨fun y hy => ?_,h2.filter _,Nat.le_trans (List.length_filter_le _ _) h3⟩
 have:=h1 y (List.mem_filter.1 hy).1
 rw [f.len]
 exact ⟨⟨this.1,this.2.1⟩,this.2.2⟩
def AS:List (Nat→Int)→List Nat→Int→Prop
 | [],_,x=>x=0
 | r::rs,S,x=>∃ k∈S,∃ y,AS rs (S.erase k) y∧x=r k+y
def cB (R:List (Nat→Int)) (S:List Nat) (x:Int):Prop:=AS R S x∧∀ y,AS R S y→x≤y
theorem cB.uniq {R:List (Nat→Int)} {S:List Nat} {x y:Int} (h1:cB R S x) (h2:cB R S y):x=y :=
 Int.le_antisymm (h1.2 y h2.1) (h2.2 x h1.1)
def Ri:List Int→Int
 | []=>0
 | x::l=>x+Ri l
theorem Vk:∀ a b:List Int,Ri (a++b)=Ri a+Ri b
 | [],b=>by simp [Ri]
 | x::a,b=>by simp only [List.cons_append,Ri,Vk a b];omega
theorem SU (v:Nat→Int):∀ (S:List Nat) (k:Nat),k∈S→Ri (S.map v)=v k+Ri ((S.erase k).map v)
 | [],k,h=>by cases h
 | a::S,k,h=>by
  by_cases e:a=k
  ·subst e;simp [Ri]
  ·have hk:k∈S:=by
    rcases List.mem_cons.1 h with h | h
    ·exact absurd h.symm e
    ·exact h
   have e2:(a==k)=false:=by simpa using e
   rw [List.erase_cons,e2]
   simp only [Bool.false_eq_true,if_false,List.map_cons,Ri,SU v S k hk]
   omega
theorem UM (v:Nat→Int):∀ (S:List Nat),(∀ k∈S,v k≤0)→Ri (S.map v)≤0
 | [],_=>by simp [Ri]
 | a::S,h=>by
  simp only [List.map_cons,Ri]
  have:=UM v S (fun k hk=>h k (List.mem_cons_of_mem _ hk))
  have:=h a List.mem_cons_self
  omega
theorem AS.ge (v:Nat→Int):∀ (R:List (Nat→Int)) (u:List Int) (S:List Nat) (x:Int),u.length=R.length→(∀ i (hi:i<R.length) (hu:i<u.length),∀ k∈S,u[i]+v k≤R[i] k)→(∀ k∈S,v k≤0)→AS R S x→Ri u+Ri (S.map v)≤x
 | [],u,S,x,hl,_,hv,hx=>by
  obtain rfl:u=[]:=List.eq_nil_of_length_eq_zero hl
  have:=UM v S hv
  simp only [AS] at hx
  simp only [Ri];omega
 | r::R,[],S,x,hl,_,_,_=>by simp at hl
 | r::R,u0::u,S,x,hl,hc,hv,hx=>by
  obtain ⟨k,hk,y,hy,rfl⟩:=hx
  have ih:=AS.ge v R u (S.erase k) y (by simpa using hl) (fun i hi hu q hq=>by
   have:=hc (i+1) (by simp;omega) (by simp;omega) q (List.mem_of_mem_erase hq)
   simpa using this) (fun q hq=>hv q (List.mem_of_mem_erase hq)) hy
  have h0:=hc 0 (by simp) (by simp) k hk
  simp only [List.getElem_cons_zero] at h0
  rw [SU v S k hk]
  simp only [Ri];omega
theorem Tz (f:Nat→Int):∀ (S:List Nat),(∀ k∈S,f k=0)→Ri (S.map f)=0
 | [],_=>rfl
 | a::S,h=>by
  simp only [List.map_cons,Ri,Tz f S (fun k hk=>h k (List.mem_cons_of_mem _ hk)),h a List.mem_cons_self]
  omega
theorem YO (f:Nat→Int):∀ (cs S:List Nat),cs.Nodup→S.Nodup→(∀ k∈cs,k∈S)→(∀ k∈S,k∉cs→f k=0)→Ri (S.map f)=Ri (cs.map f)
 | [],S,_,_,_,h=>by rw [Tz f S (fun k hk=>h k hk (by simp))];rfl
 | k::cs,S,hn,hS,hs,h=>by
  obtain ⟨h1,h2⟩:=List.nodup_cons.1 hn
  rw [SU f S k (hs k List.mem_cons_self),YO f cs (S.erase k) h2 (hS.erase k) (fun q hq => ?_) (fun q hq hc => ?_)]
  ·rfl
  ·have hne:q≠k:=fun e=>h1 (e ▸ hq)
   exact (List.mem_erase_of_ne hne).2 (hs q (List.mem_cons_of_mem _ hq))
  ·have hne:q≠k:=fun e=>hS.not_mem_erase (e ▸ hq)
   refine h q (List.mem_of_mem_erase hq) (fun hq2 => ?_)
   rcases List.mem_cons.1 hq2 with hq2 | hq2
   ·exact hne hq2
   ·exact hc hq2
theorem UH:∀ (a b:List Nat),a.Nodup→(∀ x∈a,x∈b)→a.length≤b.length
 | [],_,_,_=>by simp
 | x::a,b,hn,hs=>by
  obtain ⟨h1,h2⟩:=List.nodup_cons.1 hn
  have hx:=hs x List.mem_cons_self
  have:=UH a (b.erase x) h2 (fun q hq=>(List.mem_erase_of_ne (fun e:q=x=>h1 (e ▸ hq))).2 (hs q (List.mem_cons_of_mem _ hq)))
  rw [List.length_erase_of_mem hx] at this
  have:=List.length_pos_of_mem hx
  simp only [List.length_cons];omega
def Xb:List (Nat→Int)→List Nat→Int
 | r::rs,k::ks=>r k+Xb rs ks
 | _,_=>0
theorem AS.of:∀ (R:List (Nat→Int)) (cs:List Nat) (S:List Nat),cs.length=R.length→cs.Nodup→(∀ k∈cs,k∈S)→AS R S (Xb R cs)
 | [],[],S,_,_,_=>rfl
 | [],c::cs,S,hl,_,_=>by simp at hl
 | r::R,[],S,hl,_,_=>by simp at hl
 | r::R,k::cs,S,hl,hn,hs=>by
  obtain ⟨h1,h2⟩:=List.nodup_cons.1 hn
  refine ⟨k,hs k List.mem_cons_self,Xb R cs,AS.of R cs (S.erase k) (by simpa using hl) h2 (fun q hq => ?_),rfl⟩
  have hne:q≠k:=fun e=>h1 (e ▸ hq)
  exact (List.mem_erase_of_ne hne).2 (hs q (List.mem_cons_of_mem _ hq))
structure HF (C:Nat→Nat→Int) (n m:Nat) (u v:Nat→Int):Prop where
 XT:∀ r j,1≤r→r≤n→1≤j→j≤m→u r+v j≤C r j
 bc:∀ j,1≤j→j≤m→v j≤0
 ba:∀ r,1≤r→r≤n→0≤u r
structure HM (m i:Nat) (w:Nat→Int):Prop where
 Xc:∀ j,1≤j→j≤m→0≤w j∧w j<(i:Int)
 inj:∀ j k,1≤j→j≤m→1≤k→k≤m→w j=w k→0<w j→j=k
 fg:∀ r:Nat,1≤r→r<i→∃ j,1≤j∧j≤m∧w j=(r:Int)
structure HT (C:Nat→Nat→Int) (m:Nat) (u v w:Nat→Int):Prop where
 tight:∀ j (r:Nat),1≤j→j≤m→1≤r→w j=(r:Int)→u r+v j=C r j
 free:∀ j,1≤j→j≤m→w j=0→v j=0
theorem HM.open {m i:Nat} {w:Nat→Int} (h:HM m i w) (h1:1≤i) (hi:i≤m):∃ j,1≤j∧j≤m∧w j=0:=by
 refine Classical.byContradiction fun hno => ?_
 have hp:∀ j,1≤j→j≤m→0<w j:=fun j a b=>by
  have:=(h.Xc j a b).1
  have:w j≠0:=fun e=>hno ⟨j,a,b,e⟩
  omega
 have:=UH ((List.range m).map fun k=>(w (k+1)).toNat) (List.range' 1 (i - 1)) ?_ ?_
 ·simp at this;omega
 ·unfold List.Nodup
  rw [List.pairwise_map]
  refine List.Pairwise.imp_of_mem (fun {a b} ha hb hab e => ?_) (List.pairwise_lt_range (n:=m))
  rw [List.mem_range] at ha hb
  have p1:=hp (a+1) (by omega) (by omega)
  have p2:=hp (b+1) (by omega) (by omega)
  have:=h.inj (a+1) (b+1) (by omega) (by omega) (by omega) (by omega) (by omega) p1
  omega
 ·intro x hx
  obtain ⟨k,hk,rfl⟩:=List.mem_map.1 hx
  rw [List.mem_range] at hk
  have p1:=hp (k+1) (by omega) (by omega)
  have p2:=(h.Xc (k+1) (by omega) (by omega)).2
  rw [List.mem_range'_1]
  omega
theorem HF.Mt {C:Nat→Nat→Int} {n m i:Nat} {u v w:Nat→Int} (hf:HF C n m u v) (ht:HT C m u v w) (hm:HM m i w) (h1:1≤i) (hi:i≤m) (hin:i≤n) {M:Int} (hC:∀ r j,1≤r→r≤n→1≤j→j≤m→0≤C r j∧C r j≤M) :
  (∀ r,1≤r→r≤n→0≤u r∧u r≤M)∧∀ j,1≤j→j≤m → -M≤v j∧v j≤0:=by
 obtain ⟨f,f1,f2,f3⟩:=hm.open h1 hi
 have hu:∀ r,1≤r→r≤n→0≤u r∧u r≤M:=fun r a b=>by
  have:=hf.XT r f a b f1 f2
  rw [ht.free f f1 f2 f3] at this
  have:=(hC r f a b f1 f2).2
  exact ⟨hf.ba r a b,by omega⟩
 refine ⟨hu,fun j a b=>⟨?_,hf.bc j a b⟩⟩
 obtain ⟨q1,q2⟩:=hm.Xc j a b
 by_cases h0:w j=0
 ·rw [ht.free j a b h0]
  have:=hC i f h1 hin f1 f2
  omega
 ·have:=ht.tight j (w j).toNat a b (by omega) (by omega)
  have:=hu (w j).toNat (by omega) (by omega)
  have:=hC (w j).toNat j (by omega) (by omega) a b
  omega
def Ch (P:Nat→Nat→Prop):List Nat→Prop
 | []=>True
 | a::l=>(a=0∧l=[])∨(1≤a∧(∃ x∈l,P a x)∧Ch P l)
theorem Ch.mono {P Q:Nat→Nat→Prop}:∀ {l:List Nat},(∀ a x,a∈l→x∈l→P a x→Q a x)→Ch P l→Ch Q l
 | [],_,_=>trivial
 | a::l,h,hc=>by
  rcases hc with hc | ⟨h1,⟨x,hx,hP⟩,h3⟩
  ·exact .inl hc
  ·exact .inr ⟨h1,⟨x,hx,h a x List.mem_cons_self (List.mem_cons_of_mem _ hx) hP⟩,Ch.mono (fun a x ha hx=>h a x (List.mem_cons_of_mem _ ha) (List.mem_cons_of_mem _ hx)) h3⟩
theorem Ch.tail {P:Nat→Nat→Prop} {a:Nat} {l:List Nat} (h:Ch P (a::l)):Ch P l:=by
 rcases h with ⟨_,h⟩ | ⟨_,_,h⟩
 ·rw [h];trivial
 ·exact h
theorem Ch.drop {P:Nat→Nat→Prop} {l:List Nat}:∀ {p:List Nat},Ch P (p++l)→Ch P l
 | [],h=>h
 | a::p,h=>Ch.drop (p:=p) (Ch.tail h)
def Fr (C:Nat→Nat→Int) (u v w fr:Nat→Int) (a x:Nat):Prop:=fr a=(x:Int)∧∃ r:Nat,1≤r∧w x=(r:Int)∧u r+v a=C r a
structure HG (C:Nat→Nat→Int) (n m:Nat) (u v w ls fr:Nat→Int) (Q:List Nat) (j0:Nat):Prop where
 hf:HF C n m u v
 ht:HT C m u v w
 ea:j0≤m
 nd:(j0::Q).Nodup
 qm:∀ j∈Q,j≤m
 qp:∀ j∈Q,1≤w j
 ch:Ch (Fr C u v w fr) (j0::Q)
 l1:∀ j,1≤j→j≤m→j∉Q→∀ b∈Q,∀ r:Nat,w b=(r:Int)→ls j≤C r j - u r - v j
 l2:Q=[]∨∀ j,1≤j→j≤m→j∉Q→∃ b∈Q,fr j=(b:Int)∧∃ r:Nat,1≤r∧w b=(r:Int)∧ls j=C r j - u r - v j
structure HS (C:Nat→Nat→Int) (n m:Nat) (u v w ls fr:Nat→Int) (Q:List Nat):Prop where
 hf:HF C n m u v
 ht:HT C m u v w
 nd:Q.Nodup
 qm:∀ j∈Q,j≤m
 qp:∀ j∈Q,1≤w j
 ch:Ch (Fr C u v w fr) Q
 l1:∀ j,1≤j→j≤m→j∉Q→∀ b∈Q,∀ r:Nat,w b=(r:Int)→ls j≤C r j - u r - v j
 l2:∀ j,1≤j→j≤m→j∉Q→∃ b∈Q,fr j=(b:Int)∧∃ r:Nat,1≤r∧w b=(r:Int)∧ls j=C r j - u r - v j
theorem HG.scan {C:Nat→Nat→Int} {n m:Nat} {u v w ls fr ls' fr':Nat→Int} {Q:List Nat} {j0:Nat} (h:HG C n m u v w ls fr Q j0) {i0:Nat} (hi:1≤i0) (hw:w j0=(i0:Int))
  (hfar:Q=[]→∀ j,1≤j→j≤m→C i0 j - u i0 - v j<ls j)
  (hused:∀ j,j≤m→j∈j0::Q→fr' j=fr j)
  (hnew:∀ j,1≤j→j≤m→j∉j0::Q→(C i0 j - u i0 - v j<ls j∧ls' j=C i0 j - u i0 - v j∧fr' j=(j0:Int))∨(¬ C i0 j - u i0 - v j<ls j∧ls' j=ls j∧fr' j=fr j)) :
  HS C n m u v w ls' fr' (j0::Q):=by
 refine ⟨h.hf,h.ht,h.nd,fun j hj => ?_,fun j hj => ?_, ?_,fun j a b hj x hx r hr => ?_,fun j a b hj => ?_⟩
 ·rcases List.mem_cons.1 hj with rfl | hj
  ·exact h.ea
  ·exact h.qm j hj
 ·rcases List.mem_cons.1 hj with rfl | hj
  ·omega
  ·exact h.qp j hj
 ·refine h.ch.mono fun a x ha hx hP=>⟨?_,hP.2⟩
  rw [hused a ?_ ha]
  ·exact hP.1
  ·rcases List.mem_cons.1 ha with rfl | ha
   ·exact h.ea
   ·exact h.qm a ha
 ·have hjQ:j∉Q:=fun e=>hj (List.mem_cons_of_mem _ e)
  rcases hnew j a b hj with ⟨h1,h2,h3⟩ | ⟨h1,h2,h3⟩
  ·rcases List.mem_cons.1 hx with rfl | hx
   ·rw [h2,show r=i0 by omega];omega
   ·have:=h.l1 j a b hjQ x hx r hr
    omega
  ·rcases List.mem_cons.1 hx with rfl | hx
   ·rw [h2,show r=i0 by omega];omega
   ·rw [h2];exact h.l1 j a b hjQ x hx r hr
 ·have hjQ:j∉Q:=fun e=>hj (List.mem_cons_of_mem _ e)
  rcases hnew j a b hj with ⟨h1,h2,h3⟩ | ⟨h1,h2,h3⟩
  ·exact ⟨j0,List.mem_cons_self,h3,i0,hi,hw,h2⟩
  ·rcases h.l2 with e | e
   ·exact absurd (hfar e j a b) h1
   ·obtain ⟨x,hx,p1,r,p2,p3,p4⟩:=e j a b hjQ
    exact ⟨x,List.mem_cons_of_mem _ hx,by rw [h3,p1],r,p2,p3,by rw [h2,p4]⟩
theorem HS.step {C:Nat→Nat→Int} {n m i:Nat} {u v w ls fr u' v' ls':Nat→Int} {Q:List Nat} (h:HS C n m u v w ls fr Q) (hm:HM m i w) (hw0:w 0=(i:Int)) (hin:i≤n) {d:Int} {j1:Nat}
  (a1:1≤j1) (a2:j1≤m) (a3:j1∉Q) (hd:ls j1=d) (hmin:∀ j,1≤j→j≤m→j∉Q→d≤ls j)
  (hu1:∀ r:Nat,1≤r→r≤n→(∃ b∈Q,w b=(r:Int))→u' r=u r+d)
  (hu2:∀ r:Nat,1≤r→r≤n→¬ (∃ b∈Q,w b=(r:Int))→u' r=u r)
  (hv1:∀ j,1≤j→j≤m→j∈Q→v' j=v j - d) (hv2:∀ j,1≤j→j≤m→j∉Q→v' j=v j)
  (hl:∀ j,1≤j→j≤m→j∉Q→ls' j=ls j - d):0≤d∧HG C n m u' v' w ls' fr Q j1:=by
 have rn:∀ b∈Q,∀ r:Nat,w b=(r:Int)→1≤r∧r≤n:=fun b hb r hr=>by
  have h1:=h.qp b hb
  refine ⟨by omega, ?_⟩
  by_cases hb0:b=0
  ·subst hb0;rw [hw0] at hr;omega
  ·have:=hm.Xc b (by omega) (h.qm b hb)
   omega
 have hd0:0≤d:=by
  obtain ⟨b,hb,_,r,p2,p3,p4⟩:=h.l2 j1 a1 a2 a3
  obtain ⟨r1,r2⟩:=rn b hb r p3
  have:=h.hf.XT r j1 r1 r2 a1 a2
  omega
 have inQ:∀ j (r:Nat),1≤j→j≤m→j∉Q→1≤r→w j=(r:Int)→¬ ∃ b∈Q,w b=(r:Int):=fun j r c1 c2 c3 c4 c5=>by
  rintro ⟨b,hb,e⟩
  by_cases hb0:b=0
  ·subst hb0
   have:=hm.Xc j c1 c2
   rw [hw0] at e;omega
  ·have:=hm.inj j b c1 c2 (by omega) (h.qm b hb) (by omega) (by omega)
   exact c3 (this ▸ hb)
 have tq:∀ a x,a∈Q→1≤a→x∈Q→Fr C u v w fr a x→Fr C u' v' w fr a x:=fun a x ha ha1 hx hP=>by
  obtain ⟨p1,r,p2,p3,p4⟩:=hP
  obtain ⟨r1,r2⟩:=rn x hx r p3
  refine ⟨p1,r,p2,p3, ?_⟩
  rw [hu1 r r1 r2 ⟨x,hx,p3⟩,hv1 a ha1 (h.qm a ha) ha];omega
 refine ⟨hd0,⟨fun r j r1 r2 j1 j2 => ?_,fun j c1 c2 => ?_,fun r c1 c2 => ?_⟩,⟨fun j r c1 c2 c3 c4 => ?_,fun j c1 c2 c3 => ?_⟩,a2,List.nodup_cons.2 ⟨a3,h.nd⟩,h.qm,h.qp, ?_,fun j c1 c2 hj b hb r hr => ?_, .inr fun j c1 c2 hj => ?_⟩
 ·have hf:=h.hf.XT r j r1 r2 j1 j2
  by_cases hr:∃ b∈Q,w b=(r:Int)
  ·rw [hu1 r r1 r2 hr]
   by_cases hj:j∈Q
   ·rw [hv1 j j1 j2 hj];omega
   ·obtain ⟨b,hb,e⟩:=hr
    have:=h.l1 j j1 j2 hj b hb r e
    have:=hmin j j1 j2 hj
    rw [hv2 j j1 j2 hj];omega
  ·rw [hu2 r r1 r2 hr]
   by_cases hj:j∈Q
   ·rw [hv1 j j1 j2 hj];omega
   ·rw [hv2 j j1 j2 hj];omega
 ·have:=h.hf.bc j c1 c2
  by_cases hj:j∈Q
  ·rw [hv1 j c1 c2 hj];omega
  ·rw [hv2 j c1 c2 hj];omega
 ·have:=h.hf.ba r c1 c2
  by_cases hr:∃ b∈Q,w b=(r:Int)
  ·rw [hu1 r c1 c2 hr];omega
  ·rw [hu2 r c1 c2 hr];omega
 ·have ht:=h.ht.tight j r c1 c2 c3 c4
  have:=hm.Xc j c1 c2
  have hrn:r≤n:=by omega
  by_cases hj:j∈Q
  ·rw [hv1 j c1 c2 hj,hu1 r c3 hrn ⟨j,hj,c4⟩];omega
  ·rw [hv2 j c1 c2 hj,hu2 r c3 hrn (inQ j r c1 c2 hj c3 c4)];omega
 ·have hj:j∉Q:=fun hj=>by have:=h.qp j hj;omega
  rw [hv2 j c1 c2 hj,h.ht.free j c1 c2 c3]
 ·refine .inr ⟨a1, ?_, ?_⟩
  ·obtain ⟨b,hb,p1,r,p2,p3,p4⟩:=h.l2 j1 a1 a2 a3
   obtain ⟨r1,r2⟩:=rn b hb r p3
   refine ⟨b,hb,p1,r,p2,p3, ?_⟩
   rw [hu1 r r1 r2 ⟨b,hb,p3⟩,hv2 j1 a1 a2 a3];omega
  ·have key:∀ (l:List Nat),(∀ a∈l,a∈Q)→Ch (Fr C u v w fr) l→Ch (Fr C u' v' w fr) l:=by
    intro l
    induction l with
    | nil=>intro _ _;trivial
    | cons a l ih =>
     intro hs hc
     rcases hc with hc | ⟨h1,⟨x,hx,hP⟩,h3⟩
     ·exact .inl hc
     ·exact .inr ⟨h1,⟨x,hx,tq a x (hs a List.mem_cons_self) h1 (hs x (List.mem_cons_of_mem _ hx)) hP⟩,ih (fun b hb=>hs b (List.mem_cons_of_mem _ hb)) h3⟩
   exact key Q (fun a ha=>ha) h.ch
 ·obtain ⟨r1,r2⟩:=rn b hb r hr
  have:=h.l1 j c1 c2 hj b hb r hr
  rw [hl j c1 c2 hj,hu1 r r1 r2 ⟨b,hb,hr⟩,hv2 j c1 c2 hj];omega
 ·obtain ⟨b,hb,p1,r,p2,p3,p4⟩:=h.l2 j c1 c2 hj
  obtain ⟨r1,r2⟩:=rn b hb r p3
  refine ⟨b,hb,p1,r,p2,p3, ?_⟩
  rw [hl j c1 c2 hj,hu1 r r1 r2 ⟨b,hb,p3⟩,hv2 j c1 c2 hj];omega
def ga (l:List Int) (i:Nat):Int:=l.getD i 0
theorem dQ {l:List Int} {i:Nat} (h:i<l.length):l[i]? = some (ga l i):=by
 unfold ga;rw [List.getD,List.getElem?_eq_getElem h];rfl
theorem dS {l:List Int} {i:Nat} (h:i<l.length) (x:Int) (j:Nat):ga (l.set i x) j=if j=i then x else ga l j:=by
 unfold ga
 rw [List.getD,List.getD,List.getElem?_set]
 by_cases e:i=j
 ·subst e;simp [h]
 ·rw [if_neg e,if_neg (fun q=>e q.symm)]
theorem dR (m:Nat) (x:Int) (j:Nat) (h:j<m):ga (List.replicate m x) j=x:=by
 unfold ga;rw [List.getD,List.getElem?_replicate,if_pos h];rfl
structure CM (a0:List (List Int)) (m:Nat):Prop where
 row:∀ r∈a0,r.length=m
 nm:a0.length≤m
 gB:m≤10
 Mt:∀ r∈a0,∀ x∈r,0≤x∧x≤100000
def cC (a0:List (List Int)) (r j:Nat):Int:=ga (a0.getD (r - 1) []) (j - 1)
theorem CM.at {a0:List (List Int)} {m:Nat} (h:CM a0 m) {r j:Nat} (r1:1≤r) (r2:r≤a0.length) (j1:1≤j) (j2:j≤m) :
  ∃ l,ND a0 (PL ((r:Int) - 1))=some l∧ND l (PL ((j:Int) - 1))=some (cC a0 r j)∧0≤cC a0 r j∧cC a0 r j≤100000:=by
 have hm:=h.gB
 have hn:=h.nm
 have hr:r - 1<a0.length:=by omega
 have e1:PL ((r:Int) - 1)=((r - 1:Nat):Int):=by rw [PN (by omega) (by omega)];omega
 have e2:PL ((j:Int) - 1)=((j - 1:Nat):Int):=by rw [PN (by omega) (by omega)];omega
 have hl:=h.row _ (List.getElem_mem hr)
 have hj:j - 1<a0[r - 1].length:=by omega
 have e3:cC a0 r j=a0[r - 1][j - 1]:=by
  unfold cC ga
  rw [List.getD,List.getD,List.getElem?_eq_getElem hr,Option.getD_some,List.getElem?_eq_getElem hj]
  rfl
 refine ⟨a0[r - 1],by rw [e1,PE hr],by rw [e2,PE hj,e3], ?_⟩
 rw [e3]
 exact h.Mt _ (List.getElem_mem hr) _ (List.getElem_mem hj)
theorem HM.congr {m i:Nat} {w w':Nat→Int} (h:HM m i w) (e:∀ j,1≤j→j≤m→w' j=w j):HM m i w' :=
 ⟨fun j a b=>by rw [e j a b];exact h.Xc j a b,fun j k a b c d=>by rw [e j a b,e k c d];exact h.inj j k a b c d,fun r a b=>by
  obtain ⟨j,p,q,s⟩:=h.fg r a b
  exact ⟨j,p,q,by rw [e j p q,s]⟩⟩
theorem HT.congr {C:Nat→Nat→Int} {m:Nat} {u v w w':Nat→Int} (h:HT C m u v w) (e:∀ j,1≤j→j≤m→w' j=w j):HT C m u v w' :=
 ⟨fun j r a b c d=>h.tight j r a b c (by rw [← e j a b];exact d),fun j a b c=>h.free j a b (by rw [← e j a b];exact c)⟩
theorem Ui {α γ:Type} {f:α→Option (α⊕γ)} (R:Nat→α→Prop) (S:γ→Prop)
  (h:∀ k x,R k x→(∃ z,f x=some (.inr z)∧S z)∨(∃ x' k',f x=some (.inl x')∧R k' x'∧k'<k)) :
  ∀ n k x,R k x→k<n→∃ z,S z∧iter n f x=some z:=by
 intro n
 induction n with
 | zero=>intro k x _ hn;omega
 | succ n ih =>
  intro k x hR hn
  rcases h k x hR with ⟨z,h1,h3⟩ | ⟨x',k',h1,h3,h4⟩
  ·exact ⟨z,h3,Pf h1 n⟩
  ·obtain ⟨z,h5,h6⟩:=ih k' x' h3 (by omega)
   exact ⟨z,h5,(Rh h1 n).trans h6⟩
theorem Ch.zero {P:Nat→Nat→Prop}:∀ {a:Nat} {l:List Nat},Ch P (a::l)→0∈a::l
 | a,[],h=>by
  rcases h with ⟨h,_⟩ | ⟨_,⟨x,hx,_⟩,_⟩
  ·rw [h];exact List.mem_cons_self
  ·cases hx
 | a,b::l,h=>by
  rcases h with ⟨_,h⟩ | ⟨_,_,h⟩
  ·cases h
  ·exact List.mem_cons_of_mem _ (Ch.zero h)
abbrev Ua:=Int×Int×Int×Bool×Int
abbrev Wa:=Int×Int×Int×Int
def VA (l:List Wa) (r:Ua):Bool:=r.2.2.1 == -1 && !r.2.2.2.1&&l.all fun t => !(t.2.2.1==r.1)
def U9 (crew:List Ua) (l:List Wa) (i:Nat):Bool:=match crew[i]? with
 | some r=>VA l r
 | none=>false
def T5 (crew:List Ua) (l:List Wa):List Nat:=((List.range crew.length).filter (U9 crew l)).take 10
theorem XW {crew:List Ua} {l:List Wa} {k:Nat} (h:k∈T5 crew l):∃ hk:k<crew.length,VA l crew[k]=true:=by
 have:=List.mem_of_mem_take h
 obtain ⟨h1,h2⟩:=List.mem_filter.1 this
 rw [List.mem_range] at h1
 refine ⟨h1, ?_⟩
 unfold U9 at h2
 rw [List.getElem?_eq_getElem h1] at h2
 exact h2
theorem XV (crew:List Ua) (l:List Wa):(T5 crew l).length≤10:=by unfold T5;rw [List.length_take];omega
theorem YR (crew:List Ua) (l:List Wa):(T5 crew l).Nodup:=(List.nodup_range.filter _).sublist (List.take_sublist _ _)
theorem YX (xs:List Nat) (k m:Nat):(xs++[k]).take m=if xs.length<m then xs.take m++[k] else xs.take m:=by
 by_cases h:xs.length<m
 ·rw [if_pos h,List.take_of_length_le (by simp;omega),List.take_of_length_le (by omega)]
 ·rw [if_neg h,List.take_append_of_le_length (by omega)]
structure CW (c:List Int) (crew:List Ua):Prop where
 gC:crew.length≤20
 fx:∀ r∈crew,1≤r.1∧r.1≤99
 gH:∀ r∈crew,RM c r.2.1=true
 goal:∀ r∈crew,r.2.2.1 = -1∨RM c r.2.2.1=true
 fY:∀ r∈crew,0≤r.2.2.2.2∧r.2.2.2.2≤1000000
 ids:crew.Pairwise fun r s=>r.1<s.1
 cD:crew.Pairwise fun r s=>r.2.1≠s.2.1
theorem SR {β:Type} (f:β→Int) (l:List β) (h:∀ i (hi:i+1<l.length),f l[i]<f l[i+1]):l.Pairwise fun x y=>f x<f y:=by
 rw [List.pairwise_iff_getElem]
 have key:∀ d i (hj:i+d+1<l.length),f (l[i]'(by omega))<f l[i+d+1]:=by
  intro d
  induction d with
  | zero=>intro i hj;exact h i hj
  | succ d ih =>
   intro i hj
   have h1:=ih i (by omega)
   have h2:=h (i+d+1) (by omega)
   have e:i+(d+1)+1=i+d+1+1:=by omega
   simp only [e]
   omega
 intro i j hi hj hij
 have:=key (j - i - 1) i (by omega)
 have e:i+(j - i - 1)+1=j:=by omega
 simpa only [e] using this
theorem Tx {c:List Int} {crew:List Ua} {i:Nat} (hi:i<crew.length):YT c crew i=true↔(1≤crew[i].1∧crew[i].1≤99)∧RM c crew[i].2.1=true∧(crew[i].2.2.1 = -1∨RM c crew[i].2.2.1=true)∧(0≤crew[i].2.2.2.2∧crew[i].2.2.2.2≤1000000) ∧
  (∀ j (hj:j+1=i),(crew[j]'(by omega)).1<crew[i].1)∧∀ j (hj:j<i),(crew[j]'(by omega)).2.1≠crew[i].2.1:=by
 have hp:QQ (·.1) crew i crew[i]=true↔∀ j (hj:j+1=i),(crew[j]'(by omega)).1<crew[i].1:=by
  cases i with
  | zero=>exact ⟨fun _ j hj=>by omega,fun _=>rfl⟩
  | succ k =>
   simp only [QQ,List.getElem?_eq_getElem (show k<crew.length by omega),Bool.not_eq_true',decide_eq_false_iff_not]
   exact ⟨fun h j hj=>by
    have:j=k:=by omega
    subst this
    omega,fun h=>by have:=h k rfl;omega⟩
 have ha:((crew.take i).all fun y => !(y.2.1==crew[i].2.1))=true↔∀ j (hj:j<i),(crew[j]'(by omega)).2.1≠crew[i].2.1:=by
  rw [List.all_eq_true]
  constructor
  ·intro h j hj
   have:=h crew[j] (List.mem_iff_getElem.2 ⟨j,by simp;omega,by simp⟩)
   simpa using this
  ·intro h y hy
   obtain ⟨j,hj,rfl⟩:=List.mem_iff_getElem.1 hy
   have hji:j<i:=by simp at hj;omega
   have:=h j hji
   simpa using this
 unfold YT
 rw [List.getElem?_eq_getElem hi]
 simp only [Bool.and_eq_true,hp,ha,Bool.or_eq_true,beq_iff_eq]
 unfold Qk
 simp only [Bool.and_eq_true,decide_eq_true_eq]
 constructor
 ·rintro ⟨⟨⟨⟨⟨h1,h2⟩,h3⟩,h4⟩,h5⟩,h6⟩;exact ⟨h1,h2,h3,h4,h5,h6⟩
 ·rintro ⟨h1,h2,h3,h4,h5,h6⟩;exact ⟨⟨⟨⟨⟨h1,h2⟩,h3⟩,h4⟩,h5⟩,h6⟩
theorem Tv {w h:Int} {c:List Int} {crew:List Ua}:SA w h c crew=true↔PV w h c=true∧CW c crew:=by
 unfold SA
 simp only [Bool.and_eq_true,decide_eq_true_eq,List.all_eq_true,List.mem_range]
 constructor
 ·rintro ⟨⟨hf,hn⟩,hall⟩
  have hr:∀ i (hi:i<crew.length),_:=fun i hi=>(Tx hi).1 (hall i hi)
  refine ⟨hf,⟨hn,fun r hr' => ?_,fun r hr' => ?_,fun r hr' => ?_,fun r hr' => ?_,SR _ _ fun i hi=>(hr (i+1) hi).2.2.2.2.1 i rfl,List.pairwise_iff_getElem.2 fun i j hi hj hij=>(hr j hj).2.2.2.2.2 i hij⟩⟩ <;>
   (obtain ⟨i,hi,rfl⟩:=List.mem_iff_getElem.1 hr')
  ·exact (hr i hi).1
  ·exact (hr i hi).2.1
  ·exact (hr i hi).2.2.1
  ·exact (hr i hi).2.2.2.1
 ·rintro ⟨hf,hw⟩
  refine ⟨⟨hf,hw.gC⟩,fun i hi=>(Tx hi).2 ?_⟩
  have hm:=List.getElem_mem hi
  exact ⟨hw.fx _ hm,hw.gH _ hm,hw.goal _ hm,hw.fY _ hm,fun j hj=>List.pairwise_iff_getElem.1 hw.ids j i (by omega) hi (by omega),fun j hj=>List.pairwise_iff_getElem.1 hw.cD j i (by omega) hi hj⟩
def fu (x:Int):Prop:=IntKind.min .u8≤x∧x≤IntKind.max .u8
theorem SV (x:Int):0≤OO .i64 x 255∧OO .i64 x 255≤255:=by
 unfold OO
 have h:(BitVec.ofInt (IntKind.bits .i64) x &&& BitVec.ofInt (IntKind.bits .i64) 255).toNat≤255:=by
  rw [BitVec.toNat_and]
  have:(BitVec.ofInt (IntKind.bits .i64) 255).toNat=255:=by decide
  rw [this]
  exact Nat.and_le_right
 generalize (BitVec.ofInt (IntKind.bits .i64) x &&& BitVec.ofInt (IntKind.bits .i64) 255).toNat=m at h
 have:IntKind.wrap .i64 (m:Int)=(m:Int):=PN (by omega) (by omega)
 rw [this]
 omega
theorem Sk (b:List Int) (i h:Int) (hi:0≤i) (hb:b.length≤1048576):∃ x i' h':Int,Pz b i h=some (x,b,i',h')∧0≤x∧x≤255∧0≤i':=by
 unfold Pz
 rw [show decide ((0:Nat)≤33)=true from rfl,show decide ((0:Nat)≤47)=true from rfl]
 simp only [cond_true]
 by_cases hl:i<(b.length:Int)
 ·obtain ⟨j,rfl⟩:∃ j:Nat,i=(j:Int):=⟨i.toNat,by omega⟩
  have hj:j<b.length:=by omega
  rw [show decide ((j:Int)<(b.length:Int))=true by simpa using hl,cond_true,PE hj]
  simp only [Option.bind_some]
  refine ⟨_,_,_,rfl,(SV _).1,(SV _).2, ?_⟩
  rw [PI hj (by omega)];omega
 ·rw [show decide (i<(b.length:Int))=false by simpa using hl,cond_false]
  simp only [Option.bind_some]
  exact ⟨_,_,_,rfl,(SV _).1,(SV _).2,hi⟩
theorem R1 (b:List Int) (i h:Int) (hi:0≤i) (hb:b.length≤1048576) (n:Int):∃ x i' h':Int,PK b i h n=some (x,b,i',h')∧0≤i'∧0≤x∧(x<n∨n≤0∧x=0):=by
 unfold PK
 by_cases h0:n≤0
 ·rw [show decide (n≤0)=true by simpa using h0,cond_true]
  exact ⟨0,i,h,rfl,hi,by omega, .inr ⟨h0,rfl⟩⟩
 rw [show decide (n≤0)=false by simpa using h0,cond_false]
 have hz:(n==0)=false:=by rw [← Bool.not_eq_true];simp;omega
 rw [hz]
 have fin:∀ x:Int,0≤x→0≤Int.tmod x n∧Int.tmod x n<n:=fun x hx=>by
  rw [Int.tmod_eq_emod_of_nonneg hx]
  exact ⟨Int.emod_nonneg _ (by omega),Int.emod_lt_of_pos _ (by omega)⟩
 obtain ⟨x,i1,h1,e1,x0,x1,j1⟩:=Sk b i h hi hb
 rw [e1]
 simp only [Option.bind_some,cond_false]
 by_cases h2:n≤256
 ·rw [show decide (n≤256)=true by simpa using h2,cond_true]
  exact ⟨_,_,_,rfl,j1,(fin x x0).1, .inl (fin x x0).2⟩
 rw [show decide (n≤256)=false by simpa using h2,cond_false]
 obtain ⟨y,i2,h2',e2,y0,y1,j2⟩:=Sk b i1 h1 j1 hb
 rw [e2]
 simp only [Option.bind_some]
 obtain ⟨z,i3,h3',e3,z0,z1,j3⟩:=Sk b i2 h2' j2 hb
 rw [e3]
 simp only [Option.bind_some]
 rw [PN (n:=x * 65536) (by omega) (by omega),PN (n:=y * 256) (by omega) (by omega),PN (n:=x * 65536+y * 256) (by omega) (by omega),PN (n:=x * 65536+y * 256+z) (by omega) (by omega)]
 exact ⟨_,_,_,rfl,j3,(fin _ (by omega)).1, .inl (fin _ (by omega)).2⟩
theorem VB (a:List Int) (ha:a.length≤1048576) (n:Nat) (hn:Pa≤n):∃ h:Int,RZ n a=some (a,0,h):=by
 obtain ⟨_,r,e,_⟩:=Te (α:=Int×Int) (γ:=Int×Int) (Q9 a) (Q9 a) (fun i x=>x.2=(i:Int)) (fun _=>True) a.length (fun i x hi hI=>by
  refine ⟨rfl, ?_⟩
  obtain ⟨h,k⟩:=x
  dsimp only at hI
  subst hI
  unfold Q9
  dsimp only
  by_cases hl:i<a.length
  ·rw [show decide ((i:Int)<(a.length:Int))=true by simp;omega,cond_true]
   simp only [Option.bind_some]
   cases decide ((i:Int)<4000) with
   | false=>exact .inr ⟨_,rfl,trivial⟩
   | true =>
    rw [cond_true,PE hl]
    exact .inl ⟨_,rfl,PI hl (by omega),hl⟩
  ·rw [show decide ((i:Int)<(a.length:Int))=false by simp;omega]
   exact .inr ⟨_,rfl,trivial⟩) n (by unfold Pa at hn;omega) (PL (275275+(a.length:Int)),0) rfl
 unfold RZ
 rw [e]
 exact ⟨r.1,rfl⟩
def Ok {α:Type} (x:Option α) (P:α→Prop):Prop:=∃ r,x=some r∧P r
section
variable {α β γ:Type} {P:α→Prop} {Q:β→Prop}
theorem Ok.pure {r:α} (h:P r):Ok (some r) P:=⟨r,rfl,h⟩
theorem Ok.bind {x:Option α} {f:α→Option β} (h:Ok x P) (hf:∀ r,P r→Ok (f r) Q):Ok (x.bind f) Q:=by
 obtain ⟨r,rfl,hr⟩:=h
 exact hf r hr
theorem Ok.cond {b:Bool} {x y:Option α} (h1:b=true→Ok x P) (h2:b=false→Ok y P):Ok (bif b then x else y) P:=by
 cases b with
 | true=>exact h1 rfl
 | false=>exact h2 rfl
theorem Ok.guard {b:Bool} {x y:Option α} (hb:b=true) (h:Ok x P):Ok (bif b then x else y) P:=by
 subst hb;exact h
theorem Ok.mono {x:Option α} {P':α→Prop} (h:Ok x P) (hp:∀ r,P r→P' r):Ok x P':=by
 obtain ⟨r,e,hr⟩:=h
 exact ⟨r,e,hp r hr⟩
theorem Ok.of {x:Option α} {r:α} (e:x=some r) (h:P r):Ok x P:=⟨r,e,h⟩
theorem Ok.ND {xs:List α} {i:Int} (h:0≤i∧i<(xs.length:Int)):Ok (Go.Ev.ND xs i) fun r=>xs[i.toNat]? = some r:=by
 obtain ⟨m,rfl⟩:∃ m:Nat,i=m:=⟨i.toNat,by omega⟩
 have hm:m<xs.length:=by omega
 exact ⟨xs[m],PE hm,by simp [hm]⟩
theorem Ok.get {xs:List α} {i:Nat} (h:i<xs.length):Ok xs[i]? fun r=>xs[i]? = some r:=⟨xs[i],List.getElem?_eq_getElem h,List.getElem?_eq_getElem h⟩
theorem T8 {xs:List α} {i:Int} (h:0≤i∧i<(xs.length:Int)):Of xs i=true:=by
 unfold Of;rw [decide_eq_true h.1,decide_eq_true h.2];rfl
theorem Ok.iter {f:α→Option (α⊕γ)} {S:γ→Prop} (R:Nat→α→Prop)
  (h:∀ k x,R k x→Ok (f x) fun y=>(∃ x',y = .inl x'∧∃ k',R k' x'∧k'<k)∨∃ z,y = .inr z∧S z) {n k:Nat} {x:α} (hR:R k x) (hk:k<n):Ok (Go.Ev.iter n f x) S:=by
 obtain ⟨z,hz,e⟩:=Ui R S (fun k x hx=>by
  obtain ⟨y,e,hy⟩:=h k x hx
  rcases hy with ⟨x',rfl,k',h1,h2⟩ | ⟨z,rfl,h1⟩
  ·exact .inr ⟨x',k',e,h1,h2⟩
  ·exact .inl ⟨z,e,h1⟩) n k x hR hk
 exact ⟨z,e,hz⟩
end
def PW {α:Type} (g:Nat→Option α):Prop:=∀ n m r,n≤m→g n=some r→g m=some r
theorem PW.const {α:Type} (x:Option α):PW fun _=>x:=fun _ _ _ _ h=>h
theorem PW.bind {α β:Type} {g:Nat→Option α} {f:Nat→α→Option β} (hg:PW g) (hf:∀ x,PW fun n=>f n x):PW fun n=>(g n).bind (f n):=by
 intro n m r hnm h
 cases hx:g n with
 | none=>simp only [hx] at h;cases h
 | some x =>
  simp only [hx,Option.bind_some] at h
  simp only [hg n m x hnm hx,Option.bind_some]
  exact hf x n m r hnm h
theorem PW.cond {α:Type} {b:Bool} {g h:Nat→Option α} (hg:PW g) (hh:PW h):PW fun n=>bif b then g n else h n:=by
 cases b with
 | true=>exact hg
 | false=>exact hh
theorem PW.sum {α β γ:Type} {x:α⊕β} {g:α→Nat→Option γ} {h:β→Nat→Option γ} (hg:∀ a,PW (g a)) (hh:∀ b,PW (h b)):PW fun n=>(match x with | .inl a=>g a n | .inr b=>h b n):=by
 cases x with
 | inl a=>exact hg a
 | inr b=>exact hh b
theorem PW.iter {α γ:Type} {L:Nat→α→Option (α⊕γ)} (hL:∀ x,PW fun n=>L n x) (x0:α):PW fun n=>Go.Ev.iter n (L n) x0:=by
 have key:∀ (k n m:Nat) (x:α) (r:γ),n≤m→k≤k+0→Go.Ev.iter k (L n) x=some r→∀ j,k≤j→Go.Ev.iter j (L m) x=some r:=by
  intro k
  induction k with
  | zero=>intro n m x r _ _ h;simp [Go.Ev.iter] at h
  | succ k ih =>
   intro n m x r hnm _ h j hj
   obtain ⟨j,rfl⟩:∃ i,j=i+1:=⟨j - 1,by omega⟩
   simp only [Go.Ev.iter] at h ⊢
   cases hx:L n x with
   | none=>rw [hx] at h;cases h
   | some y =>
    rw [hx] at h
    have h2:L m x=some y:=hL x n m y hnm hx
    rw [h2]
    cases y with
    | inl x'=>exact ih n m x' r hnm (by omega) h j (by omega)
    | inr z=>exact h
 intro n m r hnm h
 exact key n n m x0 r hnm (by omega) h m hnm
def Cu (b:List Int) (i:Int):Prop:=b.length≤1048576∧0≤i
theorem Qv {b:List Int} {i c:Int} (h:Cu b i) (m:Int):Ok (PK b i c m) fun x=>Cu x.2.1 x.2.2.1∧0≤x.1∧(0<m→x.1<m):=by
 obtain ⟨x,i',h',e,h1,h2,h3⟩:=R1 b i c h.2 h.1 m
 exact ⟨_,e,⟨h.1,h1⟩,h2,fun hm=>by rcases h3 with h3 | h3 <;> omega⟩
theorem UB {b:List Int} {i c:Int} (h:Cu b i) (m:Int):Ok (Pg b i c m) fun x=>Cu x.2.1 x.2.2.1:=by
 unfold Pg
 exact (Qv h m).bind fun r hr=>Ok.pure hr.1
theorem ok_int {b:List Int} {i c:Int} (h:Cu b i) {xs:List Int} (hx:0<xs.length):Ok (PX b i c xs) fun x=>Cu x.2.1 x.2.2.1∧x.1∈xs:=by
 unfold PX
 refine (Qv h _).bind fun r hr=>(Ok.ND ⟨hr.2.1,hr.2.2 (by omega)⟩).bind fun v hv=>Ok.pure ⟨hr.1,List.mem_of_getElem? hv⟩
theorem Xa {b:List Int} {i c:Int} (h:Cu b i) {xs:List (List UInt8)} (hx:0<xs.length):Ok (Ra b i c xs) fun x=>Cu x.2.1 x.2.2.1∧x.1∈xs:=by
 unfold Ra
 refine (Qv h _).bind fun r hr=>(Ok.ND ⟨hr.2.1,hr.2.2 (by omega)⟩).bind fun v hv=>Ok.pure ⟨hr.1,List.mem_of_getElem? hv⟩
theorem UX (s:List UInt8) (b:Int):PW fun n=>Qy n s b:=by
 unfold Qy
 exact PW.bind (PW.iter (L:=fun _=>R8 s b) (fun _=>PW.const _) _) fun _=>PW.const _
theorem Un (c:Int):PW fun n=>RF n c:=by
 unfold RF
 exact PW.bind (PW.iter (L:=fun _=>SH c) (fun _=>PW.const _) _) fun x=>PW.const _
theorem UW (s:List UInt8):PW fun n=>Pd n s:=by
 unfold Pd
 refine PW.bind (UX s 10) fun x1=>PW.cond (PW.bind (PW.const _) fun x2=>PW.bind (PW.iter (L:=fun n=>Qd n x1) (fun x3 => ?_) _) fun _=>PW.const _) (PW.const _)
 unfold Qd
 refine PW.cond (PW.bind (PW.const _) fun x5=>PW.cond (PW.const _) (PW.bind (PW.const _) fun x9=>PW.cond (PW.const _) (PW.bind (PW.iter (L:=fun n=>Qe n x1 x3) (fun x10 => ?_) _) fun _=>PW.const _))) (PW.const _)
 unfold Qe
 refine PW.cond (PW.bind (PW.const _) fun _=>PW.cond (PW.cond (PW.bind (PW.const _) fun _=>PW.bind (PW.const _) fun _=>PW.bind (Un _) fun _=>PW.const _) (PW.const _)) (PW.const _)) (PW.const _)
def SP:List (List UInt8):=[[99,46,46,46,46,46,10,46,112,112,46,112,46,10,46,112,112,46,112,46,10,46,46,46,46,46,115,10],[99,46,46,10,46,46,46,10,46,46,115,10],[46,46,46,46,46,10,46,112,35,112,46,10,46,46,115,46,46,10,46,112,35,112,46,10,99,46,46,46,99,10],[46,46,46,35,46,46,46,10,46,46,46,46,46,46,46,10,46,46,46,35,46,46,46,10],[99,46,46,46,46,46,46,46,10,46,112,46,112,46,112,46,46,10,46,46,46,46,46,46,46,115,10,46,112,46,112,46,112,46,46,10,99,46,46,46,46,46,46,115,10],[46,46,10,46,46,10],[99,46,35,46,115,10,46,46,35,46,46,10]]
def T9 (s:List UInt8):Bool:=match Pd 60 s with
 | some (w,h,c,b)=>PV w h c&&b == -1&&decide (0<c.length)
 | none=>false
theorem Tl:SP.all T9=true:=by kernel_rfl
theorem VG {s:List UInt8} (h:T9 s=true) (n:Nat) (hn:Pa≤n):Ok (Pd n s) fun x=>PV x.1 x.2.1 x.2.2.1=true∧x.2.2.2 = -1∧0<x.2.2.1.length:=by
 unfold T9 at h
 cases hp:Pd 60 s with
 | none=>rw [hp] at h;cases h
 | some x =>
  rw [hp] at h
  obtain ⟨w,q,c,b⟩:=x
  simp only [Bool.and_eq_true,beq_iff_eq,decide_eq_true_eq] at h
  exact ⟨_,UW s 60 n _ (by unfold Pa at hn;omega) hp,h.1.1,h.1.2,h.2⟩
theorem UU (n:Nat) (hn:Pa≤n) {b:List Int} {i c:Int} (h:Cu b i):Ok (Qx n b i c) fun x=>PV x.1 x.2.1 x.2.2.1=true∧0<x.2.2.1.length∧Cu x.2.2.2.1 x.2.2.2.2.1:=by
 unfold Qx
 refine (UB h 3).bind fun r hr=>Ok.cond (fun _ => ?_) fun _ => ?_
 ·refine (Xa hr (xs:=SP) (by simp [SP])).bind fun t ht => ?_
  refine (VG (List.all_eq_true.1 Tl _ ht.2) n hn).bind fun x hx=>Ok.pure ⟨hx.1,hx.2.2,ht.1⟩
 ·refine (Qv hr 7).bind fun x hx=>(Qv hx.1 6).bind fun y hy => ?_
  have x1:=hx.2.2 (by omega)
  have y1:=hy.2.2 (by omega)
  have x0:=hx.2.1
  have y0:=hy.2.1
  rw [PN (n:=1+x.1) (by omega) (by omega),PN (n:=1+y.1) (by omega) (by omega)]
  generalize hW:1+x.1=W
  generalize hH:1+y.1=H
  have hWH:W * H≤100∧1≤W * H:=by
   have a1:1≤W:=by omega
   have a2:W≤10:=by omega
   have a3:1≤H:=by omega
   have a4:H≤10:=by omega
   have h1:W * H≤10 * H:=Int.mul_le_mul_of_nonneg_right a2 (by omega)
   have h2:1 * H≤W * H:=Int.mul_le_mul_of_nonneg_right a1 (by omega)
   omega
  refine Ok.bind (P:=fun z=>PV W H z.2.2.2.2.2.2=true∧0<z.2.2.2.2.2.2.length∧z.2.2.2.2.1=W∧z.2.2.2.2.2.1=H∧Cu z.2.1 z.2.2.1) (Ok.iter (fun k z=>z.1+(k:Int)=W * H∧0≤z.1∧(z.2.2.2.2.2.2.length:Int)=z.1∧(z.2.2.2.2.2.2.all fun k=>Qk k 0 4)=true∧z.2.2.2.2.1=W∧z.2.2.2.2.2.1=H∧Cu z.2.1 z.2.2.1) (fun k z hz => ?_) (k:=(W * H).toNat) ⟨by show (0:Int)+_=_;omega,by show (0:Int)≤0;omega,rfl,rfl,rfl,rfl,hy.1⟩ (by unfold Pa at hn;omega)) fun z hz => ?_
  ·obtain ⟨z1,z2,z3,z4,z5,z6,z7⟩:=hz
   unfold R7
   rw [z5,z6,PN (n:=W * H) (by omega) (by omega)]
   refine Ok.cond (fun hb => ?_) fun hb => ?_
   ·have hb:=of_decide_eq_true hb
    refine (ok_int z7 (by simp)).bind fun v hv=>Ok.guard (Sl (by omega)) (Ok.pure (.inl ⟨_,rfl,k - 1,⟨?_, ?_, ?_, ?_,rfl,rfl,hv.1⟩,by omega⟩))
    ·show PL (z.1+1)+_=_
     rw [PN (by omega) (by omega)];omega
    ·show 0≤PL (z.1+1)
     rw [PN (by omega) (by omega)];omega
    ·show ((z.2.2.2.2.2.2++[v.1]).length:Int)=PL (z.1+1)
     rw [PN (by omega) (by omega)];simp;omega
    ·show ((z.2.2.2.2.2.2++[v.1]).all fun k=>Qk k 0 4)=true
     rw [List.all_append,z4]
     have hv2:=hv.2
     simp only [List.mem_cons,List.not_mem_nil,or_false] at hv2
     rcases hv2 with e | e | e | e | e | e | e | e | e | e <;> rw [e] <;> rfl
   ·have hb:=of_decide_eq_false hb
    refine Ok.pure (.inr ⟨_,rfl, ?_, ?_,rfl,rfl,z7⟩)
    ·show PV W H z.2.2.2.2.2.2=true
     unfold PV
     rw [z4,PN (n:=W * H) (by omega) (by omega),show ((z.2.2.2.2.2.2.length:Int)==W * H)=true by rw [beq_iff_eq];omega]
     unfold Qk
     rw [decide_eq_true (show 1≤W by omega),decide_eq_true (show W≤10 by omega),decide_eq_true (show 1≤H by omega),decide_eq_true (show H≤10 by omega)]
     rfl
    ·show 0<z.2.2.2.2.2.2.length
     omega
  ·obtain ⟨z1,z2,z3,z4,z5⟩:=hz
   refine Ok.pure ⟨?_,z2,z5⟩
   show PV z.2.2.2.2.1 z.2.2.2.2.2.1 z.2.2.2.2.2.2=true
   rw [z3,z4];exact z1
theorem Uj (b:List Int) (i h:Int) (hi:0≤i) (hb:b.length≤1048576) (n:Int):∃ (x:Bool) (i' h':Int),Pg b i h n=some (x,b,i',h')∧0≤i':=by
 obtain ⟨x,i',h',e,hi',_⟩:=R1 b i h hi hb n
 unfold Pg
 rw [e]
 exact ⟨_,_,_,rfl,hi'⟩
theorem UG (b:List Int) (i h:Int) (hi:0≤i) (hb:b.length≤1048576) (xs:List Int) (hx:0<xs.length):∃ x i' h':Int,PX b i h xs=some (x,b,i',h')∧0≤i'∧x∈xs:=by
 obtain ⟨x,i',h',e,hi',x0,x1⟩:=R1 b i h hi hb (xs.length:Int)
 unfold PX
 rw [e,Option.bind_some]
 obtain ⟨k,rfl⟩:∃ k:Nat,x=(k:Int):=⟨x.toNat,by omega⟩
 have hk:k<xs.length:=by omega
 dsimp only
 rw [PE hk,Option.bind_some]
 exact ⟨_,_,_,rfl,hi',List.getElem_mem hk⟩
def Tk (l:List PH):Prop:=l.Pairwise (fun a b=>a.1<b.1)∧(∀ x∈l,1≤x.1∧x.1≤50∧1≤x.2.1∧x.2.1≤1000∧0≤x.2.2∧x.2.2≤x.2.1)∧l.length≤8
def R9 (a:List Qj):Prop:=a.length≤12∧a.Pairwise (fun x y=>x.1<y.1∧x.2.1≠y.2.1)∧∀ p∈a,(1≤p.1∧p.1≤999)∧(0≤p.2.1∧p.2.1≤99)∧Tk p.2.2
theorem UI {β:Type} {key:β→Int} {a:List β} {R:β→β→Prop} (h:a.Pairwise R) (hR:∀ x y,R x y→key x<key y) (i:Nat) (hi:i<a.length):QQ key a i a[i]=true:=by
 cases i with
 | zero=>rfl
 | succ j =>
  have:=hR _ _ (List.pairwise_iff_getElem.1 h j (j+1) (by omega) hi (by omega))
  simp only [QQ,List.getElem?_eq_getElem (show j<a.length by omega)]
  simpa using this
theorem Tk.ok {l:List PH} (h:Tk l):PZ l=true:=by
 obtain ⟨h1,h2,h3⟩:=h
 unfold PZ
 simp only [Bool.and_eq_true,List.all_eq_true,List.mem_range,decide_eq_true_eq]
 refine ⟨fun i hi => ?_,h3⟩
 obtain ⟨a1,a2,a3,a4,a5,a6⟩:=h2 _ (List.getElem_mem hi)
 simp only [Q1,List.getElem?_eq_getElem hi,UI h1 (fun x y h=>h) i hi,Qk,Bool.and_eq_true,decide_eq_true_eq]
 exact ⟨⟨⟨⟨a1,a2⟩,a3,a4⟩,a5,a6⟩,trivial⟩
theorem R9.ok {a:List Qj} (h:R9 a):Ph a=true:=by
 obtain ⟨h1,h2,h3⟩:=h
 unfold Ph
 simp only [Bool.and_eq_true,List.all_eq_true,List.mem_range,decide_eq_true_eq]
 refine ⟨h1,fun i hi => ?_⟩
 obtain ⟨⟨a1,a2⟩,⟨a3,a4⟩,a5⟩:=h3 _ (List.getElem_mem hi)
 have hp:=UI (key:=(·.1)) h2 (fun x y h=>h.1) i hi
 have hh:((a.take i).all fun y => !(y.2.1==a[i].2.1))=true:=List.all_eq_true.2 fun y hy=>by
  obtain ⟨j,hj,rfl⟩:=List.getElem_of_mem hy
  have hj':j<i:=by rw [List.length_take] at hj;omega
  have:=(List.pairwise_iff_getElem.1 h2 j i (by omega) hi hj').2
  rw [List.getElem_take]
  simpa using this
 simp only [SO,List.getElem?_eq_getElem hi,hp,hh,a5.ok,Qk,Bool.and_eq_true,decide_eq_true_eq]
 exact ⟨⟨⟨⟨⟨a1,a2⟩,a3,a4⟩,trivial⟩,trivial⟩,trivial⟩
theorem R9.sm {a:List Qj} (h:R9 a):PY a:=⟨by have:=h.1;omega,fun y hy=>by show y.2.2.length≤_;have:=(h.2.2 y hy).2.2.2.2;omega⟩
theorem Ul (n:Nat) (hn:Pa≤n) (b:List Int) (hb:b.length≤1048576) (ci ch:Int) (hci:0≤ci) (id home:Int) :
  ∃ (c:Int) (ci' ch':Int) (l:List PH),iter n Py (1,b,ci,ch,id,home,([]:List PH))=some (c,b,ci',ch',id,home,l)∧0≤ci'∧Tk l:=by
 obtain ⟨_,r,e,hr⟩:=Te Py Py (fun i (x:Int×(List Int)×Int×Int×Int×Int×(List PH))=>x.1=(i:Int)+1∧i≤5∧x.2.1=b∧0≤x.2.2.1∧x.2.2.2.2.1=id∧x.2.2.2.2.2.1=home∧x.2.2.2.2.2.2.Pairwise (fun a b=>a.1<b.1)∧(∀ y∈x.2.2.2.2.2.2,1≤y.1∧y.1≤(i:Int)∧1≤y.2.1∧y.2.1≤1000∧0≤y.2.2∧y.2.2≤y.2.1)∧x.2.2.2.2.2.2.length≤i)
  (fun r=>r.2.1=b∧0≤r.2.2.1∧r.2.2.2.2.1=id∧r.2.2.2.2.2.1=home∧Tk r.2.2.2.2.2.2) 5 (fun i x hi hI=>by
  refine ⟨rfl, ?_⟩
  obtain ⟨s,b0,ci,ch,id0,home0,l⟩:=x
  obtain ⟨h1,h2,h3,h4,h5,h6,h7,h8,h9⟩:=hI
  dsimp only at h1 h3 h4 h5 h6 h7 h8 h9
  subst h1;subst h3;subst h5;subst h6
  by_cases h5:i<5
  ·left
   obtain ⟨v,i1,g1,e1,j1,m1⟩:=UG b0 ci ch h4 hb [0,0,1,3,5,12] (by simp)
   have hv:0≤v∧v≤12:=by
    simp at m1
    omega
   unfold Py
   dsimp only
   rw [show decide ((i:Int)+1<6)=true by simp;omega,cond_true,e1,Option.bind_some]
   dsimp only
   rw [PN (n:=(i:Int)+1+1) (by omega) (by omega)]
   by_cases hv0:v>0
   ·rw [show decide (v>0)=true by simpa using hv0,cond_true,PN (n:=v+1) (by omega) (by omega)]
    obtain ⟨u,i2,g2,e2,j2,u0,u1⟩:=R1 b0 i1 g1 j1 hb (v+1)
    rw [e2,Option.bind_some]
    dsimp only
    obtain ⟨t,i3,g3,e3,j3,m3⟩:=UG b0 i2 g2 j2 hb [0,0,0,u] (by simp)
    have ht:0≤t∧t≤v:=by
     simp at m3
     omega
    rw [e3,Option.bind_some]
    dsimp only
    rw [show decide (l.length+[((i:Int)+1,v,t)].length≤DZ)=true from Sl (by omega),cond_true,Option.bind_some]
    refine ⟨_,rfl,⟨by show (i:Int)+1+1=((i+1:Nat):Int)+1;omega,by omega,rfl,j3,rfl,rfl, ?_, ?_, ?_⟩,h5⟩
    ·refine List.pairwise_append.2 ⟨h7,List.pairwise_singleton _ _,fun x hx y hy => ?_⟩
     rw [List.mem_singleton.1 hy]
     have:=h8 x hx
     show x.1<(i:Int)+1
     omega
    ·intro y hy
     rcases List.mem_append.1 hy with hy | hy
     ·obtain ⟨q1,q2,q3⟩:=h8 y hy
      exact ⟨q1,by omega,q3⟩
     ·rw [List.mem_singleton.1 hy]
      refine ⟨by show 1≤(i:Int)+1;omega,by show (i:Int)+1≤((i+1:Nat):Int);omega,by show 1≤v;omega,by show v≤1000;omega,ht.1,ht.2⟩
    ·show (l++[_]).length≤i+1
     rw [List.length_append,List.length_singleton];omega
   ·rw [show decide (v>0)=false by simpa using hv0,cond_false,Option.bind_some]
    refine ⟨_,rfl,⟨by show (i:Int)+1+1=((i+1:Nat):Int)+1;omega,by omega,rfl,j1,rfl,rfl,h7,fun y hy => ?_,by show l.length≤i+1;omega⟩,h5⟩
    obtain ⟨q1,q2,q3⟩:=h8 y hy
    exact ⟨q1,by omega,q3⟩
  ·right
   have:i=5:=by omega
   subst this
   refine ⟨_,by unfold Py;rfl,rfl,h4,rfl,rfl,h7,fun y hy => ?_,by show l.length≤8;omega⟩
   obtain ⟨q1,q2,q3⟩:=h8 y hy
   exact ⟨q1,by omega,q3⟩) n (by unfold Pa at hn;omega) (1,b,ci,ch,id,home,([]:List PH)) ⟨rfl,by omega,rfl,hci,rfl,rfl,List.Pairwise.nil,(fun y hy=>by cases hy),by simp⟩
 obtain ⟨c,b0,ci',ch',id0,home0,l⟩:=r
 obtain ⟨h1,h2,h3,h4,h5⟩:=hr
 dsimp only at h1 h2 h3 h4 h5
 subst h1;subst h3;subst h4
 exact ⟨c,ci',ch',l,e,h2,h5⟩
theorem Um (n:Nat) (hn:Pa≤n) (b:List Int) (hb:b.length≤1048576) (ci ch:Int) (hci:0≤ci) :
  ∃ (s:List Qj) (ci' ch':Int),RH n b ci ch=some (s,b,ci',ch')∧0≤ci'∧R9 s:=by
 obtain ⟨_,r,e,hr⟩:=Te (QI n) (QI n) (fun i (x:Int×(List Int)×Int×Int×(List Qj))=>x.1=(i:Int)+1∧i≤5∧x.2.1=b∧0≤x.2.2.1∧x.2.2.2.2.length≤i∧x.2.2.2.2.Pairwise (fun x y=>x.1<y.1∧x.2.1≠y.2.1)∧∀ p∈x.2.2.2.2,(1≤p.1∧p.1≤10 * (i:Int))∧(20 - (i:Int)≤p.2.1∧p.2.1≤19)∧Tk p.2.2)
  (fun r=>r.2.1=b∧0≤r.2.2.1∧R9 r.2.2.2.2) 5 (fun i x hi hI=>by
  refine ⟨rfl, ?_⟩
  obtain ⟨s,b0,ci,ch,l⟩:=x
  obtain ⟨h1,h2,h3,h4,h5,h6,h7⟩:=hI
  dsimp only at h1 h3 h4 h5 h6 h7
  subst h1;subst h3
  by_cases hlt:i<5
  ·left
   obtain ⟨v,i1,g1,e1,j1⟩:=Uj b0 ci ch h4 hb 4
   unfold QI
   dsimp only
   rw [show decide ((i:Int)+1<6)=true by simp;omega,cond_true,e1,Option.bind_some]
   dsimp only
   rw [PN (n:=(i:Int)+1+1) (by omega) (by omega)]
   have more:∀ p∈l,(1≤p.1∧p.1≤10 * ((i+1:Nat):Int))∧(20 - ((i+1:Nat):Int)≤p.2.1∧p.2.1≤19)∧Tk p.2.2:=fun p hp=>by
    obtain ⟨⟨q1,q2⟩,⟨q3,q4⟩,q5⟩:=h7 p hp
    exact ⟨⟨q1,by omega⟩,⟨by omega,q4⟩,q5⟩
   cases v with
   | true =>
    rw [cond_true,Option.bind_some]
    exact ⟨_,rfl,⟨by show (i:Int)+1+1=((i+1:Nat):Int)+1;omega,by omega,rfl,j1,by show l.length≤i+1;omega,h6,more⟩,hlt⟩
   | false =>
    rw [cond_false,PN (n:=((i:Int)+1) * 10) (by omega) (by omega),PN (n:=20 - ((i:Int)+1)) (by omega) (by omega)]
    obtain ⟨c,ci',ch',st,e2,j2,hst⟩:=Ul n hn b0 hb i1 g1 j1 (((i:Int)+1) * 10) (20 - ((i:Int)+1))
    rw [e2,Option.bind_some]
    dsimp only
    rw [show decide (l.length+[(((i:Int)+1) * 10,20 - ((i:Int)+1),st)].length≤DZ)=true from Sl (by omega),cond_true,Option.bind_some]
    refine ⟨_,rfl,⟨by show (i:Int)+1+1=((i+1:Nat):Int)+1;omega,by omega,rfl,j2, ?_, ?_, ?_⟩,hlt⟩
    ·show (l++[_]).length≤i+1
     rw [List.length_append,List.length_singleton];omega
    ·refine List.pairwise_append.2 ⟨h6,List.pairwise_singleton _ _,fun x hx y hy => ?_⟩
     rw [List.mem_singleton.1 hy]
     obtain ⟨⟨q1,q2⟩,⟨q3,q4⟩,_⟩:=h7 x hx
     show x.1<((i:Int)+1) * 10∧x.2.1≠20 - ((i:Int)+1)
     omega
    ·intro p hp
     rcases List.mem_append.1 hp with hp | hp
     ·exact more p hp
     ·rw [List.mem_singleton.1 hp]
      refine ⟨⟨by show 1≤((i:Int)+1) * 10;omega,by show ((i:Int)+1) * 10≤10 * ((i+1:Nat):Int);omega⟩,⟨by show 20 - ((i+1:Nat):Int)≤20 - ((i:Int)+1);omega,by show 20 - ((i:Int)+1)≤19;omega⟩,hst⟩
  ·right
   have:i=5:=by omega
   subst this
   refine ⟨_,by unfold QI;rfl,rfl,h4,by show l.length≤12;omega,h6,fun p hp => ?_⟩
   obtain ⟨⟨q1,q2⟩,⟨q3,q4⟩,q5⟩:=h7 p hp
   exact ⟨⟨q1,by omega⟩,⟨by omega,by omega⟩,q5⟩) n (by unfold Pa at hn;omega) (1,b,ci,ch,([]:List Qj)) ⟨rfl,by omega,rfl,hci,by simp,List.Pairwise.nil,fun y hy=>by cases hy⟩
 obtain ⟨c,b0,ci',ch',s⟩:=r
 obtain ⟨h1,h2,h3⟩:=hr
 dsimp only at h1 h2 h3
 subst h1
 unfold RH
 rw [e]
 exact ⟨s,ci',ch',rfl,h2,h3⟩
theorem Uk (n:Nat) (hn:Pa≤n) {b:List Int} {i q:Int} (hcu:Cu b i) (a:List Qj) (ha:a.length≤1000) (hs:∀ p∈a,p.2.2.length≤1000):Ok (RG n b i q a) fun x=>(x.1.length≤a.length+1∧∀ p∈x.1,p.2.2.length≤1001)∧Cu x.2.1 x.2.2.1:=by
 have hsm:PY a:=⟨by show a.length≤_;clear hn;omega,fun y hy=>by show y.2.2.length≤_;have:=hs y hy;clear hn;omega⟩
 unfold RG
 rw [SJ a hsm n hn,Option.bind_some]
 have keep:a.length≤a.length+1∧∀ p∈a,p.2.2.length≤1001:=⟨by clear hn;omega,fun p hp=>by have:=hs p hp;clear hn;omega⟩
 refine Ok.cond (fun _=>Ok.pure ⟨keep,hcu⟩) fun hne => ?_
 have h0:0<a.length:=by
  rcases Nat.eq_zero_or_pos a.length with e | e
  ·rw [e] at hne;simp at hne
  ·exact e
 refine (Qv hcu _).bind fun r hr => ?_
 have hr2:=hr.2.2 (by clear hn;omega)
 have hi:=T8 (xs:=a) ⟨hr.2.1,hr2⟩
 obtain ⟨m,hm⟩:∃ m:Nat,r.1=(m:Int):=⟨r.1.toNat,by have:=hr.2.1;clear hn;omega⟩
 have hml:m<a.length:=by clear hn;omega
 rw [hm] at hi ⊢
 rw [Int.toNat_natCast]
 have modK:∀ (f:Qj→Qj),(∀ p∈a,(f p).2.2.length≤1001)→(a.modify m f).length≤a.length+1∧∀ p∈a.modify m f,p.2.2.length≤1001:=fun f hf=>by
  refine ⟨by simp,fun p hp => ?_⟩
  obtain ⟨j,hj,rfl⟩:=List.mem_iff_getElem.1 hp
  have hja:j<a.length:=by simpa using hj
  have:(a.modify m f)[j]? = some (if m=j then f a[j] else a[j]):=by
   rw [List.getElem?_modify,List.getElem?_eq_getElem hja];rfl
  rw [List.getElem?_eq_getElem hj] at this
  injection this with this
  rw [this]
  split
  ·exact hf _ (List.getElem_mem hja)
  ·exact keep.2 _ (List.getElem_mem hja)
 have row:∀ p∈a,∀ x:PH,decide (p.2.2.length+[x].length≤DZ)=true:=fun p hp x=>Sl (by have:=hs p hp;clear hn;omega)
 refine Ok.bind (P:=fun x=>(x.2.2.2.length≤a.length+1∧∀ p∈x.2.2.2,p.2.2.length≤1001)∧Cu x.1 x.2.1) ((Qv hr.1 6).bind fun y hy=>Ok.cond (fun _=>(ok_int hy.1 (by simp)).bind fun v hv=>Ok.guard hi (Ok.pure ⟨modK (fun y=>(v.1,y.2.1,y.2.2)) fun p hp=>keep.2 p hp,hv.1⟩)) fun _=>Ok.cond (fun _=>(ok_int hy.1 (by simp)).bind fun v hv=>Ok.guard hi (Ok.pure ⟨modK (fun y=>(y.1,v.1,y.2.2)) fun p hp=>keep.2 p hp,hv.1⟩)) fun _=>Ok.cond (fun _=>Ok.guard hi ?_) fun _=>Ok.cond (fun _=>Ok.guard (T8 ⟨by omega,by clear hn;omega⟩) ?_) fun _=>Ok.pure ⟨keep,hy.1⟩) fun x hx=>Ok.pure hx
 ·refine (Ok.get hml).bind fun p0 hp0=>(ok_int hy.1 (by simp)).bind fun v hv=>(Qv hv.1 3).bind fun u hu=>(Ok.get hml).bind fun p hp => ?_
  have hpm:p∈a:=List.mem_of_getElem? hp
  refine Ok.guard (row p hpm (9,v.1,u.1)) (Ok.guard hi (Ok.pure ⟨modK _ fun p' _ => ?_,hu.1⟩))
  show (p.2.2++[_]).length≤1001
  rw [List.length_append,List.length_singleton]
  have:=hs p hpm
  clear hn;omega
 ·rw [Int.toNat_zero]
  refine (Ok.get h0).bind fun p hp=>(Ok.get h0).bind fun p2 hp2=>Ok.guard (Sl (by clear hn;omega)) (Ok.pure ⟨⟨by rw [List.length_append,List.length_singleton];exact Nat.le_refl _,fun x hx => ?_⟩,hy.1⟩)
  rcases List.mem_append.1 hx with hx | hx
  ·exact keep.2 x hx
  ·rw [List.mem_singleton.1 hx]
   exact keep.2 p2 (List.mem_of_getElem? hp2)
theorem UA (n:Nat) (hn:Pa≤n) {b:List Int} {i q:Int} (hcu:Cu b i):Ok (QH n b i q) fun x=>(x.1.length≤13∧∀ p∈x.1,p.2.2.length≤1001)∧Cu x.2.1 x.2.2.1:=by
 unfold QH
 obtain ⟨s,ci,ch,e,h1,h2⟩:=Um n hn b hcu.1 i q hcu.2
 have hcu2:Cu b ci:=⟨hcu.1,h1⟩
 refine (Ok.of (P:=fun x=>x=(s,b,ci,ch)) e rfl).bind fun x hx => ?_
 subst hx
 have h12:=h2.1
 have h8:∀ p∈s,p.2.2.length≤8:=fun p hp=>(h2.2.2 p hp).2.2.2.2
 refine Ok.bind (P:=fun x=>(x.2.2.2.length≤13∧∀ p∈x.2.2.2,p.2.2.length≤1001)∧Cu x.1 x.2.1) ((UB hcu2 8).bind fun o ho=>Ok.cond (fun _=>(Uk n hn ho s (by clear hn;omega) (fun p hp=>by have:=h8 p hp;clear hn;omega)).bind fun x hx=>Ok.pure ⟨⟨by show x.1.length≤13;have:=hx.1.1;clear hn;omega,hx.1.2⟩,hx.2⟩) fun _=>Ok.pure ⟨⟨by show s.length≤13;clear hn;omega,fun p hp=>by have:=h8 p hp;clear hn;omega⟩,ho⟩) fun x hx=>Ok.pure hx
theorem Ss {β:Type} (key:β→Int) (a:List β) (i:Nat) (hi:i<a.length):QQ key a i a[i]=true↔∀ j (hj:j+1=i),key (a[j]'(by omega))<key a[i]:=by
 cases i with
 | zero=>exact ⟨fun _ j hj=>by omega,fun _=>rfl⟩
 | succ k =>
  simp only [QQ,List.getElem?_eq_getElem (show k<a.length by omega),Bool.not_eq_true',decide_eq_false_iff_not]
  exact ⟨fun h j hj=>by
   have:j=k:=by omega
   subst this
   omega,fun h=>by have:=h k rfl;omega⟩
theorem Sg {l:List PH}:PZ l=true↔Tk l:=by
 constructor
 ·intro h
  unfold PZ at h
  simp only [Bool.and_eq_true,List.all_eq_true,List.mem_range,decide_eq_true_eq] at h
  obtain ⟨h1,h2⟩:=h
  have each:∀ i (hi:i<l.length),(1≤l[i].1∧l[i].1≤50)∧(1≤l[i].2.1∧l[i].2.1≤1000)∧(0≤l[i].2.2∧l[i].2.2≤l[i].2.1)∧∀ j (hj:j+1=i),(l[j]'(by omega)).1<l[i].1:=fun i hi=>by
   have:=h1 i hi
   unfold Q1 at this
   rw [List.getElem?_eq_getElem hi] at this
   unfold Qk at this
   simp only [Bool.and_eq_true,decide_eq_true_eq,Ss (·.1) l i hi] at this
   exact ⟨this.1.1.1,this.1.1.2,this.1.2,this.2⟩
  refine ⟨SR _ _ fun i hi=>(each (i+1) hi).2.2.2 i rfl,fun x hx => ?_,h2⟩
  obtain ⟨i,hi,rfl⟩:=List.mem_iff_getElem.1 hx
  obtain ⟨e1,e2,e3,_⟩:=each i hi
  exact ⟨e1.1,e1.2,e2.1,e2.2,e3.1,e3.2⟩
 ·exact Tk.ok
theorem UL {a:List Qj}:Ph a=true↔R9 a:=by
 constructor
 ·intro h
  unfold Ph at h
  simp only [Bool.and_eq_true,List.all_eq_true,List.mem_range,decide_eq_true_eq] at h
  obtain ⟨h1,h2⟩:=h
  have each:∀ i (hi:i<a.length),(1≤a[i].1∧a[i].1≤999)∧(0≤a[i].2.1∧a[i].2.1≤99)∧Tk a[i].2.2∧(∀ j (hj:j+1=i),(a[j]'(by omega)).1<a[i].1)∧∀ j (hj:j<i),(a[j]'(by omega)).2.1≠a[i].2.1:=fun i hi=>by
   have:=h2 i hi
   unfold SO at this
   rw [List.getElem?_eq_getElem hi] at this
   unfold Qk at this
   simp only [Bool.and_eq_true,decide_eq_true_eq,Ss (·.1) a i hi,Sg,List.all_eq_true] at this
   refine ⟨this.1.1.1.1,this.1.1.1.2,this.1.1.2,this.1.2,fun j hj => ?_⟩
   have:=this.2 (a[j]'(by omega)) (List.mem_iff_getElem.2 ⟨j,by simp;omega,by simp⟩)
   simpa using this
  have ids:=SR (fun x:Qj=>x.1) a fun i hi=>(each (i+1) hi).2.2.2.1 i rfl
  refine ⟨h1,List.pairwise_iff_getElem.2 fun i j hi hj hij=>⟨List.pairwise_iff_getElem.1 ids i j hi hj hij,(each j hj).2.2.2.2 i hij⟩,fun p hp => ?_⟩
  obtain ⟨i,hi,rfl⟩:=List.mem_iff_getElem.1 hp
  obtain ⟨e1,e2,e3,_⟩:=each i hi
  exact ⟨e1,e2,e3⟩
 ·exact R9.ok
def Pe (c:List Int) (k:Int):Nat→List Int
 | 0=>[]
 | i+1=>bif c.getD i 0==k then Pe c k i++[(i:Int)] else Pe c k i
theorem RR (c:List Int) (k:Int):∀ i,(Pe c k i).length≤i
 | 0=>Nat.le_refl _
 | i+1=>by
  have:=RR c k i
  unfold Pe
  cases (c.getD i 0==k)
  ·simp only [cond_false];omega
  ·simp only [cond_true,List.length_append,List.length_singleton];omega
theorem Ru {c:List Int} {k x:Int}:∀ {i},x∈Pe c k i→∃ j:Nat,x=(j:Int)∧j<i∧c.getD j 0=k
 | 0,h=>by cases h
 | i+1,h=>by
  unfold Pe at h
  cases hb:(c.getD i 0==k) with
  | false =>
   rw [hb,cond_false] at h
   obtain ⟨j,h1,h2,h3⟩:=Ru h
   exact ⟨j,h1,by omega,h3⟩
  | true =>
   rw [hb,cond_true,List.mem_append,List.mem_singleton] at h
   rcases h with h | h
   ·obtain ⟨j,h1,h2,h3⟩:=Ru h
    exact ⟨j,h1,by omega,h3⟩
   ·exact ⟨i,h,by omega,beq_iff_eq.1 hb⟩
theorem Tu (c:List Int) (k:Int):∀ i,(Pe c k i).Pairwise (· < ·)
 | 0=>List.Pairwise.nil
 | i+1=>by
  have hp:=Tu c k i
  unfold Pe
  cases hb:(c.getD i 0==k) with
  | false=>rw [cond_false];exact hp
  | true =>
   rw [cond_true,List.pairwise_append]
   refine ⟨hp,List.pairwise_singleton _ _,fun x hx y hy => ?_⟩
   obtain ⟨j,h1,h2,_⟩:=Ru hx
   rw [List.mem_singleton.1 hy,h1];omega
theorem Tt {c:List Int} {k:Int} {i:Nat} (hi:i<c.length):Pe c k (i+1)=bif c[i]==k then Pe c k i++[(i:Int)] else Pe c k i:=by
 rw [Pe,show c.getD i 0=c[i] by simp [hi]]
theorem Rr (w h:Int) (c:List Int) (hl:c.length≤1048576) (hf:PV w h c=true) (k:Int) (n:Nat) (hn:Pa≤n):QN n w h c k=some (Pe c k c.length):=by
 have hs:=Pc w h c hl n hn
 have h1:iter n (P3 n w h c k) (([]:List Int),(0:Int))=some (Pe c k c.length,(c.length:Int)):=Q3 (P3 n w h c k) (fun i=>(Pe c k i,(i:Int))) c.length (Pe c k c.length,(c.length:Int)) (fun i hi=>by
  have hr:decide ((Pe c k i).length+1≤DZ)=true:=Sl (by have:=RR c k i;clear hn;omega)
  unfold P3
  rw [hs,hf]
  dsimp only
  rw [show decide ((i:Int)<(c.length:Int))=true by rw [decide_eq_true_eq];clear hn;omega,Tt hi]
  simp only [cond_true,Option.bind_some,PE hi,PI hi (show c.length≤9223372036854775807 by clear hn;omega),List.length_singleton,hr]
  cases (c[i]==k) <;> rfl) (by unfold P3;rw [hs,hf];simp) n (by unfold Pa at hn;omega)
 unfold QN
 rw [h1];rfl
theorem Rm (w h:Int) (c:List Int) (hl:c.length≤1048576) (hf:PV w h c=true) (k:Int) (n:Nat) (hn:Pa≤n):QJ n w h c k=some (Pe c k c.length):=by
 have h1:iter n (P1 c k) (([]:List Int),(0:Int))=some (Pe c k c.length,(c.length:Int)):=Q3 (P1 c k) (fun i=>(Pe c k i,(i:Int))) c.length (Pe c k c.length,(c.length:Int)) (fun i hi=>by
  have hr:decide ((Pe c k i).length+1≤DZ)=true:=Sl (by have:=RR c k i;clear hn;omega)
  unfold P1
  dsimp only
  rw [show decide ((i:Int)<(c.length:Int))=true by rw [decide_eq_true_eq];clear hn;omega,Tt hi]
  simp only [cond_true,Option.bind_some,PE hi,PI hi (show c.length≤9223372036854775807 by clear hn;omega),List.length_singleton,hr]
  cases (c[i]==k) <;> rfl) (by unfold P1;simp) n (by unfold Pa at hn;omega)
 unfold QJ
 rw [Rl,Pc w h c hl n hn,hf,Option.bind_some,h1];rfl
def Tw (w h:Int) (c:List Int) (a:List Qj):Bool:=PV w h c&&Ph a&&(List.range a.length).all (Qm a)&&(List.range a.length).all (RT c a)
def PB (c:List Int):List Int:=Pe c 4 c.length
def Rk (w h:Int) (c:List Int) (a:List Qj):Dn:=(w,h,c,a,1,[],PO (PB c) (min (PB c).length 20),[],PS a 50,List.replicate 51 0,0)
def W6 (w h:Int) (c:List Int) (a:List Qj):Dn×Bool:=bif Tw w h c a then (Rk w h c a,true) else (RS,false)
theorem T3 (w h:Int) (c:List Int) (hc:c.length≤1048576) (a:List Qj) (hs:PY a) (n:Nat) (hn:Pa≤n):QT n w h c a=some (Rs (W6 w h c a))∧QS n w h c a=some (Rs (W6 w h c a)):=by
 unfold QT QS W6 Tw
 rw [Rl,Pc w h c hc n hn,R5 a hs n hn,RJ a hs n hn,S8 a hs n hn]
 simp only [Option.bind_some]
 cases hf:PV w h c with
 | false=>exact ⟨rfl,rfl⟩
 | true =>
  cases hk:Ph a with
  | false=>exact ⟨rfl,rfl⟩
  | true =>
   have hall:(List.range a.length).all (fun i=>RT c a i&&Qm a i)=((List.range a.length).all (Qm a)&&(List.range a.length).all (RT c a)):=by
    rw [Bool.eq_iff_iff]
    simp only [List.all_eq_true,Bool.and_eq_true]
    exact ⟨fun q=>⟨fun x hx=>(q x hx).2,fun x hx=>(q x hx).1⟩,fun q x hx=>⟨q.2 x hx,q.1 x hx⟩⟩
   have o1:=Sf c hc a hs RS n hn
   have o2:=SY w h c hc hf a hs RS n hn
   rw [hall] at o1
   have d1:=Rr w h c hc hf 4 n hn
   have d2:=Rm w h c hc hf 4 n hn
   have d3:=RR c 4 c.length
   have hm:(decide (0≤51)&&decide ((51:Int)≤(DZ:Int))&&decide (51=51))=true:=rfl
   simp only [Bool.not_true,Bool.not_false,cond_false,cond_true,Option.bind_some,SG w h c hc,SZ w h c hc,SJ a hs n hn,Sa a hs n hn,hm,d1,d2]
   simp only [RS] at o1 o2
   rw [o1]
   cases hh:(List.range a.length).all (Qm a) with
   | false=>exact ⟨rfl,rfl⟩
   | true =>
    simp only [Bool.not_true,cond_false]
    rw [o2]
    cases ho:(List.range a.length).all (RT c a) with
    | false=>exact ⟨rfl,rfl⟩
    | true =>
     have hdl:(PB c).length≤1048576:=by unfold PB;clear hn;omega
     have s1:=SL a hs w h c a 1 [] [] [] (List.replicate (Int.toNat 51) 0) 0 n hn
     have c1:=SS (PB c) hdl w h c a 1 [] [] (PS a 50) (List.replicate (Int.toNat 51) 0) 0 n hn
     have c2:=SQ (PB c) hdl w h c a 1 [] [] (List.replicate (Int.toNat 51) 0) (List.replicate (Int.toNat 51) 0) 0 n hn
     have s2:=SK a hs w h c a 1 [] (PO (PB c) (min (PB c).length 20)) [] (List.replicate (Int.toNat 51) 0) 0 n hn
     unfold Rk
     rw [show List.replicate 51 (0:Int)=List.replicate (Int.toNat 51) 0 from rfl] at s1 s2 ⊢
     rw [show Pe c 4 c.length=PB c from rfl]
     generalize PS a 50=st at s1 s2 c1 ⊢
     generalize PO (PB c) (min (PB c).length 20)=cw at c1 c2 s2 ⊢
     generalize List.replicate (Int.toNat 51) (0:Int)=ze at s1 s2 c1 c2 ⊢
     refine ⟨?_, ?_⟩
     ·simp only [Bool.and_self,cond_true,Option.bind_some]
      rw [s1,Option.bind_some,c1]
      rfl
     ·simp only [Bool.and_self,cond_true,Option.bind_some]
      rw [c2,Option.bind_some,s2]
      rfl
theorem U6 (k:Int):∀ (l:List Qj) (z:Int),(∀ p∈l,0≤QR p.2.2 k∧QR p.2.2 k≤1000)→z≤(l.map fun p=>QR p.2.2 k).foldl (· + ·) z∧(l.map fun p=>QR p.2.2 k).foldl (· + ·) z≤z+1000 * (l.length:Int)
 | [],z,_=>by simp
 | p::l,z,h=>by
  have h1:=h p List.mem_cons_self
  have h2:=U6 k l (z+QR p.2.2 k) fun q hq=>h q (List.mem_cons_of_mem _ hq)
  simp only [List.map_cons,List.foldl_cons,List.length_cons]
  omega
theorem TN (a:List Qj) (k:Int):0≤QV a k∧QV a k≤12000:=by
 unfold QV
 cases h:Ph a with
 | false=>exact ⟨by rw [cond_false];omega,by rw [cond_false];omega⟩
 | true =>
  rw [cond_true]
  obtain ⟨h1,h2⟩:=UC h
  have:=U6 k a 0 fun p hp=>by
   obtain ⟨i,hi,rfl⟩:=List.mem_iff_getElem.1 hp
   exact Sq (h2 i hi) k
  omega
theorem Su (a:List Qj):∀ m,m≤50→∀ j,j≤50→(PS a m)[j]? = some (bif decide (1≤j)&&decide (j≤m) then QV a (j:Int) else 0)
 | 0,_,j,hj=>by
  have:(decide (1≤j)&&decide (j≤0))=false:=by
   rw [Bool.and_eq_false_iff,decide_eq_false_iff_not,decide_eq_false_iff_not];omega
  rw [this,cond_false]
  show (List.replicate 51 (0:Int))[j]? = some 0
  rw [List.getElem?_replicate,if_pos (by omega)]
 | m+1,hm,j,hj=>by
  have hi:=Su a m (by omega) j hj
  show ((PS a m).set (m+1) (QV a ((m+1:Nat):Int)))[j]? = _
  rw [List.getElem?_set]
  by_cases hjm:m+1=j
  ·rw [if_pos hjm,if_pos (by rw [Po];omega), ← hjm,decide_eq_true (show 1≤m+1 by omega),decide_eq_true (show m+1≤m+1 by omega)];rfl
  ·rw [if_neg hjm,hi,show decide (j≤m+1)=decide (j≤m) by rw [decide_eq_decide];omega]
theorem Rq (l:List Int) (h51:l.length=51) (hb:∀ i (h:i<l.length),0≤l[i]∧l[i]≤1000000∧(i=0→l[i]=0)) (n:Nat) (hn:Pa≤n):P7 n l=some true:=by
 have h1:=P6 (QL l) (fun k=>(k:Int)) l.length (fun _=>true) (fun i hi=>by
  obtain ⟨b1,b2,b3⟩:=hb i hi
  unfold QL
  dsimp only
  rw [show decide ((i:Int)<(l.length:Int))=true by rw [decide_eq_true_eq];clear hn;omega]
  simp only [cond_true,PE hi,Option.bind_some,Td,R4,PI hi (show l.length≤9223372036854775807 by clear hn;omega)]
  have hin:Qk l[i] 0 1000000=true:=by unfold Qk;rw [decide_eq_true b1,decide_eq_true b2];rfl
  rw [hin]
  by_cases h0:i=0
  ·have:=b3 h0
   subst h0
   rw [this];rfl
  ·rw [show ((i:Int)==0)=false by rw [beq_eq_false_iff_ne];clear hn;omega];rfl) (by unfold QL;simp) n (by unfold Pa at hn;omega)
 have hall:(List.range l.length).all (fun _=>true)=true:=by simp
 rw [hall,cond_true,show ((0:Nat):Int)=0 from rfl] at h1
 unfold P7
 rw [h1,h51];rfl
theorem Tm (n:Nat) (hn:Pa≤n):Rd n 1 []=some true:=by
 obtain ⟨k,rfl⟩:∃ k,n=k+1:=⟨n - 1,by unfold Pa at hn;omega⟩
 rfl
theorem TZ (n:Nat) (hn:Pa≤n):RP n []=some true:=by
 obtain ⟨k,rfl⟩:∃ k,n=k+1:=⟨n - 1,by unfold Pa at hn;omega⟩
 rfl
theorem TO (ds:List Int):∀ m i,i<m→(PO ds m)[i]? = some (((i+1:Nat):Int),ds.getD i 0, -1,false,0)
 | 0,i,h=>by omega
 | m+1,i,h=>by
  rw [PO,List.getElem?_append,PR]
  by_cases hi:i<m
  ·rw [if_pos hi];exact TO ds m i hi
  ·rw [if_neg hi,show i - m=0 by omega,show i=m by omega];rfl
theorem Qf {ds:List Int} {m i:Nat} (h:i<(PO ds m).length):(PO ds m)[i]=(((i+1:Nat):Int),ds.getD i 0, -1,false,0):=by
 have:=TO ds m i (by rw [PR] at h;exact h)
 rw [List.getElem?_eq_getElem h] at this
 exact Option.some.inj this
theorem UQ {c:List Int} {i:Nat} (hi:i<(PB c).length):RM c ((PB c).getD i 0)=true:=by
 rw [show (PB c).getD i 0=(PB c)[i] by simp [hi]]
 obtain ⟨j,h1,h2,h3⟩:=Ru (List.getElem_mem hi)
 rw [h1]
 unfold RM Qk
 rw [show (j:Int).toNat=j by omega,h3,decide_eq_true (show (0:Int)≤(j:Int) by omega),decide_eq_true (show (j:Int)≤(c.length:Int) - 1 by omega)]
 rfl
theorem U8 (c:List Int):CW c (PO (PB c) (min (PB c).length 20)):=by
 have key:∀ r∈PO (PB c) (min (PB c).length 20),∃ i:Nat,i<(PB c).length∧i<20∧r=(((i+1:Nat):Int),(PB c).getD i 0, -1,false,0):=by
  intro r hr
  obtain ⟨i,hi,rfl⟩:=List.mem_iff_getElem.1 hr
  have hi2:=hi
  rw [PR] at hi2
  exact ⟨i,by omega,by omega,Qf hi⟩
 have hpw:=Tu c 4 c.length
 refine ⟨by rw [PR];omega,fun r hr => ?_,fun r hr => ?_,fun r hr => ?_,fun r hr => ?_, ?_, ?_⟩
 ·obtain ⟨i,h1,h2,rfl⟩:=key r hr
  exact ⟨by show (1:Int)≤((i+1:Nat):Int);omega,by show ((i+1:Nat):Int)≤99;omega⟩
 ·obtain ⟨i,h1,h2,rfl⟩:=key r hr
  exact UQ h1
 ·obtain ⟨i,h1,h2,rfl⟩:=key r hr
  exact .inl rfl
 ·obtain ⟨i,h1,h2,rfl⟩:=key r hr
  exact ⟨by show (0:Int)≤0;omega,by show (0:Int)≤1000000;omega⟩
 ·refine List.pairwise_iff_getElem.2 fun i j hi hj hij => ?_
  rw [Qf hi,Qf hj]
  show ((i+1:Nat):Int)<((j+1:Nat):Int)
  omega
 ·refine List.pairwise_iff_getElem.2 fun i j hi hj hij => ?_
  have hi2:=hi
  have hj2:=hj
  rw [PR] at hi2 hj2
  have hdi:i<(PB c).length:=by omega
  have hdj:j<(PB c).length:=by omega
  rw [Qf hi,Qf hj]
  show (PB c).getD i 0≠(PB c).getD j 0
  have:(PB c)[i]<(PB c)[j]:=List.pairwise_iff_getElem.1 hpw i j hdi hdj hij
  rw [show (PB c).getD i 0=(PB c)[i] by simp [hdi],show (PB c).getD j 0=(PB c)[j] by simp [hdj]]
  omega
theorem Sr {w h:Int} {c:List Int} {a:List Qj} (hok:Tw w h c a=true):PV w h c=true∧Ph a=true∧(∀ p∈a,∀ s∈p.2.2,s.2.2≤0)∧∀ p∈a,Qk p.2.1 0 ((c.length:Int) - 1)=true∧c.getD p.2.1.toNat 0=2:=by
 unfold Tw at hok
 simp only [Bool.and_eq_true,List.all_eq_true,List.mem_range] at hok
 obtain ⟨⟨⟨h1,h2⟩,h3⟩,h4⟩:=hok
 refine ⟨h1,h2,fun p hp s hs => ?_,fun p hp => ?_⟩
 ·obtain ⟨i,hi,rfl⟩:=List.mem_iff_getElem.1 hp
  obtain ⟨k,hk,rfl⟩:=List.mem_iff_getElem.1 hs
  have:=h3 i hi
  unfold Qm at this
  rw [List.getElem?_eq_getElem hi] at this
  have:=List.all_eq_true.1 this k (List.mem_range.2 hk)
  simp only [Bool.not_eq_true',decide_eq_false_iff_not,show a[i].2.2.getD k (0,0,0)=a[i].2.2[k] by simp [hk]] at this
  omega
 ·obtain ⟨i,hi,rfl⟩:=List.mem_iff_getElem.1 hp
  have:=h4 i hi
  unfold RT at this
  rw [List.getElem?_eq_getElem hi] at this
  simp only [Bool.and_eq_true,beq_iff_eq] at this
  exact this
theorem UK (a:List Qj) {j:Nat} (hj:j≤50):(PS a 50)[j]? = some (bif decide (1≤j) then QV a (j:Int) else 0):=by
 rw [Su a 50 (by omega) j hj,decide_eq_true (show j≤50 from hj),Bool.and_true]
theorem Sh (w h:Int) (c:List Int) (hc:c.length≤1048576) (a:List Qj) (hs:PY a) (hok:Tw w h c a=true) (n:Nat) (hn:Pa≤n) :
  QK n w h c a 1 [] (PO (PB c) (min (PB c).length 20)) [] (PS a 50) (List.replicate 51 0) 0=some true:=by
 obtain ⟨hf,hk,_,_⟩:=Sr hok
 have hcw:SA w h c (PO (PB c) (min (PB c).length 20))=true:=Tv.2 ⟨hf,U8 c⟩
 have k1:=Rq (PS a 50) (Po a 50) (fun i hi=>by
  have hi2:=hi
  rw [Po] at hi2
  have:=UK a (show i≤50 by clear hn;omega)
  rw [List.getElem?_eq_getElem hi] at this
  rw [Option.some.inj this]
  have hb:=TN a (i:Int)
  by_cases h0:1≤i
  ·rw [decide_eq_true h0,cond_true]
   exact ⟨hb.1,by clear hn;omega,fun e=>by clear hn;omega⟩
  ·rw [decide_eq_false h0,cond_false]
   exact ⟨by clear hn;omega,by clear hn;omega,fun _=>rfl⟩) n hn
 have k2:=Rq (List.replicate 51 0) (by simp) (fun i hi=>by
  rw [List.getElem_replicate]
  exact ⟨by clear hn;omega,by clear hn;omega,fun _=>rfl⟩) n hn
 unfold QK
 rw [Rl,Pc w h c hc n hn,hf,RJ a hs n hn,hk,Tm n hn,SB w h c hc _ (by rw [PR];clear hn;omega) n hn,hcw,TZ n hn,k1,k2]
 simp only [Option.bind_some,Bool.not_true,cond_false]
 obtain ⟨m,rfl⟩:∃ k,n=k+1:=⟨n - 1,by unfold Pa at hn;omega⟩
 rfl
theorem S3 (w h:Int) (c:List Int) (a:List Qj) (hs:PY a) (bn:Int) (os:List O9) (cr:List Ua) (ts:List Wa) (nw:Int) (n:Nat) (hn:Pa≤n) :
  RA n w h c a bn os cr ts (PS a 50) (List.replicate 51 0) nw=some true:=by
 have h1:=P6 (Qp n a (PS a 50) (List.replicate 51 0)) (fun k=>((k+1:Nat):Int)) 50 (fun _=>true) (fun i hi=>by
  have l1:i+1<(PS a 50).length:=by rw [Po];clear hn;omega
  have l2:i+1<(List.replicate 51 (0:Int)).length:=by rw [List.length_replicate];clear hn;omega
  have hst:=UK a (show i+1≤50 by clear hn;omega)
  rw [List.getElem?_eq_getElem l1,decide_eq_true (show 1≤i+1 by clear hn;omega),cond_true] at hst
  have hb:=TN a ((i+1:Nat):Int)
  unfold Qp
  dsimp only
  rw [show decide (((i+1:Nat):Int)≤50)=true by rw [decide_eq_true_eq];clear hn;omega,show decide (((i+1:Nat):Int)≥((PS a 50).length:Int))=false by rw [decide_eq_false_iff_not,Po];clear hn;omega,show decide (((i+1:Nat):Int)≥((List.replicate 51 (0:Int)).length:Int))=false by rw [decide_eq_false_iff_not,List.length_replicate];clear hn;omega]
  simp only [cond_true,cond_false,PE l1,PE l2,Option.bind_some,Td,R4,SN a hs _ n hn,List.getElem_replicate]
  rw [Option.some.inj hst,show Qk 0 0 1000000=true from rfl,PN (n:=QV a ((i+1:Nat):Int)+0) (by clear hn;omega) (by clear hn;omega),PN (n:=((i+1:Nat):Int)+1) (by clear hn;omega) (by clear hn;omega),Int.add_zero,bne_self_eq_false]
  rfl) (by unfold Qp;simp) n (by unfold Pa at hn;omega)
 have hall:(List.range 50).all (fun _=>true)=true:=by simp
 rw [hall,cond_true,show ((0+1:Nat):Int)=1 from rfl] at h1
 unfold RA
 rw [h1];rfl
theorem Tq (w h:Int) (c:List Int) (a:List Qj) (bn:Int) (os:List O9) (cr:List Ua) (st ou:List Int) (nw k j:Int) (n:Nat) (hn:Pa≤n):Rf n w h c a bn os cr [] st ou nw k j=some 0:=by
 obtain ⟨m,rfl⟩:∃ k,n=k+1:=⟨n - 1,by unfold Pa at hn;omega⟩
 rfl
theorem TV (w h:Int) (c:List Int) (a:List Qj) (hs:PY a) (hk:Ph a=true) (h0:∀ p∈a,∀ s∈p.2.2,s.2.2≤0) (bn:Int) (os:List O9) (cr:List Ua) (st ou:List Int) (nw:Int) (n:Nat) (hn:Pa≤n) :
  RU n w h c a bn os cr [] st ou nw=some true:=by
 have hl:a.length≤1048576:=hs.1
 have hP:=UL.1 hk
 have h1:=P6 (Q5 n w h c a bn os cr [] st ou nw) (fun k=>(k:Int)) a.length (fun _=>true) (fun i hi=>by
  have hm:=List.getElem_mem hi
  have hpl:a[i].2.2.length≤1048576:=hs.2 _ hm
  have hst:PZ a[i].2.2=true:=Sg.2 (hP.2.2 _ hm).2.2
  have h2:=P6 (Q6 n w h c a bn os cr [] st ou nw a[i]) (fun k=>((k+1:Nat):Int)) 50 (fun _=>true) (fun j hj=>by
   obtain ⟨q,b,e,e1,e2⟩:=R3 a[i] hpl hst ((j+1:Nat):Int) n hn
   unfold Q6
   dsimp only
   rw [show decide (((j+1:Nat):Int)≤50)=true by rw [decide_eq_true_eq];clear hn;omega,cond_true,e,Tq w h c a bn os cr st ou nw _ _ n hn,PN (n:=((j+1:Nat):Int)+1) (by clear hn;omega) (by clear hn;omega)]
   simp only [Option.bind_some]
   cases b with
   | false=>rfl
   | true =>
    obtain ⟨hq,_⟩:=e1 rfl
    have hmem:=List.getElem_mem hq
    have z1:=h0 _ hm _ hmem
    have z2:=((hP.2.2 _ hm).2.2.2.1 _ hmem).2.2.2.2.1
    simp only [cond_true,PE hq,Option.bind_some]
    rw [show a[i].2.2[q].2.2=0 by clear hn;omega]
    rfl) (by unfold Q6;simp) n (by unfold Pa at hn;omega)
  have hall:(List.range 50).all (fun _=>true)=true:=by simp
  rw [hall,cond_true,show ((0+1:Nat):Int)=1 from rfl] at h2
  unfold Q5
  rw [show decide ((i:Int)<(a.length:Int))=true by rw [decide_eq_true_eq];clear hn;omega,cond_true,PE hi,Option.bind_some,h2,Option.bind_some,PI hi (show a.length≤9223372036854775807 by clear hn;omega)]
  rfl) (by unfold Q5;simp) n (by unfold Pa at hn;omega)
 have hall:(List.range a.length).all (fun _=>true)=true:=by simp
 rw [hall,cond_true,show ((0:Nat):Int)=0 from rfl] at h1
 unfold RU
 rw [h1];rfl
theorem Tn (w h:Int) (c:List Int) (a:List Qj) (bn:Int) (os:List O9) (cr:List Ua) (hcr:cr.length≤1048576) (hg:∀ r∈cr,r.2.2.1 = -1) (st ou:List Int) (nw:Int) (n:Nat) (hn:Pa≤n) :
  Ro n w h c a bn os cr [] st ou nw=some true:=by
 have h1:=Ql (RO cr) cr (fun _=>true) (fun i x hi hx=>by
  obtain ⟨_,rfl⟩:=List.getElem?_eq_some_iff.1 hx
  have hd:decide ((i:Int)<(cr.length:Int))=true:=by rw [decide_eq_true_eq];clear hn;omega
  simp only [RO,hd,cond_true,PE hi,Option.bind_some,hg _ (List.getElem_mem hi),bne_self_eq_false,cond_false,PI hi (show cr.length≤9223372036854775807 by clear hn;omega)]) (by simp [RO]) n (by unfold Pa at hn;omega)
 have hall:cr.all (fun _=>true)=true:=by simp
 rw [hall,cond_true] at h1
 unfold Ro
 rw [h1];rfl
theorem UD (a:List Qj) (ha:PY a) (n:Nat) (hn:Pa≤n):Ps n a a=some true:=by
 have hl:a.length≤1048576:=ha.1
 have h1:=Ql (QB n a a) a (fun _=>true) (fun i x hi hx=>by
  obtain ⟨_,rfl⟩:=List.getElem?_eq_some_iff.1 hx
  have hpl:a[i].2.2.length≤1048576:=ha.2 _ (List.getElem_mem hi)
  have h2:=Ql (QC a[i] a[i]) a[i].2.2 (fun _=>true) (fun j y hj hy=>by
   obtain ⟨_,rfl⟩:=List.getElem?_eq_some_iff.1 hy
   have hd:decide ((j:Int)<(a[i].2.2.length:Int))=true:=by rw [decide_eq_true_eq];clear hn;omega
   simp only [QC,hd,cond_true,PE hj,Option.bind_some,beq_self_eq_true,Bool.and_self,Bool.not_true,cond_false,PI hj (show a[i].2.2.length≤9223372036854775807 by clear hn;omega)]) (by simp [QC]) n (by unfold Pa at hn;omega)
  have hall:a[i].2.2.all (fun _=>true)=true:=by simp
  rw [hall,cond_true] at h2
  have hd:decide ((i:Int)<(a.length:Int))=true:=by rw [decide_eq_true_eq];clear hn;omega
  simp only [QB,hd,cond_true,PE hi,Option.bind_some,bne_self_eq_false,cond_false,h2,PI hi (show a.length≤9223372036854775807 by clear hn;omega)]) (by simp [QB]) n (by unfold Pa at hn;omega)
 unfold Ps
 have hall:a.all (fun _=>true)=true:=by simp
 rw [hall,cond_true] at h1
 simp only [bne_self_eq_false,cond_false,h1,Option.bind_some]
theorem Tr (n:Nat) (hn:Pa≤n) {b:List Int} {i q:Int} (hcu:Cu b i):Ok (P4 n b i q) fun x=>x.2.2.1.length≤101∧Cu x.2.2.2.1 x.2.2.2.2.1:=by
 unfold P4
 refine (UU n hn hcu).bind fun f hf => ?_
 have hle:=(XU hf.1).le
 refine Ok.bind (P:=fun z=>z.2.2.2.2.2.length≤101∧Cu z.1 z.2.1) ((Qv hf.2.2 14).bind fun r hr=>Ok.cond (fun _=>(ok_int hr.1 (by simp)).bind fun v hv=>Ok.pure ⟨by show f.2.2.1.length≤101;clear hn;omega,hv.1⟩) fun _=>Ok.cond (fun _=>Ok.guard (by rw [decide_eq_true_eq];simp [DZ];clear hn;omega) (Ok.guard (by rw [decide_eq_true_eq];simp [DZ];clear hn;omega) (Ok.pure ⟨by simp;clear hn;omega,hr.1⟩))) fun _=>Ok.cond (fun _ => ?_) fun _=>Ok.pure ⟨by show f.2.2.1.length≤101;clear hn;omega,hr.1⟩) fun z hz=>Ok.pure hz
 rw [SG _ _ _ (by clear hn;omega),Option.bind_some]
 refine (ok_int hr.1 (by simp)).bind fun v hv=>Ok.guard (T8 ⟨by omega,by show (0:Int)<(f.2.2.1.length:Int);have:=hf.2.1;clear hn;omega⟩) (Ok.pure ⟨?_,hv.1⟩)
 show (CV f.2.2.1 (Int.toNat 0) v.1).length≤101
 rw [UY,List.length_set];clear hn;omega
theorem US (n:Nat) (hn:Pa≤n) {b:List Int} {i q:Int} (hcu:Cu b i) (id home:Int):Ok (iter n (RK) (1,b,i,q,id,home,([]:List PH))) fun x=>x.2.2.2.2.2.2.length≤4∧Cu x.2.1 x.2.2.1:=by
 refine Ok.iter (fun k x=>x.1+(k:Int)=5∧1≤x.1∧x.2.2.2.2.2.2.length+k≤4∧Cu x.2.1 x.2.2.1) (fun k x hx => ?_) (k:=4) ⟨by simp,by simp,by simp,hcu⟩ (by unfold Pa at hn;omega)
 obtain ⟨h1,h0,h2,h3⟩:=hx
 unfold RK
 refine Ok.cond (fun hb => ?_) fun hb=>Ok.pure (.inr ⟨_,rfl,by show x.2.2.2.2.2.2.length≤4;clear hn;omega,h3⟩)
 have hb:=of_decide_eq_true hb
 refine Ok.bind (P:=fun z=>z.2.2.2.2.2.length≤x.2.2.2.2.2.2.length+1∧Cu z.1 z.2.1) ((ok_int h3 (by simp)).bind fun v hv=>Ok.cond (fun _=>Ok.guard (Sl (by clear hn;omega)) (Ok.pure ⟨by show (x.2.2.2.2.2.2++[_]).length≤_;simp,hv.1⟩)) fun _=>Ok.pure ⟨by show x.2.2.2.2.2.2.length≤_;omega,hv.1⟩) fun z hz=>Ok.pure (.inl ⟨_,rfl,k - 1,⟨?_, ?_, ?_,hz.2⟩,by clear hn;omega⟩)
 ·show PL (x.1+1)+_=_
  rw [PN (by clear hn;omega) (by clear hn;omega)];clear hn;omega
 ·show 1≤PL (x.1+1)
  rw [PN (by clear hn;omega) (by clear hn;omega)];clear hn;omega
 ·have:=hz.1
  show z.2.2.2.2.2.length+(k - 1)≤4
  clear hn;omega
theorem UT (n:Nat) (hn:Pa≤n) {b:List Int} {i q:Int} (hcu:Cu b i) (w h:Int) (c:List Int) (hc:c.length≤1048576) (hf:PV w h c=true):Ok (Qw n b i q w h c) fun x=>x.1.length≤8∧∀ p∈x.1,p.2.2.length≤4:=by
 unfold Qw
 rw [Rr w h c hc hf 2 n hn,Option.bind_some]
 refine Ok.bind (P:=fun z=>z.2.2.2.2.length≤8∧∀ p∈z.2.2.2.2,p.2.2.length≤4) (Ok.iter (fun k x=>x.1+(k:Int)=8∧0≤x.1∧x.2.2.2.2.length+k≤8∧(∀ p∈x.2.2.2.2,p.2.2.length≤4)∧Cu x.2.1 x.2.2.1) (fun k x hx => ?_) (k:=8) ⟨by simp,by simp,by simp,fun p hp=>(List.not_mem_nil hp).elim,hcu⟩ (by unfold Pa at hn;omega)) fun z hz=>Ok.pure hz
 obtain ⟨h1,h0,h2,h4,h3⟩:=hx
 unfold R6
 refine Ok.bind (P:=fun v=>v=true→x.1<((Pe c 2 c.length).length:Int)∧x.1<8) (Ok.cond (fun hb=>Ok.pure fun e=>⟨of_decide_eq_true hb,of_decide_eq_true e⟩) fun _=>Ok.pure fun e=>by cases e) fun v hv=>Ok.cond (fun hb => ?_) fun hb=>Ok.pure (.inr ⟨_,rfl,by show x.2.2.2.2.length≤8;clear hn;omega,h4⟩)
 obtain ⟨a1,a2⟩:=hv hb
 refine Ok.guard (T8 ⟨h0,a1⟩) ((Ok.get (by clear hn;omega)).bind fun hm _=>(US n hn h3 _ _).bind fun u hu=>Ok.guard (Sl (by clear hn;omega)) (Ok.pure (.inl ⟨_,rfl,k - 1,⟨?_, ?_, ?_,fun p hp => ?_,hu.2⟩,by clear hn;omega⟩)))
 ·show PL (x.1+1)+_=_
  rw [PN (by clear hn;omega) (by clear hn;omega)];clear hn;omega
 ·show 0≤PL (x.1+1)
  rw [PN (by clear hn;omega) (by clear hn;omega)];clear hn;omega
 ·show (x.2.2.2.2++[_]).length+(k - 1)≤8
  rw [List.length_append,List.length_singleton];clear hn;omega
 ·rcases List.mem_append.1 hp with hp | hp
  ·exact h4 p hp
  ·rw [List.mem_singleton.1 hp];exact hu.1
theorem Sv (n:Nat) (hn:Pa≤n) (code:List Int) (hl:code.length≤1048576):Ok (Pm n code) fun x=>x.2.2.1.length≤101∧PY x.2.2.2:=by
 unfold Pm
 obtain ⟨q,e⟩:=VB code hl n hn
 rw [e,Option.bind_some]
 refine (Tr n hn (b:=code) (i:=0) ⟨hl,by omega⟩).bind fun f hf=>(UA n hn hf.2).bind fun s hs => ?_
 have hsm:PY s.1:=⟨by have:=hs.1.1;clear hn;omega,fun y hy=>by show y.2.2.length≤_;have:=hs.1.2 y hy;clear hn;omega⟩
 refine Ok.bind (P:=fun z=>z.2.2.1.length≤101∧PY z.2.2.2.1) (Ok.bind (P:=fun v=>Cu v.2.1 v.2.2.1∧(v.1=true→PV f.1 f.2.1 f.2.2.1=true)) ?_ fun v hv=>Ok.cond (fun hb => ?_) fun hb=>Ok.pure ⟨hf.1,hsm⟩) fun z hz=>Ok.pure hz
 ·rw [Pc _ _ _ (by have:=hf.1;clear hn;omega) n hn,Option.bind_some]
  exact Ok.cond (fun hb=>(UB hs.2 3).bind fun o ho=>Ok.pure ⟨ho,fun _=>hb⟩) fun _=>Ok.pure ⟨hs.2,fun e=>by cases e⟩
 ·refine (UT n hn hv.1 f.1 f.2.1 f.2.2.1 (by have:=hf.1;clear hn;omega) (hv.2 hb)).bind fun u hu=>Ok.pure ⟨hf.1, ?_⟩
  exact ⟨by show u.1.length≤_;have:=hu.1;clear hn;omega,fun y hy=>by show y.2.2.length≤_;have:=hu.2 y hy;clear hn;omega⟩
theorem bZ (w h:Int) (c:List Int) (a:List Qj) (cw:List Ua) (st ze:List Int) (hc:c.length≤1048576) (hs:PY a) (l3:cw.length≤1048576) (l1:st.length≤1048576) (l2:ze.length≤1048576):Se (w,h,c,a,1,[],cw,[],st,ze,0):=⟨hc,hs,⟨Nat.zero_le _,fun y hy=>by cases hy⟩,l3,Nat.zero_le _,l1,l2⟩
theorem Sb (code:List Int) (hx:(Ug fu) code):∃ n,RQ n code=some true:=by
 refine ⟨Pa, ?_⟩
 have hB:Pa≤Pa:=Nat.le_refl _
 unfold RQ Sc
 rw [Option.bind_some]
 by_cases hbig:(code.length:Int)>1048576
 ·rw [decide_eq_true hbig];rfl
 rw [decide_eq_false hbig,cond_false]
 obtain ⟨⟨w,h,c,a⟩,e0,hc1,hs⟩:=Sv Pa hB code (by omega)
 dsimp only at hc1 hs
 have hc:c.length≤1048576:=by omega
 have dv:=T3 w h c hc a hs Pa hB
 rw [e0,Option.bind_some]
 dsimp only
 rw [dv.1,dv.2,Option.bind_some,Option.bind_some]
 cases hok:Tw w h c a with
 | false=>rw [show W6 w h c a=(RS,false) by unfold W6;rw [hok];rfl];rfl
 | true =>
  obtain ⟨hf,hk,h0,hho⟩:=Sr hok
  have i1:=Sh w h c hc a hs hok Pa hB
  have i2:=S3 w h c a hs 1 [] (PO (PB c) (min (PB c).length 20)) [] 0 Pa hB
  have i3:=TV w h c a hs hk h0 1 [] (PO (PB c) (min (PB c).length 20)) (PS a 50) (List.replicate 51 0) 0 Pa hB
  have hsd:Se (Rk w h c a):=bZ w h c a _ _ _ hc hs (by rw [PR];omega) (by rw [Po];omega) (by rw [List.length_replicate];omega)
  have i4:=TX (Rk w h c a) hsd Pa hB
  have i5:=T7 (Rk w h c a) hsd Pa hB
  have i6:=Tn w h c a 1 [] (PO (PB c) (min (PB c).length 20)) (by rw [PR];omega) (fun r hr=>by
   obtain ⟨i,hi,rfl⟩:=List.mem_iff_getElem.1 hr
   rw [Qf hi]) (PS a 50) (List.replicate 51 0) 0 Pa hB
  have i7:=UD a hs Pa hB
  have hpl:Sd (Rk w h c a)=true:=by
   unfold Sd
   rw [show SA (Rk w h c a).1 (Rk w h c a).2.1 (Rk w h c a).2.2.1 (Rk w h c a).2.2.2.2.2.2.1=true from Tv.2 ⟨hf,U8 c⟩,Bool.true_and,List.all_eq_true]
   intro r hr
   obtain ⟨i,hi,rfl⟩:=List.mem_iff_getElem.1 hr
   have:(Rk w h c a).2.2.2.2.2.2.1[i]=(((i+1:Nat):Int),(PB c).getD i 0, -1,false,0):=Qf hi
   rw [this];rfl
  rw [hpl] at i4
  have hdn:(Rk w h c a).2.2.2.2.2.1.all (UF (Rk w h c a).2.2.2.2.2.2.2.1)=true:=rfl
  rw [hdn] at i5
  have i8:Rp Pa w h c a 1 [] (PO (PB c) (min (PB c).length 20)) [] (PS a 50) (List.replicate 51 0) 0=some 0:=by
   unfold Rp
   simp only [Rk] at i4 i5
   rw [i1,i2,i3,i4,i5];rfl
  have d2:=Rm w h c hc hf 4 Pa hB
  rw [show Pe c 4 c.length=PB c from rfl] at d2
  have a1:=P6 (Qa (Rs (Rk w h c a,true)) (PB c)) (fun k=>(k:Int)) (PO (PB c) (min (PB c).length 20)).length (fun _=>true) (fun i hi=>by
   have hi2:=hi
   rw [PR] at hi2
   have hid:i<(PB c).length:=by omega
   unfold Qa
   rw [show (Rs (Rk w h c a,true)).2.2.2.2.2.2.1=PO (PB c) (min (PB c).length 20) from rfl]
   rw [show decide ((i:Int)<((PO (PB c) (min (PB c).length 20)).length:Int))=true by rw [decide_eq_true_eq];omega,Sj hi,Sj hid,show Int.toNat (i:Int)=i by omega,List.getElem?_eq_getElem hi,List.getElem?_eq_getElem hid,Qf hi]
   simp only [cond_true,Option.bind_some,PI hid (show (PB c).length≤9223372036854775807 by have:=RR c 4 c.length;unfold PB;omega)]
   rw [show (PB c).getD i 0=(PB c)[i] by simp [hid],bne_self_eq_false,bne_self_eq_false]
   rfl) (by
   unfold Qa
   rw [show (Rs (Rk w h c a,true)).2.2.2.2.2.2.1=PO (PB c) (min (PB c).length 20) from rfl]
   simp) Pa (by rw [PR];unfold Pa;omega)
  have hall:(List.range (PO (PB c) (min (PB c).length 20)).length).all (fun _=>true)=true:=by simp
  rw [hall,cond_true,show ((0:Nat):Int)=0 from rfl] at a1
  rw [show W6 w h c a=(Rk w h c a,true) by unfold W6;rw [hok];rfl]
  rw [show (Rs (Rk w h c a,true)).2.2.2.2.2.2.2.2.2.2.2=true from rfl,d2]
  simp only [bne_self_eq_false,Bool.not_true,cond_false,Option.bind_some]
  rw [a1]
  simp only [Option.bind_some]
  simp only [Rs,Rk]
  rw [i1,i8,i6,i7]
  simp only [Option.bind_some,cond_true,beq_self_eq_true]
  by_cases hle:(PB c).length≤20
  ·rw [show (((PO (PB c) (min (PB c).length 20)).length:Int)==((PB c).length:Int))=true by rw [beq_iff_eq,PR];omega];rfl
  ·rw [show (((PO (PB c) (min (PB c).length 20)).length:Int)==((PB c).length:Int))=false by rw [beq_eq_false_iff_ne,PR];omega,show (((PO (PB c) (min (PB c).length 20)).length:Int)==20)=true by rw [beq_iff_eq,PR];omega];rfl
end Go.Ev.N
