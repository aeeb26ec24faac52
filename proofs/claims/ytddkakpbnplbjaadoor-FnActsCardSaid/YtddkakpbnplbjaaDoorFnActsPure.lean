/- FnActs,as a plain law over native forms: jh the program's function answers is jh the reference's answers. Conditions: none but the lengths' and numbers' bounds. -/
import Derived.Test.YtddkakpbnplbjaaDoorFnActsNat
set_option linter.all false
namespace Go.Ev.N
open Go Go.Ev
theorem lr:type_of% @Option.bind_some:=@Option.bind_some
theorem lu:type_of% @cond_true:=@cond_true
theorem ly:type_of% @cond_false:=@cond_false
theorem lz:type_of% @beq_eq_false_iff_ne:=@beq_eq_false_iff_ne
theorem l5:type_of% @List.length_singleton:=@List.length_singleton
theorem l6:type_of% @List.getElem_mem:=@List.getElem_mem
theorem l7:type_of% @Int.toNat_natCast:=@Int.toNat_natCast
theorem l8:type_of% @Nat.zero_le:=@Nat.zero_le
theorem l9:type_of% @beq_self_eq_true:=@beq_self_eq_true
theorem mA:type_of% @Bool.not_true:=@Bool.not_true
theorem mB:type_of% @List.length_nil:=@List.length_nil
theorem mC:type_of% @decide_eq_true:=@decide_eq_true
theorem mD:type_of% @Int.tmod_eq_emod_of_nonneg:=@Int.tmod_eq_emod_of_nonneg
theorem mE:type_of% @List.drop_eq_getElem_cons:=@List.drop_eq_getElem_cons
theorem mF:type_of% @List.take_add_one:=@List.take_add_one
theorem mG:type_of% @List.take_length:=@List.take_length
theorem Ps{n:Int}(h1 : -9223372036854775808≤n)(h2:n≤9223372036854775807):P8 n=n:=by unfold P8 IntKind.wrap;simp only[IntKind.bits,IntKind.signed];grind
theorem Us{i:Int}{m:Nat}(h0:0≤i)(h:i<(m:Int))(hm:m≤9223372036854775807):P8 (i+1)=i+1:=Ps (by omega) (by omega)
theorem QW{i m:Nat}(h:i<m)(hm:m≤9223372036854775807):P8 ((i:Int)+1)=((i+1:Nat):Int):=by rw[Ps (by omega) (by omega)];omega
theorem SH{α:Type}(xs:List α)(i:Nat):NY xs (i:Int)=xs[i]?:=by unfold NY;grind
theorem P2{α:Type}{xs:List α}{i:Nat}(h:i<xs.length):NY xs (i:Int)=some xs[i]:=by rw[SH];grind
theorem TS{α:Type}(xs:List α)(i:Nat):PG xs (i:Int)=decide (i<xs.length):=by unfold PG;grind
theorem RY{α:Type}{xs:List α}{i:Nat}(h:i<xs.length):PG xs (i:Int)=true:=by rw[TS];simpa using h
theorem Ur{α:Type}(l:List α)(n:Nat)(y:α):CZ l n y=l.set n y:=Bi l n y
def fI(x:Int):Prop:=IntKind.min .i64≤x∧x≤IntKind.max .i64
def fB(_:Bool):Prop:=True
def Uz(x:List UInt8):Prop:=List.length x≤maxLen
def UK{α:Type}(p:α→Prop)(x:List α):Prop:=List.length x≤maxLen∧∀y,List.Mem y x→p y
def fP{α β:Type}(p:α→Prop)(q:β→Prop)(x:α×β):Prop:=p x.1∧q x.2
theorem Uy{x:Int}(h:fI x): -9223372036854775808≤x∧x≤9223372036854775807:=by unfold fI IntKind.min IntKind.max at h;simpa[IntKind.bits,IntKind.signed]using h
theorem UE{α:Type}{p:α→Prop}{x:List α}(h:UK p x):x.length≤9223372036854775807:=h.1
theorem UF{α:Type}{p:α→Prop}{x:List α}(h:UK p x){y:α}(hy:y∈x):p y:=h.2 y hy
section
variable {α γ σ β:Type}
theorem QD{f:α→Option (α⊕γ)}{x y:α}(h:f x=some (.inl y))(n:Nat):iter (n+1) f x=iter n f y:=by simp[iter,h]
theorem Pt{f:α→Option (α⊕γ)}{x:α}{z:γ}(h:f x=some (.inr z))(n:Nat):iter (n+1) f x=some z:=by simp[iter,h]
theorem SW(f:α→Option (α⊕γ))(st:Nat→α)(m:Nat)(r:γ)(hs:∀i,i<m→f (st i)=some (.inl (st (i+1))))(he:f (st m)=some (.inr r)):∀n,m<n→iter n f (st 0)=some r:=by
 have key:∀d i n,i+d=m→d<n→iter n f (st i)=some r:=by
  intro d
  induction d with
  |zero=>
   intro i n hi hn;obtain⟨n,rfl⟩:∃k,n=k+1:=⟨n-1,by omega⟩;have:i=m:=by omega
   subst this;exact Pt he n
  |succ d ih=>
   intro i n hi hn;obtain⟨n,rfl⟩:∃k,n=k+1:=⟨n-1,by omega⟩;rw[QD (hs i (by omega)) n];exact ih (i+1) n (by omega) (by omega)
 grind
theorem RV(f:α→Option (α⊕γ))(st:Nat→σ→α)(xs:List β)(G:List β→σ→γ)(Inv:Nat→σ→Prop)
  (jH:∀s,Inv xs.length s→f (st xs.length s)=some (.inr (G [] s)))
  (da:∀i x l s,i<xs.length→xs[i]?=some x→xs.drop i=x::l→xs.drop (i+1)=l→Inv i s→(∃s',f (st i s)=some (.inl (st (i+1) s'))∧Inv (i+1) s'∧G (x::l) s=G l s')∨f (st i s)=some (.inr (G (x::l) s))):
  ∀n,xs.length<n→∀s,Inv 0 s→iter n f (st 0 s)=some (G xs s):=by
 have key:∀d i n s,i+d=xs.length→d<n→Inv i s→iter n f (st i s)=some (G (xs.drop i) s):=by
  intro d
  induction d with
  |zero=>
   intro i n s hi hn hI;obtain⟨n,rfl⟩:∃k,n=k+1:=⟨n-1,by omega⟩;have:i=xs.length:=by omega
   subst this;rw[Pt (jH s hI) n,List.drop_length]
  |succ d ih=>
   intro i n s hi hn hI;obtain⟨n,rfl⟩:∃k,n=k+1:=⟨n-1,by omega⟩;have Vs:i<xs.length:=by omega
   have hd:xs.drop i=xs[i]::xs.drop (i+1):=mE Vs;rcases da i xs[i] (xs.drop (i+1)) s Vs (j7 Vs) hd rfl hI with⟨s',h1,h2,h3⟩|h1
   ·rw[QD h1 n,ih (i+1) n s' (by omega) (by omega) h2,hd,h3]
   ·rw[Pt h1 n,hd]
 grind
theorem Ss(f:Int→Option (Int⊕γ))(xs:List β)(G:List β→List β→γ)(jH:f (xs.length:Int)=some (.inr (G xs [])))
  (da:∀i x l p,i<xs.length→xs[i]?=some x→xs=p++x::l→p.length=i→p=xs.take i→(f (i:Int)=some (.inl ((i+1:Nat):Int))∧G p (x::l)=G (p++[x]) l)∨f (i:Int)=some (.inr (G p (x::l)))):
  ∀n,xs.length<n→iter n f 0=some (G [] xs):=by
 intro n hn;refine RV (σ:=List β) f (fun i _=>(i:Int)) xs (fun l p=>G p l) (fun i p=>p=xs.take i) (fun s hs=>?_) (fun i x l s h1 h2 h3 h4 h5=>?_) n hn [] (by simp)
 ·grind
 ·have hlen:s.length=i:=by rw[h5];simp;omega
  have hx:xs=s++x::l:=by rw[←h3,h5,List.take_append_drop]
  grind
end
theorem SD{β:Type}(f:Int→Option (Int⊕(Int⊕Bool)))(xs:List β)(P:β→Bool)(hs:∀(i:Nat)(x:β),i<xs.length→xs[i]?=some x→f (i:Int)=some (bif P x then .inl ((i+1:Nat):Int)else .inr (.inr false)))
  (he:f (xs.length:Int)=some (.inr (.inl (xs.length:Int)))):∀n,xs.length<n→iter n f 0=some (bif xs.all P then .inl (xs.length:Int)else .inr false):=by
 intro n hn;refine Ss f xs (fun p l=>bif l.all P then .inl (xs.length:Int)else .inr false) ?_ ?_ n hn
 all_goals grind
theorem Vj(b c:Bool):(bif b then some true else some c)=some (b||c):=by grind
theorem Uv(b c:Bool):(bif b then some c else some false)=some (b&&c):=by grind
theorem Uw(b c:Bool):(bif b then some false else some c)=some (!b&&c):=by grind
theorem Vk(b c:Bool):(bif b then some c else some true)=some (!b||c):=by grind
theorem Tp{α:Type}(b:Bool)(x y:α):(bif b then some x else some y)=some (bif b then x else y):=by grind
theorem UD{β:Type}(L:Int×List β→Option ((Int×List β)⊕(Int×List β)))(xs:List β)(z:β)
  (hL:∀(i:Nat)(h:i<xs.length)(out:List β),out.length=xs.length→L ((i:Int),out)=some (.inl (((i+1:Nat):Int),out.set i xs[i]))) (jH:∀out,L ((xs.length:Int),out)=some (.inr ((xs.length:Int),out))):
  ∀n,xs.length<n→iter n L (0,List.replicate xs.length z)=some ((xs.length:Int),xs):=by
 intro n hn
 have:=RV (σ:=List β) L (fun i s=>((i:Int),s)) xs (fun l s=>((xs.length:Int),s.take (xs.length-l.length)++l)) (fun i s=>s.length=xs.length∧s.take i=xs.take i)
  (fun s hs=>by
   rw[jH s,show s.take (xs.length-([]:List β).length)++[]=s by simp[←hs.1]])
  (fun i x l s h1 h2 h3 h4 h5=>by
   left;have hx:xs[i]=x:=by rw[j7 h1]at h2;exact Option.some.inj h2
   refine⟨s.set i xs[i],hL i h1 s h5.1,⟨by simp[h5.1],?_⟩,?_⟩
   ·rw[List.take_succ_eq_append_getElem h1,List.take_succ_eq_append_getElem (by simp[h5.1];exact h1)];congr 1
    ·rw[List.take_set_of_le (kT i),h5.2]
    ·simp
   ·have hl:l.length=xs.length-(i+1):=by rw[←h4];simp
    congr 1;rw[lT,hl,show xs.length-(xs.length-(i+1)+1)=i by omega,show xs.length-(xs.length-(i+1))=i+1 by omega];rw[List.take_succ_eq_append_getElem (by simp[h5.1];exact h1),List.take_set_of_le (kT i)];simp[hx])
  n hn (List.replicate xs.length z) ⟨by simp,by simp⟩
 grind
def Qa:Nat:=18446744073709551616
theorem Tt:maxLen=9223372036854775807:=rfl
theorem TY:Qg=Pu:=rfl
theorem Qe(a b c:Int):Pu a b c=some (decide (b≤a)&&decide (a≤c)):=by unfold Pu;grind
theorem SU(n:Nat)(a:List (Int×Int)):Ql n a=Pr n a:=by
 have h:Qj a=Pm a:=by
  funext i;unfold Qj Pm;rw[TY];cases decide (i<(a.length:Int))with
  |false=>rfl
  |true=>
   cases hg:NY a i with
   |none=>simp[hg]
   |some x=>simp[hg]
 unfold Ql Pr;rw[h]
theorem SX{γ:Type}(f:Int→Option (Int⊕γ))(m:Nat)(hs:∀i:Nat,i<m→f (i:Int)=some (.inl ((i+1:Nat):Int))∨∃r,f (i:Int)=some (.inr r))(he:∃r,f (m:Int)=some (.inr r)):∀n,m<n→∃r,iter n f 0=some r:=by
 have key:∀d i n,i+d=m→d<n→∃r,iter n f (i:Int)=some r:=by
  intro d
  induction d with
  |zero=>
   intro i n hi hn;obtain⟨n,rfl⟩:∃k,n=k+1:=⟨n-1,by omega⟩;have:i=m:=by omega
   subst this;obtain⟨r,hr⟩:=he;exact⟨r,Pt hr n⟩
  |succ d ih=>
   intro i n hi hn;obtain⟨n,rfl⟩:∃k,n=k+1:=⟨n-1,by omega⟩;rcases hs i (by omega)with h|⟨r,h⟩
   ·rw[QD h n];exact ih (i+1) n (by omega) (by omega)
   ·exact⟨r,Pt h n⟩
 intro n hn;exact key m 0 n (by omega) hn
theorem Qn(n:Nat)(hn:Qa≤n)(a:List (Int×Int))(ha:a.length≤1048576):∃b,Pr n a=some b:=by
 obtain⟨r,hr⟩:=SX (Pm a) a.length (fun i hi=>by
  unfold Pm;rw[show decide ((i:Int)<(a.length:Int))=true by grind,lu,P2 hi,QW hi (by omega)];simp only[lr,Qe];by_cases h0:i=0
  ·grind
  ·obtain⟨j,rfl⟩:∃j,i=j+1:=⟨i-1,by omega⟩;have e:P8 (((j+1:Nat):Int)-1)=(j:Int):=by rw[Ps (by omega) (by omega)];omega
   rw[e,P2 (by omega:j<a.length)];grind) (by unfold Pm;simp) n (by unfold Qa at hn;omega)
 unfold Pr;rw[hr];cases r with
 |inl k=>exact⟨_,rfl⟩
 |inr b=>exact⟨_,rfl⟩
theorem RR(n:Nat)(hn:Qa≤n)(a:Int×Int×List (Int×Int)×Int×Int×Int×Int)(ha:a.2.2.1.length≤1048576):∃b,P5 n a.1 a.2.1 a.2.2.1 a.2.2.2.1 a.2.2.2.2.1 a.2.2.2.2.2.1 a.2.2.2.2.2.2=some b∧QG n a.1 a.2.1 a.2.2.1 a.2.2.2.1 a.2.2.2.2.1 a.2.2.2.2.2.1 a.2.2.2.2.2.2=some b:=by
 obtain⟨k,d,l,i,p,s,m⟩:=a;obtain⟨b,hb⟩:=Qn n hn l ha;dsimp only;unfold P5 QG Qz QE;simp only[TY,SU,hb,Qe,lr];rw[show(((l.length:Int))==0)=decide (l.length=0) by rw[Bool.eq_iff_iff];simp];generalize hi:(i==0)=bi;generalize hp:(p==0)=bp;generalize hs:(s==0)=bs;generalize hm:(m==0)=bm;generalize hd:(d==0)=bd;generalize hl:decide ((l.length:Int)>0)=bl;generalize XB:decide (l.length=0)=bl0;generalize (decide (0≤d)&&decide (d≤99))=c1;generalize (decide (1≤i)&&decide (i≤999999))=c2;generalize (decide (1≤p)&&decide (p≤999))=c3;generalize (decide (1≤s)&&decide (s≤50))=c4;generalize (decide (1≤m)&&decide (m≤1000))=c5;generalize (decide (1≤m)&&decide (m≤50))=c6;clear hi hp hs hm hd hl XB hb;cases(k==1)with
 |true=>cases bi<;>cases bp<;>cases bs<;>cases bm<;>cases b<;>cases bl<;>cases c1<;>cases bd<;>cases bl0<;>exact⟨_,rfl,rfl⟩
 |false=>
  cases(k==2)with
  |true=>cases bd<;>cases bl0<;>cases bp<;>cases bs<;>cases bm<;>cases c2<;>exact⟨_,rfl,rfl⟩
  |false=>
   cases(k==3)with
   |true=>cases bd<;>cases bl0<;>cases bi<;>cases c3<;>cases c4<;>cases c5<;>exact⟨_,rfl,rfl⟩
   |false=>
    cases(k==4)with
    |true=>cases bd<;>cases bl0<;>cases bi<;>cases bp<;>cases bs<;>cases c6<;>exact⟨_,rfl,rfl⟩
    |false=>exact⟨_,rfl,by cases bd<;>rfl⟩
def Qu(c:UInt8):List UInt8→List (List UInt8)
 | []=>[[]]
 |x::r=>bif x==c then []::Qu c r else match Qu c r with
  | []=>[[x]]
  |p::ps=>(x::p)::ps
theorem Rb(c:UInt8):∀s,Qu c s≠[]
 | []=>by simp[Qu]
 |x::r=>by
  unfold Qu;cases x==c with
  |true=>simp
  |false=>
   rw[ly];cases Qu c r<;>simp
theorem Q2{c:UInt8}:∀ {s:List UInt8},c∉s→Qu c s=[s]
 | [],_=>rfl
 |x::r,h=>by
  have h1:(x==c)=false:=by rw[lz];intro e;exact h (by rw[e];exact kR)
  unfold Qu;rw[h1,ly,Q2 fun hh=>h (kB _ hh)]
theorem RX{c:UInt8}:∀ {a b:List UInt8},c∉a→Qu c (a++c::b)=a::Qu c b
 | [],b,_=>by simp[Qu]
 |x::a,b,h=>by
  have h1:(x==c)=false:=by rw[lz];intro e;exact h (by rw[e];exact kR)
  rw[lJ];show(bif x==c then _ else _)=_;rw[h1,ly,RX fun hh=>h (kB _ hh)]
theorem index_none{c:UInt8}{s:List UInt8}(h:Go.Lib.index s [c] = -1):c∉s:=by rw[Go.Lib.index_one]at h;intro hm;obtain⟨k,hk⟩:=ko hm;exact Go.Lib.indexByte_none h k hk
theorem index_hit{c:UInt8}{s:List UInt8}{o:Nat}(h:Go.Lib.index s [c]=(o:Int)):s=s.take o++c::s.drop (o+1)∧c∉s.take o:=by
 rw[Go.Lib.index_one]at h;obtain⟨h1,h2⟩:=Go.Lib.indexByte_some h;have Vs:=(j9.1 h1).1;have hg:s[o]=c:=(j9.1 h1).2;refine⟨?_,fun hm=>?_⟩
 ·conv=>lhs;rw[←List.take_append_drop o s]
  rw[mE Vs,hg]
 ·obtain⟨k,hk⟩:=ko hm;rw[List.getElem?_take]at hk;split at hk
  ·exact h2 k (by assumption) hk
  ·cases hk
theorem Q6(c:UInt8)(s:List UInt8):Go.Lib.index s [c] = -1∨∃o:Nat,Go.Lib.index s [c]=(o:Int):=by
 have:=Go.Lib.indexByte_ge s c;rw[←Go.Lib.index_one]at this;rcases Int.lt_or_le (Go.Lib.index s [c]) 0 with h|h
 ·exact .inl (by omega)
 ·exact .inr ⟨(Go.Lib.index s [c]).toNat,by omega⟩
theorem Rv(c:UInt8):∀(k:Nat)(s:List UInt8),s.count c≤k→Go.Lib.splitK [c] 0 k s=Qu c s
 |0,s,h=>by
  have:c∉s:=fun hm=>by have:=List.count_pos_iff.2 hm;omega
  rw[Q2 this];rfl
 |k+1,s,h=>by
  unfold Go.Lib.splitK;rcases Q6 c s with e|⟨o,e⟩
  ·rw[e,Q2 (index_none e)];rfl
  ·obtain⟨h1,h2⟩:=index_hit e;have Vv:¬((Go.Lib.index s [c] == -1)=true):=by rw[e,kI];omega
   rw[kG Vv,e,l7,kz,l5]
   have ZS:s.count c=(s.take o).count c+(1+(s.drop (o+1)).count c):=by
    conv=>lhs;rw[h1]
    rw[List.count_append,List.count_cons_self];omega
   rw[Rv c k (s.drop (o+1)) (by omega)]
   conv=>rhs;rw[h1,RX h2]
theorem S1(s:List UInt8)(c:UInt8):Go.Lib.split s [c]=Qu c s:=by unfold Go.Lib.split;rw[Go.Lib.count_one];exact Rv c _ s (kT _)
theorem S9{c:UInt8}{s:List UInt8}(h:c∉s):Go.Lib.cut s [c]=(s,[],false):=by
 unfold Go.Lib.cut;rcases Q6 c s with e|⟨o,e⟩
 ·rw[e];rfl
 ·have:=index_hit e;exact(h (by rw[this.1];simp)).elim
theorem Sh{c:UInt8}{a b:List UInt8}(h:c∉a):Go.Lib.cut (a++c::b) [c]=(a,b,true):=by
 unfold Go.Lib.cut;rcases Q6 c (a++c::b)with e|⟨o,e⟩
 ·exact(index_none e (by simp)).elim
 ·obtain⟨h1,h2⟩:=index_hit e
  have ho:o=a.length:=by
   have g1:(a++c::b)[o]?=some c:=by rw[Go.Lib.index_one]at e;exact(Go.Lib.indexByte_some e).1
   rcases Nat.lt_trichotomy o a.length with q|q|q
   ·rw[lP q]at g1;exact(h (kC g1)).elim
   ·exact q
   ·refine(h2 (kC (i:=a.length) ?_)).elim;rw[List.getElem?_take,kF q];simp
  subst ho;rw[e,kF (by omega),l7,l5];simp
theorem RL{s:List UInt8}{a i:Nat}:sub s a i=(s.take i).drop a:=by unfold sub;rw[List.drop_take]
theorem Rh(s:List UInt8)(c:UInt8)(hl:s.length≤1048576)(n:Nat)(hn:Qa≤n):QF n s (c.toNat:Int)=some (Qu c s):=by
 have key:∀(d i from_:Nat) (out:List (List UInt8)) (m:Nat),i+d=s.length→from_≤i→out.length≤from_→c∉(s.take i).drop from_→d+2≤m→
   Go.Ev.iter m (Pq s (c.toNat:Int)) (out,(from_:Int),(i:Int))=some (out++Qu c (s.drop from_),((s.length+1:Nat):Int),((s.length+1:Nat):Int)):=by
  intro d
  induction d with
  |zero=>
   intro i from_ out m hi hf ho Yv hm;obtain⟨m,rfl⟩:∃k,m=k+2:=⟨m-2,by omega⟩;have hi:i=s.length:=hi;subst hi;rw[mG]at Yv
   have e1:Pq s (c.toNat:Int) (out,(from_:Int),((s.length:Nat):Int))=some (.inl (out++[s.drop from_],((s.length+1:Nat):Int),((s.length+1:Nat):Int))):=by
    unfold Pq;dsimp only
    rw[show decide (((s.length:Nat):Int)≤(s.length:Int))=true by simp,lu,l9,lu,lr,lu,
     show(decide ((0:Int)≤(from_:Int))&&decide ((from_:Int)≤((s.length:Nat):Int))&&true)=true by simp;omega,lu,Ps (n:=((s.length:Nat):Int)+1) (by omega) (by omega)]
    have Wb:sub s ((from_:Int).toNat) (((s.length:Nat):Int).toNat)=s.drop from_:=by rw[l7,l7,RL,mG]
    rw[Wb,show decide (out.length+[s.drop from_].length≤Di)=true by rw[kV,l5];unfold Di;omega];rfl
   have e2:Pq s (c.toNat:Int) (out++[s.drop from_],((s.length+1:Nat):Int),((s.length+1:Nat):Int))=some (.inr (out++[s.drop from_],((s.length+1:Nat):Int),((s.length+1:Nat):Int))):=by unfold Pq;dsimp only;rw[show decide (((s.length+1:Nat):Int)≤(s.length:Int))=false by rw[kb];omega];rfl
   rw[QD e1,Pt e2,Q2 Yv]
  |succ d ih=>
   intro i from_ out m hi hf ho Yv hm;obtain⟨m,rfl⟩:∃k,m=k+1:=⟨m-1,by omega⟩;have Vs:i<s.length:=by omega
   have jf:s.take (i+1)=s.take i++[s[i]]:=by rw[mF,j7 Vs];rfl
   have gH:from_≤(s.take i).length:=by rw[List.length_take];omega
   have jo:(decide ((0:Int)≤(from_:Int))&&decide ((from_:Int)≤(i:Int))&&true)=true:=by simp;omega
   by_cases hx:s[i]=c
   ·have e1:Pq s (c.toNat:Int) (out,(from_:Int),(i:Int))=some (.inl (out++[(s.take i).drop from_],((i+1:Nat):Int),((i+1:Nat):Int))):=by
     unfold Pq;dsimp only
     rw[show decide ((i:Int)≤(s.length:Int))=true by simp;omega,lu,show((i:Int)==(s.length:Int))=false by rw[lz];omega,ly,P2 Vs,lr,hx,l9,lr,lu,jo,lu,l7,l7,RL,
      show decide (out.length+[(s.take i).drop from_].length≤Di)=true by rw[kV,l5];unfold Di;omega,Ps (n:=(i:Int)+1) (by omega) (by omega)]
     rfl
    rw[QD e1,ih (i+1) (i+1) _ m (by omega) (kT _) (by rw[lC,l5];omega) (by rw[List.drop_eq_nil_of_le (by rw[List.length_take];omega)];simp) (by omega)]
    have gR:s.drop from_=(s.take i).drop from_++c::s.drop (i+1):=by
     conv=>lhs;rw[←List.take_append_drop i s]
     rw[List.drop_append_of_le_length gH,mE Vs,hx]
    rw[gR,RX Yv,List.append_assoc];rfl
   ·have e1:Pq s (c.toNat:Int) (out,(from_:Int),(i:Int))=some (.inl (out,(from_:Int),((i+1:Nat):Int))):=by
     unfold Pq;dsimp only
     rw[show decide ((i:Int)≤(s.length:Int))=true by simp;omega,lu,show((i:Int)==(s.length:Int))=false by rw[lz];omega,ly,P2 Vs,lr,
      show(((s[i].toNat:Nat):Int)==(c.toNat:Int))=false by rw[lz];intro e;exact hx (UInt8.toNat_inj.1 (by omega)),Ps (n:=(i:Int)+1) (by omega) (by omega)]
     rfl
    rw[QD e1];refine ih (i+1) from_ out m (by omega) (by omega) ho ?_ (by omega);rw[jf,List.drop_append_of_le_length gH];intro hm;rcases lW.1 hm with hm|hm
    ·exact Yv hm
    ·exact hx (km.1 hm).symm
 have h0:=key s.length 0 0 [] n (by omega) (kT _) (kT _) (by simp) (by unfold Qa at hn;omega);unfold QF;rw[show((0:Nat):Int)=0 from rfl]at h0;rw[h0];rfl
theorem SG(u:Nat)(h:u<10):bytesOf [(IntKind.wrap .u8 (P8 (48+(u:Int))))]=[UInt8.ofNat (48+u)]:=by
 rw[Ps (by omega) (by omega)]
 have:IntKind.wrap .u8 (48+(u:Int))=48+(u:Int):=by unfold IntKind.wrap;simp only[IntKind.bits,IntKind.signed];simp;omega
 rw[this];unfold bytesOf;simp only[lQ,List.map_nil,List.cons.injEq,and_true];congr 1
theorem Rq(u:Nat)(h:u≤9223372036854775807):(Go.Lib.decDigits u).length≤21:=by have:=Go.Lib.itoa_length_le (u:Int) (by omega) (by omega);rwa[Go.Lib.itoa_nonneg]at this
theorem TL:∀(u n:Nat),u<n→u≤9223372036854775807→Pz n (u:Int)=some (Go.Lib.decDigits u):=by
 intro u
 induction u using Nat.strongRecOn with
 |_ u ih=>
  intro n hn hu;obtain⟨m,rfl⟩:∃m,n=m+1:=⟨n-1,by omega⟩;show(bif(decide ((u:Int)<0))then _ else bif(decide ((u:Int)<10))then _ else _)=_;rw[show decide ((u:Int)<0)=false by simp,ly];by_cases h:u<10
  ·rw[show decide ((u:Int)<10)=true by simp;omega,lu,SG u h,Go.Lib.decDigits,dif_pos h]
  ·rw[show decide ((u:Int)<10)=false by simp;omega,ly];have e1:Int.tdiv (u:Int) 10=((u / 10:Nat):Int):=by rw[Int.tdiv_eq_ediv_of_nonneg (by omega)];omega
   have e2:Int.tmod (u:Int) 10=((u%10:Nat):Int):=by rw[mD (by omega)];omega
   rw[e1,e2,Ps (by omega) (by omega),ih (u / 10) (by omega) m (by omega) (by omega),SG (u%10) (by omega)];simp only[lr,lT,mB];have:=Rq (u / 10) (by omega);rw[show decide ((Go.Lib.decDigits (u / 10)).length+(0+1)≤4611686018427387904)=true by simp;omega,lu]
   conv=>rhs;rw[Go.Lib.decDigits,dif_neg h]
def tx(x:Int):List UInt8:=Go.Lib.decDigits x.toNat
theorem QC(x:Int)(h0:0≤x)(h:x≤9223372036854775807):(tx x).length≤21:=Rq _ (by omega)
theorem QI(x:Int)(h0:0≤x)(h:x≤9223372036854775807)(n:Nat)(hn:Qa≤n):Pz n x=some (tx x):=by
 obtain⟨u,rfl⟩:∃u:Nat,x=u:=⟨x.toNat,by omega⟩;exact TL u n (by unfold Qa at hn;omega) (by omega)
theorem Qd(x:Int)(h0:0≤x)(h:x≤9223372036854775807):K3 x=some (tx x):=by unfold K3;rw[show(decide (-9223372036854775808≤x)&&decide (x≤9223372036854775807))=true by simp;omega,lu];obtain⟨u,rfl⟩:∃u:Nat,x=u:=⟨x.toNat,by omega⟩;rw[Go.Lib.itoa_nonneg];rfl
theorem Px{a b:Nat}(h:a+b≤1000000000):decide (a+b≤4611686018427387904)=true:=by simp;omega
def QB(x:Int×Int):List UInt8:=32::(tx x.1++58::tx x.2)
def QX(x:Int×Int):Prop:=1≤x.1∧x.1≤50∧1≤x.2∧x.2≤1000
theorem RN(n:Nat)(hn:Qa≤n)(a:List (Int×Int))(ha:a.length≤1048576)(h:Pr n a=some true):(∀x∈a,QX x):=by
 have key:∀P:Nat→Bool,(∀i:Nat,i<a.length→Pm a (i:Int)=some (bif P i then .inl ((i+1:Nat):Int)else .inr (.inr false)))→∀i,i<a.length→P i=true:=by
  intro P hP i hi
  have hl:=SD (Pm a) (List.range a.length) P (fun i x h1 h2=>by
   have hx:x=i:=by rw[List.getElem?_range (by simpa using h1)]at h2;exact(Option.some.inj h2).symm
   subst hx;exact hP _ (by simpa using h1)) (by unfold Pm;simp) n (by unfold Qa at hn;simp;omega)
  unfold Pr at h;rw[hl]at h;cases Wa:(List.range a.length).all P with
  |false=>rw[Wa]at h;simp at h
  |true=>exact kL.1 Wa i (by simpa using hi)
 intro x hx;obtain⟨i,hi,rfl⟩:=List.getElem_of_mem hx
 have:=key (fun i=>match a[i]? with
  |some x=>(decide (1≤x.1)&&decide (x.1≤50))&&(decide (1≤x.2)&&decide (x.2≤1000))&&(match i with
   |0=>true
   |j+1=>match a[j]? with
    |some y => !decide (y.1≥x.1)
    |none=>true)
  |none=>true) (fun i hi=>by
  unfold Pm;rw[show decide ((i:Int)<(a.length:Int))=true by simp only[kV];omega,lu,P2 hi,QW hi (by omega),j7 hi];simp only[lr,Qe];by_cases h0:i=0
  ·subst h0;simp;cases decide (1≤(a[0]).1)<;>cases decide ((a[0]).1≤50)<;>cases decide (1≤(a[0]).2)<;>cases decide ((a[0]).2≤1000)<;>simp
  ·obtain⟨j,rfl⟩:∃j,i=j+1:=⟨i-1,by omega⟩;have e:P8 (((j+1:Nat):Int)-1)=(j:Int):=by rw[Ps (by omega) (by omega)];omega
   rw[e,P2 (by omega:j<a.length)];simp only[lr];rw[j7 (by omega:j<a.length)];dsimp only;have e2:decide (((j+1:Nat):Int)>0)=true:=by simp only[kV];omega
   rw[e2];generalize (decide (1≤(a[j+1]).1)&&decide ((a[j+1]).1≤50))=b1;generalize (decide (1≤(a[j+1]).2)&&decide ((a[j+1]).2≤1000))=b2;generalize decide ((a[j]).1≥(a[j+1]).1)=b3;cases b1<;>cases b2<;>cases b3<;>simp) i hi
 rw[j7 hi]at this;simp only[j8,kV]at this;exact⟨this.1.1.1,this.1.1.2,this.1.2.1,this.1.2.2⟩
theorem RU(x:Int×Int)(h:QX x):(QB x).length≤50:=by obtain⟨h1,h2,h3,h4⟩:=h;have:=QC x.1 (by omega) (by omega);have:=QC x.2 (by omega) (by omega);unfold QB;simp;omega
theorem Rs(L:List UInt8×Int→Option ((List UInt8×Int)⊕(List UInt8×Int)))(a:List (Int×Int))(ha:a.length≤1048576)
  (hL:∀(i:Nat)(h:i<a.length)(s:List UInt8),s.length≤100+50*i→L (s,(i:Int))=some (.inl (s++QB a[i],((i+1:Nat):Int)))) (Vm:∀x∈a,QX x) (jH:∀s,L (s,(a.length:Int))=some (.inr (s,(a.length:Int)))) (n:Nat) (hn:Qa≤n) (s:List UInt8) (hs:s.length≤100):
  iter n L (s,0)=some (s++a.flatMap QB,(a.length:Int)):=by
 have:=RV (σ:=List UInt8) L (fun i s=>(s,(i:Int))) a (fun l s=>(s++l.flatMap QB,(a.length:Int))) (fun i s=>s.length≤100+50*i)
  (fun s hs=>by rw[jH s];simp) (fun i x l s h1 h2 h3 h4 h5=>by
   left;have hx:a[i]=x:=by rw[j7 h1]at h2;exact Option.some.inj h2
   refine⟨s++QB a[i],hL i h1 s h5,?_,?_⟩
   ·have:=RU a[i] (Vm _ (l6 h1));rw[lC];omega
   ·rw[hx];simp) n (by unfold Qa at hn;omega) s (by simpa using hs)
 simpa using this
theorem R1:∀(a:List (Int×Int)),(∀x∈a,QX x)→(a.flatMap QB).length≤50*a.length
 | [],_=>by simp
 |x::a,h=>by have h1:=RU x (h x kR);have h2:=R1 a (fun y hy=>h y (kB _ hy));rw[ke,lC,lT];omega
theorem SC(n:Nat)(k d:Int)(l:List (Int×Int))(i p s m:Int)(h:P5 n k d l i p s m=some true)(hb:∃b,Pr n l=some b):
  (k==1)=true∧(0≤d∧d≤99)∧Pr n l=some true∨(k==1)=false∧(k==2)=true∧(1≤i∧i≤999999) ∨
  (k==1)=false∧(k==2)=false∧(k==3)=true∧(1≤p∧p≤999)∧(1≤s∧s≤50)∧(1≤m∧m≤1000)∨(k==1)=false∧(k==2)=false∧(k==3)=false∧(1≤m∧m≤50):=by
 obtain⟨b,hb⟩:=hb;unfold P5 QE at h;simp only[hb,Qe,lr]at h;rw[hb];have two:∀ {x y z:Int},(decide (x≤y)&&decide (y≤z))=true→x≤y∧y≤z:=fun h=>by simpa using h
 generalize hi:(i==0)=bi at h;generalize hp:(p==0)=bp at h;generalize hs:(s==0)=bs at h;generalize hm:(m==0)=bm at h;generalize hd:(d==0)=bd at h;generalize hl:decide ((l.length:Int)>0)=bl at h;generalize XB:((l.length:Int)==0)=bl0 at h;generalize g1:(decide (0≤d)&&decide (d≤99))=c1 at h;generalize g2:(decide (1≤i)&&decide (i≤999999))=c2 at h;generalize g3:(decide (1≤p)&&decide (p≤999))=c3 at h;generalize g4:(decide (1≤s)&&decide (s≤50))=c4 at h;generalize g5:(decide (1≤m)&&decide (m≤1000))=c5 at h;generalize g6:(decide (1≤m)&&decide (m≤50))=c6 at h;cases h1:(k==1)with
 |true=>
  rw[h1]at h;left
  have:b=true∧c1=true:=by
   clear g1 g2 g3 g4 g5 g6 hi hp hs hm hd hl XB hb h1
   revert h
   cases bi<;>cases bp<;>cases bs<;>cases bm<;>cases b<;>cases bl<;>cases c1<;>intro h<;>first|exact⟨rfl,rfl⟩|(cases h)
  rw[this.2]at g1;exact⟨rfl,two g1,by rw[this.1]⟩
 |false=>
  rw[h1]at h;right;cases h2:(k==2)with
  |true=>
   rw[h2]at h;left
   have:c2=true:=by
    clear g1 g2 g3 g4 g5 g6 hi hp hs hm hd hl XB hb h1 h2
    revert h
    cases bd<;>cases bl0<;>cases bp<;>cases bs<;>cases bm<;>cases c2<;>intro h<;>first|rfl|(cases h)
   rw[this]at g2;exact⟨rfl,rfl,two g2⟩
  |false=>
   rw[h2]at h;right;cases h3:(k==3)with
   |true=>
    rw[h3]at h;left
    have:c3=true∧c4=true∧c5=true:=by
     clear g1 g2 g3 g4 g5 g6 hi hp hs hm hd hl XB hb h1 h2 h3
     revert h
     cases bd<;>cases bl0<;>cases bi<;>cases c3<;>cases c4<;>cases c5<;>intro h<;>first|exact⟨rfl,rfl,rfl⟩|(cases h)
    rw[this.1]at g3;rw[this.2.1]at g4;rw[this.2.2]at g5;exact⟨rfl,rfl,rfl,two g3,two g4,two g5⟩
   |false=>
    rw[h3]at h;right
    have:c6=true:=by
     clear g1 g2 g3 g4 g5 g6 hi hp hs hm hd hl XB hb h1 h2 h3
     revert h
     cases(k==4)<;>cases bd<;>cases bl0<;>cases bi<;>cases bp<;>cases bs<;>cases c6<;>intro h<;>first|rfl|(cases h)
    rw[this]at g6;exact⟨rfl,rfl,rfl,two g6⟩
theorem SQ(n:Nat)(hn:Qa≤n)(a:Int×Int×List (Int×Int)×Int×Int×Int×Int)(ha:a.2.2.1.length≤1048576):
  ∃t,QK n a.1 a.2.1 a.2.2.1 a.2.2.2.1 a.2.2.2.2.1 a.2.2.2.2.2.1 a.2.2.2.2.2.2=some t∧QJ n a.1 a.2.1 a.2.2.1 a.2.2.2.1 a.2.2.2.2.1 a.2.2.2.2.2.1 a.2.2.2.2.2.2=some t∧t.length≤100000000:=by
 obtain⟨b,h1,h2⟩:=RR n hn a ha;obtain⟨k,d,l,i,p,s,m⟩:=a;dsimp only at ha h1 h2 ⊢;unfold QK QJ;rw[h1,h2];simp only[lr];cases b with
 |false=>exact⟨[],rfl,rfl,by simp⟩
 |true=>
  simp only[mA,ly];rcases SC n k d l i p s m h1 (Qn n hn l ha)with⟨k1,hd,hI⟩|⟨k1,k2,hi⟩|⟨k1,k2,k3,hp,hs,hm⟩|⟨k1,k2,k3,hm⟩
  ·simp only[k1,lu];have Vm:=RN n hn l ha hI;have ld:=QC d (by omega) (by omega);rw[QI d (by omega) (by omega) n hn,Qd d (by omega) (by omega)];simp only[lr];rw[Px (by simp;omega)];simp only[lu];have one:=fun L hL he=>Rs L l ha hL Vm he n hn ([111,114,100,101,114,32]++tx d) (by simp;omega)
   rw[one (P6 n l) (fun j hj st Xq=>by
    obtain⟨q1,q2,q3,q4⟩:=Vm _ (l6 hj);have l1:=QC (l[j]).1 (by omega) (by omega);have l2:=QC (l[j]).2 (by omega) (by omega);unfold P6;dsimp only;rw[show decide ((j:Int)<(l.length:Int))=true by simp only[kV];omega,lu,P2 hj,QW hj (by omega)];simp only[lr];rw[QI _ (by omega) (by omega) n hn,QI _ (by omega) (by omega) n hn];simp only[lr];rw[Px (by simp;omega),Px (by simp;omega),Px (by simp;omega),Px (by simp;omega)];simp only[lu,QB];simp) (fun st=>by unfold P6;simp),
    one (QU l) (fun j hj st Xq=>by
    obtain⟨q1,q2,q3,q4⟩:=Vm _ (l6 hj);have l1:=QC (l[j]).1 (by omega) (by omega);have l2:=QC (l[j]).2 (by omega) (by omega);unfold QU;dsimp only;rw[show decide ((j:Int)<(l.length:Int))=true by simp only[kV];omega,lu,P2 hj,QW hj (by omega)];simp only[lr];rw[Qd _ (by omega) (by omega),Qd _ (by omega) (by omega)];simp only[lr];rw[Px (by simp;omega),Px (by simp;omega),Px (by simp;omega),Px (by simp;omega)];simp only[lu,QB];simp) (fun st=>by unfold QU;simp)]
   have:=R1 l Vm;exact⟨_,rfl,rfl,by simp only[lC,lT,mB];omega⟩
  ·simp only[k1,k2,lu,ly];have li:=QC i (by omega) (by omega);rw[QI i (by omega) (by omega) n hn,Qd i (by omega) (by omega)];simp only[lr];rw[Px (by simp;omega)];exact⟨_,rfl,rfl,by simp;omega⟩
  ·simp only[k1,k2,k3,lu,ly];have l1:=QC p (by omega) (by omega);have l2:=QC s (by omega) (by omega);have l3:=QC m (by omega) (by omega);rw[QI p (by omega) (by omega) n hn,QI s (by omega) (by omega) n hn,QI m (by omega) (by omega) n hn,Qd p (by omega) (by omega),Qd s (by omega) (by omega),Qd m (by omega) (by omega)];simp only[lr];rw[Px (by simp;omega),Px (by simp;omega),Px (by simp;omega),Px (by simp;omega),Px (by simp;omega)];exact⟨_,rfl,rfl,by simp;omega⟩
  ·simp only[k1,k2,k3,lu,ly];have l3:=QC m (by omega) (by omega);rw[QI m (by omega) (by omega) n hn,Qd m (by omega) (by omega)];simp only[lr];rw[Px (by simp;omega)];exact⟨_,rfl,rfl,by simp;omega⟩
theorem Re:∀(l r:List UInt8)(acc:Nat),Go.Lib.decFrom acc (l++r)=(Go.Lib.decFrom acc l).bind fun a=>Go.Lib.decFrom a r
 | [],r,acc=>rfl
 |b::l,r,acc=>by
  rw[lJ,Go.Lib.decFrom,Go.Lib.decFrom];cases Go.Lib.digitVal b with
  |none=>rfl
  |some d=>exact Re l r _
theorem RC:∀u:Fin 10,Go.Lib.digitVal (UInt8.ofNat (48+u.1))=some u.1∧(UInt8.ofNat (48+u.1)).toNat=48+u.1:=by decide
theorem Rf(u:Nat):Go.Lib.decFrom 0 (Go.Lib.decDigits u)=some u:=by
 induction u using Nat.strongRecOn with
 |_ u ih=>
  rw[Go.Lib.decDigits];by_cases h:u<10
  ·rw[dif_pos h];unfold Go.Lib.decFrom;rw[(RC ⟨u,h⟩).1];simp[Go.Lib.decFrom]
  ·rw[dif_neg h,Re,ih (u / 10) (by omega),lr];unfold Go.Lib.decFrom;rw[(RC ⟨u%10,Nat.mod_lt _ (by omega)⟩).1];simp only[Go.Lib.decFrom,Option.some.injEq];omega
theorem SF(u:Nat):∃b r,Go.Lib.decDigits u=b::r∧48≤b.toNat∧b.toNat≤57∧(1≤u→b.toNat≠48)∧(u=0→r=[]):=by
 induction u using Nat.strongRecOn with
 |_ u ih=>
  rw[Go.Lib.decDigits];by_cases h:u<10
  ·rw[dif_pos h];have:(UInt8.ofNat (48+u)).toNat=48+u:=(RC ⟨u,h⟩).2;exact⟨_,[],rfl,by omega,by omega,fun h1=>by omega,fun _=>rfl⟩
  ·rw[dif_neg h];obtain⟨b,r,e,h1,h2,h3,_⟩:=ih (u / 10) (by omega);rw[e];exact⟨b,_,rfl,h1,h2,fun _=>h3 (by omega),fun h0=>by omega⟩
theorem Rk:∀(k u:Nat),u<10 ^ (k+1)→(Go.Lib.decDigits u).length≤k+1
 |0,u,h=>by rw[Go.Lib.decDigits,dif_pos (by simpa using h)];simp
 |k+1,u,h=>by
  rw[Go.Lib.decDigits];by_cases h1:u<10
  ·rw[dif_pos h1];simp
  ·rw[dif_neg h1,lC,l5];have:=Rk k (u / 10) (by rw[Nat.pow_succ]at h;omega);omega
theorem Rp:∀(l:List UInt8)(acc u:Nat),Go.Lib.decFrom acc l=some u→acc≤u
 | [],acc,u,h=>by
  have:acc=u:=by simpa[Go.Lib.decFrom]using h
  omega
 |b::l,acc,u,h=>by
  unfold Go.Lib.decFrom at h;cases hd:Go.Lib.digitVal b with
  |none=>rw[hd]at h;cases h
  |some d=>
   rw[hd]at h;have:=Rp l _ _ h;omega
theorem R7{b:UInt8}{d:Nat}(h:Go.Lib.digitVal b=some d):b.toNat=48+d∧d<10:=by unfold Go.Lib.digitVal at h;grind
theorem Q4(v:Int)(h0:0≤v)(h1:v≤999999):Lo (tx v)=(v,true):=by
 obtain⟨u,rfl⟩:∃u:Nat,v=(u:Int):=⟨v.toNat,by omega⟩;have hl:(Go.Lib.decDigits u).length≤6:=Rk 5 u (by omega);have ht:tx (u:Int)=Go.Lib.decDigits u:=rfl;obtain⟨b,r,e,b1,b2,_⟩:=SF u
 have ha:Go.Lib.atoi (Go.Lib.decDigits u)=some (u:Int):=by
  have hd:=Rf u;rw[e]at hd ⊢;unfold Go.Lib.atoi;have n45:¬((b==45)=true):=fun h=>by have:=kI.1 h;subst this;simp at b1
  have n43:¬((b==43)=true):=fun h=>by have:=kI.1 h;subst this;simp at b1
  dsimp only;rw[kG n45,kG n43];unfold Go.Lib.decNat;rw[kG (by simp),hd];rfl
 unfold Lo;rw[ht,Go.Lib.atoiAll_short _ (by omega),ha];show(if(u:Int)<0∨6<(Go.Lib.decDigits u).length∨Go.Lib.itoa (u:Int)≠Go.Lib.decDigits u then((0:Int),false)else((u:Int),true))=_;rw[kG]
 rintro (h|h|h)
 ·omega
 ·omega
 ·exact h (Go.Lib.itoa_nonneg u)
theorem Rl{s:List UInt8}{v:Int}(h:Lo s=(v,true)):0≤v∧s.length≤6∧s=tx v:=by
 unfold Lo at h;split at h
 ·rename_i w hw;split at h
  ·cases h
  ·rename_i hn;injection h with h _
   subst h;refine⟨by omega,by omega,?_⟩;have he:Go.Lib.itoa w=s:=kg fun q=>hn (.inr (.inr q));rw[←he];obtain⟨u,rfl⟩:∃u:Nat,w=(u:Int):=⟨w.toNat,by omega⟩;exact Go.Lib.itoa_nonneg u
 ·cases h
theorem SL(s:List UInt8)(hs:s.length≤1048576):∀(l:List UInt8)(i acc u m:Nat),s.drop i=l→i+l.length=s.length→Go.Lib.decFrom acc l=some u→u≤1000000000→l.length+1≤m→Go.Ev.iter m (Pp s) ((acc:Int),(i:Int))=some (.inl ((u:Int),(s.length:Int)))
 | [],i,acc,u,m,h1,h2,h3,h4,h5=>by
  obtain⟨m,rfl⟩:∃k,m=k+1:=⟨m-1,by simp at h5;omega⟩;have hi:i=s.length:=by simpa using h2
  subst hi;have hu:acc=u:=by simpa[Go.Lib.decFrom]using h3
  subst hu;refine Pt ?_ m;unfold Pp;dsimp only;rw[show decide (((s.length:Nat):Int)<(s.length:Int))=false by simp];rfl
 |b::l,i,acc,u,m,h1,h2,h3,h4,h5=>by
  rw[lT]at h2 h5;obtain⟨m,rfl⟩:∃k,m=k+1:=⟨m-1,by omega⟩;have Vs:i<s.length:=by omega
  have hd:=mE Vs;rw[h1]at hd;injection hd with hb hl
  rw[Go.Lib.decFrom]at h3;cases hv:Go.Lib.digitVal b with
  |none=>rw[hv]at h3;cases h3
  |some d=>
   rw[hv]at h3;obtain⟨n1,n2⟩:=R7 hv;have Wg:=Rp l _ _ h3
   have hw:IntKind.wrap .u8 ((b.toNat:Int)-48)=(d:Int):=by rw[n1];unfold IntKind.wrap;simp only[IntKind.bits,IntKind.signed];simp;omega
   have e1:Pp s ((acc:Int),(i:Int))=some (.inl (((acc*10+d:Nat):Int),((i+1:Nat):Int))):=by
    unfold Pp;dsimp only
    rw[show decide ((i:Int)<(s.length:Int))=true by simp;omega,lu,P2 Vs,←hb,lr,Qe,lr,Ps (n:=(b.toNat:Int)) (by omega) (by omega),
     show(decide ((48:Int)≤(b.toNat:Int))&&decide ((b.toNat:Int)≤57))=true by simp;omega,mA,ly,lr,hw,Ps (n:=(acc:Int)*10) (by omega) (by omega),Ps (n:=(d:Int)) (by omega) (by omega),Ps (n:=(acc:Int)*10+(d:Int)) (by omega) (by omega),Ps (n:=(i:Int)+1) (by omega) (by omega)]
    rfl
   rw[QD e1];exact SL s hs l (i+1) (acc*10+d) u m hl.symm (by omega) h3 h4 (by omega)
theorem Q3(v:Int)(h0:0≤v)(h1:v≤999999)(n:Nat)(hn:Qa≤n):Py n (tx v)=some v:=by
 obtain⟨u,rfl⟩:∃u:Nat,v=(u:Int):=⟨v.toNat,by omega⟩;have hl:(Go.Lib.decDigits u).length≤6:=Rk 5 u (by omega);have ht:tx (u:Int)=Go.Lib.decDigits u:=rfl;obtain⟨b,r,e,b1,b2,b3,b4⟩:=SF u;have YR:1≤(Go.Lib.decDigits u).length:=by rw[e];simp
 have jS:=SL (Go.Lib.decDigits u) (by omega) (Go.Lib.decDigits u) 0 0 u n rfl (by omega) (Rf u) (by omega) (by unfold Qa at hn;omega);rw[show((0:Nat):Int)=0 from rfl]at jS;unfold Py;rw[ht,Qe,lr,show(decide ((1:Int)≤((Go.Lib.decDigits u).length:Int))&&decide (((Go.Lib.decDigits u).length:Int)≤6))=true by simp;omega,mA,ly]
 have hz:(bif decide (((Go.Lib.decDigits u).length:Int)>1)then(NY (Go.Lib.decDigits u) 0).bind fun x2=>some (((x2.toNat:Int))==48)else some false)=some false:=by
  by_cases h2:((Go.Lib.decDigits u).length:Int)>1
  ·have hu:1≤u:=by
    rcases Nat.eq_zero_or_pos u with q|q
    ·rw[e,b4 q]at h2;simp at h2
    ·exact q
   have hg:NY (Go.Lib.decDigits u) 0=some b:=by rw[e];rfl
   rw[mC h2,lu,hg,lr];have:=b3 hu;rw[show(((b.toNat:Nat):Int)==48)=false by rw[lz];omega]
  ·rw[decide_eq_false h2];rfl
 rw[hz,lr,ly,jS,lr]
def P3(c:UInt8):List (List UInt8)→List UInt8
 | []=>[]
 | [p]=>p
 |p::q::r=>p++c::P3 c (q::r)
theorem Ru{c:UInt8}:∀ {ps:List (List UInt8)},(∀p∈ps,c∉p)→ps≠[]→Qu c (P3 c ps)=ps
 | [],_,h=>(h rfl).elim
 | [p],h,_=>Q2 (h p kR)
 |p::q::r,h,_=>by show Qu c (p++c::P3 c (q::r))=_;rw[RX (h p kR),Ru (fun x hx=>h x (kB _ hx)) (by simp)]
theorem join_cons(c:UInt8)(p:List UInt8){ps:List (List UInt8)}(h:ps≠[]):P3 c (p::ps)=p++c::P3 c ps:=by
 cases ps with
 |nil=>exact(h rfl).elim
 |cons q r=>rfl
theorem RW(c:UInt8):∀s:List UInt8,P3 c (Qu c s)=s
 | []=>rfl
 |x::r=>by
  have ih:=RW c r;have Vv:=Rb c r;unfold Qu;cases hx:x==c with
  |true=>
   rw[lu,join_cons c [] Vv,ih];have:=kI.1 hx;subst this;rfl
  |false=>
   rw[ly];cases hp:Qu c r with
   |nil=>exact(Vv hp).elim
   |cons p ps=>
    rw[hp]at ih;cases ps with
    |nil=>
     have ih:p=r:=ih;rw[ih];rfl
    |cons q qs=>
     show(x::p)++c::P3 c (q::qs)=_;have ih:p++c::P3 c (q::qs)=r:=ih;rw[lJ,ih]
theorem Q8{c:UInt8}:∀ {s:List UInt8},∀p∈Qu c s,c∉p
 | [],p,h=>by
  have:p=[]:=by simpa[Qu]using h
  rw[this];simp
 |x::r,p,h=>by
  unfold Qu at h;cases hx:x==c with
  |true=>
   rw[hx,lu]at h;rcases kS.1 h with rfl|h
   ·simp
   ·exact Q8 p h
  |false=>
   rw[hx,ly]at h;have js:x≠c:=by rw[lz]at hx;exact hx
   cases hp:Qu c r with
   |nil=>exact(Rb c r hp).elim
   |cons q qs=>
    rw[hp]at h;rcases kS.1 h with rfl|h
    ·have:=Q8 (c:=c) (s:=r) q (by rw[hp];exact kR);intro hm;rcases kS.1 hm with e|hm
     ·exact js e.symm
     ·exact this hm
    ·exact Q8 (c:=c) (s:=r) p (by rw[hp];exact kB _ h)
theorem TA(c:UInt8)(hc:c.toNat<48∨57<c.toNat)(u:Nat):c∉Go.Lib.decDigits u:=by
 induction u using Nat.strongRecOn with
 |_ u ih=>
  rw[Go.Lib.decDigits]
  have one:∀d:Nat,d<10→c∉[UInt8.ofNat (48+d)]:=fun d hd hm=>by have h1:c=UInt8.ofNat (48+d):=km.1 hm;have h2:(UInt8.ofNat (48+d)).toNat=48+d:=(RC ⟨d,hd⟩).2;rw[h1,h2]at hc;omega
  by_cases h:u<10
  ·rw[dif_pos h];exact one u h
  ·rw[dif_neg h];intro hm;rcases lW.1 hm with hm|hm
   ·exact ih (u / 10) (by omega) hm
   ·exact one (u%10) (Nat.mod_lt _ (by omega)) hm
theorem RJ(c:UInt8)(hc:c.toNat<48∨57<c.toNat)(v:Int):c∉tx v:=TA c hc _
def Po(x:Int×Int):List UInt8:=tx x.1++58::tx x.2
theorem Ry(x:Int×Int):(32:UInt8)∉Po x:=by
 unfold Po;intro hm;rcases lW.1 hm with hm|hm
 ·exact RJ 32 (by decide) _ hm
 ·rcases kS.1 hm with e|hm
  ·cases e
  ·exact RJ 32 (by decide) _ hm
theorem Qm(x:Int×Int):Qu 58 (Po x)=[tx x.1,tx x.2]:=by unfold Po;rw[RX (RJ 58 (by decide) _),Q2 (RJ 58 (by decide) _)]
def Pw(a:Int×Int×List (Int×Int)×Int×Int×Int×Int):List (List UInt8):=
 if a.1=1 then [111,114,100,101,114]::tx a.2.1::a.2.2.1.map Po
 else if a.1=2 then [[98,97,99,107],tx a.2.2.2.1]
 else if a.1=3 then [[112,117,116],tx a.2.2.2.2.1,tx a.2.2.2.2.2.1,tx a.2.2.2.2.2.2]
 else [[116,105,99,107],tx a.2.2.2.2.2.2]
theorem Sf(a:Int×Int×List (Int×Int)×Int×Int×Int×Int):∀p∈Pw a,(32:UInt8)∉p:=by
 have t:=RJ 32 (by decide);intro p hp;unfold Pw at hp;split at hp
 ·rcases kS.1 hp with rfl|hp
  ·decide
  rcases kS.1 hp with rfl|hp
  ·exact t _
  ·obtain⟨x,_,rfl⟩:=kt.1 hp;exact Ry x
 ·split at hp
  ·rcases kS.1 hp with rfl|hp
   ·decide
   ·rw[km.1 hp];exact t _
  ·split at hp
   ·rcases kS.1 hp with rfl|hp
    ·decide
    rcases kS.1 hp with rfl|hp
    ·exact t _
    rcases kS.1 hp with rfl|hp
    ·exact t _
    ·rw[km.1 hp];exact t _
   ·rcases kS.1 hp with rfl|hp
    ·decide
    ·rw[km.1 hp];exact t _
theorem R5(a:Int×Int×List (Int×Int)×Int×Int×Int×Int):Qu 32 (P3 32 (Pw a))=Pw a:=Ru (Sf a) (by unfold Pw;split;simp;split;simp;split;simp;simp)
theorem RO(p:List UInt8):∀l:List (Int×Int),P3 32 (p::l.map Po)=p++l.flatMap QB
 | []=>by simp[P3]
 |x::l=>by have ih:=RO (Po x) l;rw[lQ,join_cons 32 p (by simp),ih];simp[QB,Po]
theorem Rd(n:Nat)(hn:Qa≤n)(k d:Int)(l:List (Int×Int))(i p s m:Int)(ha:l.length≤1048576)(h1:P5 n k d l i p s m=some true):QK n k d l i p s m=some (P3 32 (Pw (k,d,l,i,p,s,m))):=by
 unfold QK;rw[h1];simp only[lr,mA,ly];rcases SC n k d l i p s m h1 (Qn n hn l ha)with⟨k1,hd,hI⟩|⟨k1,k2,hi⟩|⟨k1,k2,k3,hp,hs,hm⟩|⟨k1,k2,k3,hm⟩
 ·simp only[k1,lu];have Vm:=RN n hn l ha hI;have ld:=QC d (by omega) (by omega);rw[QI d (by omega) (by omega) n hn];simp only[lr];rw[Px (by simp;omega)];simp only[lu];have one:=fun L hL he=>Rs L l ha hL Vm he n hn ([111,114,100,101,114,32]++tx d) (by simp;omega)
  rw[one (P6 n l) (fun j hj st Xq=>by
   obtain⟨q1,q2,q3,q4⟩:=Vm _ (l6 hj);have l1:=QC (l[j]).1 (by omega) (by omega);have l2:=QC (l[j]).2 (by omega) (by omega);unfold P6;dsimp only;rw[show decide ((j:Int)<(l.length:Int))=true by simp only[kV];omega,lu,P2 hj,QW hj (by omega)];simp only[lr];rw[QI _ (by omega) (by omega) n hn,QI _ (by omega) (by omega) n hn];simp only[lr];rw[Px (by simp;omega),Px (by simp;omega),Px (by simp;omega),Px (by simp;omega)];simp only[lu,QB];simp) (fun st=>by unfold P6;simp),lr]
  have hk:k=1:=kI.1 k1;unfold Pw;rw[kF hk,join_cons 32 _ (by simp),RO];simp
 ·have n1:¬k=1:=lz.1 k1;have n2:k=2:=kI.1 k2;simp only[k1,k2,lu,ly];have li:=QC i (by omega) (by omega);rw[QI i (by omega) (by omega) n hn];simp only[lr];rw[Px (by simp;omega)];unfold Pw;rw[kG n1,kF n2];rfl
 ·have n1:¬k=1:=lz.1 k1;have n2:¬k=2:=lz.1 k2;have n3:k=3:=kI.1 k3;simp only[k1,k2,k3,lu,ly];have l1:=QC p (by omega) (by omega);have l2:=QC s (by omega) (by omega);have l3:=QC m (by omega) (by omega);rw[QI p (by omega) (by omega) n hn,QI s (by omega) (by omega) n hn,QI m (by omega) (by omega) n hn];simp only[lr];rw[Px (by simp;omega),Px (by simp;omega),Px (by simp;omega),Px (by simp;omega),Px (by simp;omega)];unfold Pw;rw[kG n1,kG n2,kF n3];simp[P3]
 ·have n1:¬k=1:=lz.1 k1;have n2:¬k=2:=lz.1 k2;have n3:¬k=3:=lz.1 k3;simp only[k1,k2,k3,lu,ly];have l3:=QC m (by omega) (by omega);rw[QI m (by omega) (by omega) n hn];simp only[lr];rw[Px (by simp;omega)];unfold Pw;rw[kG n1,kG n2,kG n3];rfl
theorem Qt(s:List UInt8)(hs:s.length≤1048576)(n:Nat)(hn:Qa≤n):∃v,Py n s=some v:=by
 have key:∀(d i:Nat)(acc:Int)(m:Nat),i+d=s.length→d+1≤m→∃r,Go.Ev.iter m (Pp s) (acc,(i:Int))=some r:=by
  intro d
  induction d with
  |zero=>
   intro i acc m hi hm;obtain⟨m,rfl⟩:∃k,m=k+1:=⟨m-1,by omega⟩;refine⟨_,Pt (z:=.inl (acc,(i:Int))) ?_ m⟩;unfold Pp;dsimp only;rw[show decide ((i:Int)<(s.length:Int))=false by rw[kb];omega];rfl
  |succ d ih=>
   intro i acc m hi hm;obtain⟨m,rfl⟩:∃k,m=k+1:=⟨m-1,by omega⟩;have Vs:i<s.length:=by omega
   cases hc:(decide ((48:Int)≤P8 ((s[i].toNat:Nat):Int))&&decide (P8 ((s[i].toNat:Nat):Int)≤57))with
   |false=>
    refine⟨_,Pt (z:=.inr (-1)) ?_ m⟩;unfold Pp;dsimp only;rw[show decide ((i:Int)<(s.length:Int))=true by rw[kV];omega,lu,P2 Vs,lr,Qe,lr,hc];rfl
   |true=>
    have e1:Pp s (acc,(i:Int))=some (.inl ((P8 ((P8 (acc*10))+(P8 (IntKind.wrap .u8 (((s[i].toNat:Nat):Int)-48))))),((i+1:Nat):Int))):=by unfold Pp;dsimp only;rw[show decide ((i:Int)<(s.length:Int))=true by rw[kV];omega,lu,P2 Vs,lr,Qe,lr,hc,mA,ly,lr,Ps (n:=(i:Int)+1) (by omega) (by omega)];rfl
    rw[QD e1];exact ih (i+1) _ m (by omega) (by omega)
 obtain⟨r,hr⟩:=key s.length 0 0 n (by omega) (by unfold Qa at hn;omega);rw[show((0:Nat):Int)=0 from rfl]at hr;unfold Py;rw[Qe,lr,hr];cases hb:(decide ((1:Int)≤(s.length:Int))&&decide ((s.length:Int)≤6))with
 |false=>exact⟨_,rfl⟩
 |true=>
  rw[mA,ly];have hlen:1≤s.length:=by simp at hb;omega
  have hg:NY s 0=some s[0]:=P2 (i:=0) (by omega);rw[hg];by_cases h2:(s.length:Int)>1
  ·rw[mC h2,lu,lr,lr];cases(((s[0].toNat:Nat):Int)==48)
   ·cases r<;>exact⟨_,rfl⟩
   ·exact⟨_,rfl⟩
  ·rw[decide_eq_false h2,ly,lr];cases r<;>exact⟨_,rfl⟩
theorem Sy(ws:List (List UInt8))(h1:1≤ws.length)(hw:∀p∈ws,p.length≤1048576)(n:Nat)(hn:Qa≤n):∃ns:List Int,Go.Ev.iter n (QA n ws) (([]:List Int),1)=some (ns,((ns.length+1:Nat):Int))∧ns.length+1=min ws.length 10∧∀i (h:i<ns.length) (h2:i+1<ws.length),Py n ws[i+1]=some ns[i]:=by
 have key:∀(d:Nat)(ns:List Int)(m:Nat),ns.length+1+d=min ws.length 10→(∀i (h:i<ns.length) (h2:i+1<ws.length),Py n ws[i+1]=some ns[i])→d+1≤m→
   ∃ms:List Int,Go.Ev.iter m (QA n ws) (ns,((ns.length+1:Nat):Int))=some (ms,((ms.length+1:Nat):Int))∧ms.length+1=min ws.length 10∧∀i (h:i<ms.length) (h2:i+1<ws.length),Py n ws[i+1]=some ms[i]:=by
  intro d
  induction d with
  |zero=>
   intro ns m hd ZX hm;obtain⟨m,rfl⟩:∃k,m=k+1:=⟨m-1,by omega⟩;refine⟨ns,Pt ?_ m,by omega,ZX⟩;unfold QA;dsimp only;by_cases hl:ns.length+1<ws.length
   ·rw[show decide (((ns.length+1:Nat):Int)<(ws.length:Int))=true by rw[kV];omega,lu,show decide (((ns.length+1:Nat):Int)<10)=false by rw[kb];omega];rfl
   ·rw[show decide (((ns.length+1:Nat):Int)<(ws.length:Int))=false by rw[kb];omega];rfl
  |succ d ih=>
   intro ns m hd ZX hm;obtain⟨m,rfl⟩:∃k,m=k+1:=⟨m-1,by omega⟩;have hl:ns.length+1<ws.length:=by omega
   obtain⟨v,hv⟩:=Qt ws[ns.length+1] (hw _ (l6 hl)) n hn;have hg:ws[((ns.length+1:Nat):Int).toNat]?=some ws[ns.length+1]:=by rw[l7,j7 hl]
   have e1:QA n ws (ns,((ns.length+1:Nat):Int))=some (.inl (ns++[v],(((ns++[v]).length+1:Nat):Int))):=by
    unfold QA;dsimp only
    rw[show decide (((ns.length+1:Nat):Int)<(ws.length:Int))=true by rw[kV];omega,lu,show decide (((ns.length+1:Nat):Int)<10)=true by rw[kV];omega,lr,lu,RY hl,lu,hg,lr,hv,lr,
     show decide (ns.length+[v].length≤Di)=true by rw[kV,l5];unfold Di;omega,lu,Ps (n:=((ns.length+1:Nat):Int)+1) (by omega) (by omega),lC,l5]
    congr 3
   rw[QD e1];refine ih (ns++[v]) m (by rw[lC,l5];omega) (fun i h h2=>?_) (by omega);by_cases hi:i<ns.length
   ·rw[List.getElem_append_left hi];exact ZX i hi h2
   ·have:i=ns.length:=by rw[lC,l5]at h;omega
    subst this;rw[List.getElem_append_right (kT _)];simpa using hv
 have h:=key (min ws.length 10-1) [] n (by simp;omega) (fun i h=>by cases h) (by unfold Qa at hn;omega);simpa using h
theorem SJ(n:Nat)(hn:Qa≤n)(a:List (Int×Int))(h:Pr n a=some true)(ha:a.length≤1048576):a.length≤6:=by
 unfold Pr at h
 obtain⟨r,hr⟩:∃r,Go.Ev.iter n (Pm a) 0=some r:=by
  cases hq:Go.Ev.iter n (Pm a) 0 with
  |none=>rw[hq]at h;cases h
  |some r=>exact⟨r,rfl⟩
 have step:∀x:Int,Pm a x=none∨(∃y,Pm a x=some (.inl y))∨Pm a x=some (.inr (.inr false))∨Pm a x=some (.inr (.inl x)):=by
  intro x;unfold Pm;cases decide (x<(a.length:Int))with
  |false=>exact .inr (.inr (.inr rfl))
  |true=>
   rw[lu];generalize ((NY a x).bind fun(x2:Pv)=>_)=o;cases o with
   |none=>exact .inl rfl
   |some b=>cases b with
    |true=>exact .inr (.inr (.inl rfl))
    |false=>exact .inr (.inl ⟨_,rfl⟩)
 have key:∀(m:Nat)(x:Int),Go.Ev.iter m (Pm a) x≠some (.inr true):=by
  intro m
  induction m with
  |zero=>intro x h;cases h
  |succ m ih=>
   intro x hq;rcases step x with e|⟨y,e⟩|e|e
   ·simp[Go.Ev.iter,e]at hq
   ·rw[QD e]at hq;exact ih y hq
   ·rw[Pt e]at hq;cases hq
   ·rw[Pt e]at hq;cases hq
 rw[hr]at h;cases r with
 |inl j=>
  have:(a.length:Int)≤6:=by simpa using h
  omega
 |inr b=>
  have hb:b=true:=by simpa using h
  subst hb;exact(key n 0 hr).elim
theorem SP(n:Nat)(k d:Int)(l:List (Int×Int))(i p s m:Int)(h:P5 n k d l i p s m=some true)(hb:∃b,Pr n l=some b):
  (k=1∧(0≤d∧d≤99)∧Pr n l=some true∧1≤l.length∧i=0∧p=0∧s=0∧m=0)∨(k=2∧d=0∧l=[]∧(1≤i∧i≤999999)∧p=0∧s=0∧m=0) ∨
  (k=3∧d=0∧l=[]∧i=0∧(1≤p∧p≤999)∧(1≤s∧s≤50)∧(1≤m∧m≤1000))∨(k=4∧d=0∧l=[]∧i=0∧p=0∧s=0∧(1≤m∧m≤50)):=by
 obtain⟨b,hb⟩:=hb
 have hl:((l.length:Int)==0)=true→l=[]:=fun e=>by have:=kI.1 e;exact List.length_eq_zero_iff.1 (by omega)
 unfold P5 QE at h;simp only[hb,Qe,lr]at h;cases k1:(k==1)with
 |true=>
  rw[k1]at h;have hk:=kI.1 k1;refine .inl ⟨hk,?_⟩;cases hi:(i==0)<;>cases hp:(p==0)<;>cases hs:(s==0)<;>cases hm:(m==0)<;>rw[hi]at h<;>simp_all<;>grind
 |false=>
  rw[k1]at h;cases k2:(k==2)with
  |true=>
   rw[k2]at h;refine .inr (.inl ⟨kI.1 k2,?_⟩);cases hd:(d==0)<;>cases jA:((l.length:Int)==0)<;>cases hp:(p==0)<;>cases hs:(s==0)<;>cases hm:(m==0)<;>simp_all<;>grind
  |false=>
   rw[k2]at h;cases k3:(k==3)with
   |true=>
    rw[k3]at h;refine .inr (.inr (.inl ⟨kI.1 k3,?_⟩));cases hd:(d==0)<;>cases jA:((l.length:Int)==0)<;>cases hi:(i==0)<;>simp_all<;>grind
   |false=>
    rw[k3]at h;cases k4:(k==4)with
    |true=>
     rw[k4]at h;refine .inr (.inr (.inr ⟨kI.1 k4,?_⟩));cases hd:(d==0)<;>cases jA:((l.length:Int)==0)<;>cases hi:(i==0)<;>cases hp:(p==0)<;>cases hs:(s==0)<;>simp_all<;>grind
    |false=>
     rw[k4]at h;simp at h
theorem SB(c:UInt8)(s:List UInt8):(Qu c s).length≤s.length+1∧∀p∈Qu c s,p.length≤s.length:=by
 induction s with
 |nil=>simp[Qu]
 |cons x r ih=>
  unfold Qu;cases x==c with
  |true=>
   rw[lu];refine⟨by simp only[lT];omega,fun p hp=>?_⟩;rcases kS.1 hp with rfl|hp
   ·simp
   ·have:=ih.2 p hp;simp only[lT];omega
  |false=>
   rw[ly];cases hq:Qu c r with
   |nil=>exact(Rb c r hq).elim
   |cons q qs=>
    rw[hq]at ih;refine⟨by have:=ih.1;simp only[lT]at this ⊢;omega,fun p hp=>?_⟩;rcases kS.1 hp with rfl|hp
    ·have:=ih.2 q kR;simp only[lT];omega
    ·have:=ih.2 p (kB _ hp);simp only[lT];omega
def R6(ws:List (List UInt8))(l:List (Int×Int)):Prop:=ws.drop 2=l.map Po∧l.length≤8∧∀x∈l,QX x
theorem SV(ws:List (List UInt8))(h2:2≤ws.length)(hw:∀p∈ws,p.length≤1048576)(d:Int)(n:Nat)(hn:Qa≤n):∃(j:Int) (its:List (Int×Int)),Go.Ev.iter n (P1 n ws) (2,1,d,([]:List (Int×Int)),0,0,0,0)=some (j,1,d,its,0,0,0,0)∧its.length≤8∧∀l,R6 ws l→its=l:=by
 have key:∀(r i:Nat) (its:List (Int×Int)) (m:Nat),i+r=min ws.length 10→2≤i→its.length+2≤i→(∀l,R6 ws l→its=l.take (i-2))→r+1≤m→
   ∃(j:Int) (jD:List (Int×Int)),Go.Ev.iter m (P1 n ws) ((i:Int),1,d,its,0,0,0,0)=some (j,1,d,jD,0,0,0,0)∧jD.length≤8∧∀l,R6 ws l→jD=l:=by
  intro r
  induction r with
  |zero=>
   intro i its m hi cy jX hl hm;obtain⟨m,rfl⟩:∃k,m=k+1:=⟨m-1,by omega⟩;refine⟨(i:Int),its,Pt ?_ m,by omega,fun l hC=>?_⟩
   ·unfold P1;dsimp only;by_cases h:i<ws.length
    ·rw[show decide ((i:Int)<(ws.length:Int))=true by rw[kV];omega,lu,show decide ((i:Int)<10)=false by rw[kb];omega];rfl
    ·rw[show decide ((i:Int)<(ws.length:Int))=false by rw[kb];omega];rfl
   ·rw[hl l hC];have:=congrArg List.length hC.1;rw[List.length_drop,lF]at this;have h8:=hC.2.1;exact List.take_of_length_le (by omega)
  |succ r ih=>
   intro i its m hi cy jX hl hm;obtain⟨m,rfl⟩:∃k,m=k+1:=⟨m-1,by omega⟩;have Vs:i<ws.length:=by omega
   have jm:=hw _ (l6 Vs);have hg:ws[(i:Int).toNat]?=some ws[i]:=by rw[l7,j7 Vs]
   have gR:=Rh ws[i] 58 jm n hn;rw[show(((58:UInt8).toNat:Nat):Int)=58 from rfl]at gR;obtain⟨pl1,pl2⟩:=SB 58 ws[i]
   have jT:∀l,R6 ws l→∃h:i-2<l.length,ws[i]=Po l[i-2]:=fun l hC=>by
    have e:=congrArg List.length hC.1;rw[List.length_drop,lF]at e;have h:i-2<l.length:=by omega
    refine⟨h,?_⟩;have:(ws.drop 2)[i-2]?=some (Po l[i-2]):=by rw[hC.1,kN,j7 h];rfl
    rw[List.getElem?_drop,show 2+(i-2)=i by omega,j7 Vs]at this;exact Option.some.inj this
   have jf:∀l:List (Int×Int),(h:i-2<l.length)→l.take (i+1-2)=l.take (i-2)++[l[i-2]]:=fun l h=>by rw[show i+1-2=(i-2)+1 by omega,mF,j7 h];rfl
   by_cases hq:(Qu 58 ws[i]).length=2
   ·obtain⟨a,b,aN⟩:∃a b,Qu 58 ws[i]=[a,b]:=by
     match Qu 58 ws[i],hq with
     | [a,b],_=>exact⟨a,b,rfl⟩
    obtain⟨v0,e0⟩:=Qt a (by have:=pl2 a (by rw[aN];simp);omega) n hn;obtain⟨v1,e1⟩:=Qt b (by have:=pl2 b (by rw[aN];simp);omega) n hn
    have es:P1 n ws ((i:Int),1,d,its,0,0,0,0)=some (.inl (((i+1:Nat):Int),1,d,its++[(v0,v1)],0,0,0,0)):=by
     unfold P1;dsimp only;rw[show decide ((i:Int)<(ws.length:Int))=true by rw[kV];omega,lu,show decide ((i:Int)<10)=true by rw[kV];omega,lr,lu,RY Vs,lu,hg,lr,gR,lr,aN]
     rw[show((([a,b]:List (List UInt8)).length:Int)==2)=true from rfl,lu,show PG [a,b] 0=true from rfl,lu,show([a,b]:List (List UInt8))[(0:Int).toNat]?=some a from rfl,lr,e0,lr,show PG [a,b] 1=true from rfl,lu,show([a,b]:List (List UInt8))[(1:Int).toNat]?=some b from rfl,lr,e1,lr,
      show decide (its.length+[(v0,v1)].length≤Di)=true by rw[kV,l5];unfold Di;omega,lu,lr,Ps (n:=(i:Int)+1) (by omega) (by omega)]
     rfl
    rw[QD es];refine ih (i+1) _ m (by omega) (by omega) (by rw[lC,l5];omega) (fun l hC=>?_) (by omega);obtain⟨h,e⟩:=jT l hC;have hit:=hC.2.2 _ (l6 h);rw[e,Qm]at aN;injection aN with ha aN
    injection aN with hb _
    rw[←ha,Q3 _ (by have:=hit.1;omega) (by have:=hit.2.1;omega) n hn]at e0;rw[←hb,Q3 _ (by have:=hit.2.2.1;omega) (by have:=hit.2.2.2;omega) n hn]at e1;injection e0 with e0
    injection e1 with e1
    rw[jf l h,hl l hC,←e0,←e1]
   ·have es:P1 n ws ((i:Int),1,d,its,0,0,0,0)=some (.inl (((i+1:Nat):Int),1,d,its,0,0,0,0)):=by
     unfold P1;dsimp only
     rw[show decide ((i:Int)<(ws.length:Int))=true by rw[kV];omega,lu,show decide ((i:Int)<10)=true by rw[kV];omega,lr,lu,RY Vs,lu,hg,lr,gR,lr,
      show(((Qu 58 ws[i]).length:Int)==2)=false by rw[lz];omega,ly,lr,Ps (n:=(i:Int)+1) (by omega) (by omega)]
     rfl
    rw[QD es];refine ih (i+1) _ m (by omega) (by omega) (by omega) (fun l hC=>?_) (by omega);obtain⟨h,e⟩:=jT l hC;exact(hq (by rw[e,Qm];rfl)).elim
 have h:=key (min ws.length 10-2) 2 [] n (by omega) (kT _) (kT _) (fun l _=>by simp) (by unfold Qa at hn;omega);exact h
abbrev Sk:=Int×Int×List (Int×Int)×Int×Int×Int×Int
def S5(n:Nat)(a:Sk):Prop:=a.2.2.1.length≤1048576∧P5 n a.1 a.2.1 a.2.2.1 a.2.2.2.1 a.2.2.2.2.1 a.2.2.2.2.2.1 a.2.2.2.2.2.2=some true
def Rn(n:Nat)(s:List UInt8)(r:Int×Int×List (Int×Int)×Int×Int×Int×Int×Bool):Prop:=
 (∃a:Sk,S5 n a∧s=P3 32 (Pw a)∧r=(a.1,a.2.1,a.2.2.1,a.2.2.2.1,a.2.2.2.2.1,a.2.2.2.2.2.1,a.2.2.2.2.2.2,true))∨((∀a,S5 n a→s≠P3 32 (Pw a))∧r=(0,0,[],0,0,0,0,false))
def RQ(W:List (List UInt8))(a:Sk):Prop:=
 (∃d l,a=(1,d,l,0,0,0,0)∧(0≤d∧d≤99)∧(1≤l.length∧l.length≤6)∧(∀x∈l,QX x)∧W=[111,114,100,101,114]::tx d::l.map Po) ∨
 (∃i,a=(2,0,[],i,0,0,0)∧(1≤i∧i≤999999)∧W=[[98,97,99,107],tx i]) ∨
 (∃p q m,a=(3,0,[],0,p,q,m)∧(1≤p∧p≤999)∧(1≤q∧q≤50)∧(1≤m∧m≤1000)∧W=[[112,117,116],tx p,tx q,tx m]) ∨
 (∃m,a=(4,0,[],0,0,0,m)∧(1≤m∧m≤50)∧W=[[116,105,99,107],tx m])
theorem RE{n:Nat}(hn:Qa≤n){s:List UInt8}{a:Sk}(h:S5 n a)(hs:s=P3 32 (Pw a)):RQ (Qu 32 s) a:=by
 rw[hs,R5];obtain⟨k,d,l,i,p,q,m⟩:=a;obtain⟨hl,h⟩:=h;dsimp only at hl h;rcases SP n k d l i p q m h (Qn n hn l hl)with⟨rfl,h1,h2,h3,rfl,rfl,rfl,rfl⟩|⟨rfl,rfl,rfl,h1,rfl,rfl,rfl⟩|⟨rfl,rfl,rfl,rfl,h1,h2,h3⟩|⟨rfl,rfl,rfl,rfl,rfl,rfl,h1⟩
 ·exact .inl ⟨d,l,rfl,h1,⟨h3,SJ n hn l h2 hl⟩,RN n hn l hl h2,rfl⟩
 ·exact .inr (.inl ⟨i,rfl,h1,rfl⟩)
 ·exact .inr (.inr (.inl ⟨p,q,m,rfl,h1,h2,h3,rfl⟩))
 ·exact .inr (.inr (.inr ⟨m,rfl,h1,rfl⟩))
theorem TP{α β:Type}{o:Option α}{f:α→Option β}{P:α→Prop}{Q:β→Prop}(h:∃x,o=some x∧P x)(hf:∀x,P x→∃r,f x=some r∧Q r):∃r,o.bind f=some r∧Q r:=by obtain⟨x,rfl,hx⟩:=h;exact hf x hx
theorem SE(c b:Bool):(bif c then some b else some false)=some (c&&b):=by cases c<;>rfl
theorem S0(s:List UInt8)(hs:s.length≤1048576)(n:Nat)(hn:Qa≤n):∃r,Q0 n s=some r∧Rn n s r:=by
 have gR:=Rh s 32 (by omega) n hn;rw[show(((32:UInt8).toNat:Nat):Int)=32 from rfl]at gR;obtain⟨pl1,pl2⟩:=SB 32 s;have ir:∀a,S5 n a→s=P3 32 (Pw a)→RQ (Qu 32 s) a:=fun a h1 h2=>RE hn h1 h2;have Vv:=Rb 32 s;unfold Q0;rw[gR,lr];generalize Qu 32 s=W at gR pl1 pl2 ir Vv
 have eO:1≤W.length:=by
  cases W with
  |nil=>exact(Vv rfl).elim
  |cons _ _=>simp
 have hw:∀p∈W,p.length≤1048576:=fun p hp=>by have:=pl2 p hp;omega
 obtain⟨ns,e1,e2,e3⟩:=Sy W eO hw n hn;rw[e1,lr]
 obtain⟨w0,W',rfl⟩:∃w0 W',W=w0::W':=by
  cases W with
  |nil=>exact(Vv rfl).elim
  |cons a b=>exact⟨a,b,rfl⟩
 have jc:PG (w0::W') 0=true:=RY (i:=0) (by simp);have jq:(w0::W')[(0:Int).toNat]?=some w0:=rfl;simp only[jc,lu,jq,lr,SE]
 have nget:∀(i:Nat)(h:i<ns.length)(v:Int),0≤v→v≤999999→(w0::W')[i+1]?=some (tx v)→ns[i]=v:=fun i h v v0 v1 hv=>by obtain⟨h2,hv⟩:=j9.1 hv;have:=e3 i h h2;rw[hv,Q3 v v0 v1 n hn]at this;exact(Option.some.inj this).symm
 have jI:∀(i:Nat),i<ns.length→PG ns (i:Int)=true:=fun i h=>RY h;have V4:∀(i:Nat)(h:i<ns.length),ns[((i:Nat):Int).toNat]?=some ns[i]:=fun i h=>by rw[l7,j7 h]
 refine TP (P:=fun x7:Sk=>x7.2.2.1.length≤8∧∀a,S5 n a→s=P3 32 (Pw a)→x7=a) ?_ fun x7 hx=>?_
 ·cases c1:(w0==[111,114,100,101,114])&&decide ((ns.length:Int)>1)with
  |true=>
   simp only[j8,kI,kV]at c1;obtain⟨jJ,gJ⟩:=c1;have h0:0<ns.length:=by omega
   obtain⟨j,its,f1,f2,f3⟩:=SV (w0::W') (by omega) hw ns[0] n hn;rw[lu,show PG ns 0=true from jI 0 h0,lu,show ns[(0:Int).toNat]?=some ns[0]from V4 0 h0,lr,f1];refine⟨_,rfl,f2,fun a h1 h2=>?_⟩;rcases ir a h1 h2 with⟨d,l,rfl,hd,jA,Vm,hW⟩|⟨i,rfl,hi,hW⟩|⟨p,q,m,rfl,hp,hq,hm,hW⟩|⟨m,rfl,hm,hW⟩
   ·have ca:=nget 0 h0 d hd.1 (by omega) (by rw[hW];rfl);have hit:=f3 l ⟨by rw[hW];rfl,by omega,Vm⟩;rw[ca,hit]
   all_goals (injection hW with hW _;rw[jJ]at hW;cases hW)
  |false=>
   rw[ly]
   have no1:∀d l,S5 n (1,d,l,0,0,0,0)→((1:Nat)≤l.length∧l.length≤6)→(w0::W')=[111,114,100,101,114]::tx d::l.map Po→False:=fun d l _ jA hW=>by
    have hlen:=congrArg List.length hW;simp only[lT,lF]at hlen e2;injection hW with hW _
    rw[hW,l9,Bool.true_and,kb]at c1;omega
   cases c2:(w0==[98,97,99,107])&&((ns.length:Int)==1)with
   |true=>
    simp only[j8,kI]at c2;obtain⟨jJ,gJ⟩:=c2;have h0:0<ns.length:=by omega
    rw[lu,show PG ns 0=true from jI 0 h0,lu,show ns[(0:Int).toNat]?=some ns[0]from V4 0 h0,lr];refine⟨_,rfl,l8 _,fun a h1 h2=>?_⟩;rcases ir a h1 h2 with⟨d,l,rfl,hd,jA,Vm,hW⟩|⟨i,rfl,hi,hW⟩|⟨p,q,m,rfl,hp,hq,hm,hW⟩|⟨m,rfl,hm,hW⟩
    ·injection hW with hW _;rw[jJ]at hW;cases hW
    ·rw[nget 0 h0 i (by omega) hi.2 (by rw[hW];rfl)]
    all_goals (injection hW with hW _;rw[jJ]at hW;cases hW)
   |false=>
    rw[ly]
    have no2:∀i,(w0::W')=[[98,97,99,107],tx i]→False:=fun i hW=>by
     have hlen:=congrArg List.length hW;simp only[lT,mB]at hlen e2;injection hW with hW _
     rw[hW,l9,Bool.true_and,lz]at c2;omega
    cases c3:(w0==[112,117,116])&&((ns.length:Int)==3)with
    |true=>
     simp only[j8,kI]at c3;obtain⟨jJ,gJ⟩:=c3;have h0:0<ns.length:=by omega
     have XS:1<ns.length:=by omega
     have X7:2<ns.length:=by omega
     rw[lu,show PG ns 0=true from jI 0 h0,lu,show ns[(0:Int).toNat]?=some ns[0]from V4 0 h0,lr,show PG ns 1=true from jI 1 XS,lu,show ns[(1:Int).toNat]?=some ns[1]from V4 1 XS,lr,show PG ns 2=true from jI 2 X7,lu,show ns[(2:Int).toNat]?=some ns[2]from V4 2 X7,lr];refine⟨_,rfl,l8 _,fun a h1 h2=>?_⟩;rcases ir a h1 h2 with⟨d,l,rfl,hd,jA,Vm,hW⟩|⟨i,rfl,hi,hW⟩|⟨p,q,m,rfl,hp,hq,hm,hW⟩|⟨m,rfl,hm,hW⟩
     ·injection hW with hW _;rw[jJ]at hW;cases hW
     ·injection hW with hW _;rw[jJ]at hW;cases hW
     ·rw[nget 0 h0 p (by omega) (by omega) (by rw[hW];rfl),nget 1 XS q (by omega) (by omega) (by rw[hW];rfl),nget 2 X7 m (by omega) (by omega) (by rw[hW];rfl)]
     ·injection hW with hW _;rw[jJ]at hW;cases hW
    |false=>
     rw[ly]
     have no3:∀p q m,(w0::W')=[[112,117,116],tx p,tx q,tx m]→False:=fun p q m hW=>by
      have hlen:=congrArg List.length hW;simp only[lT,mB]at hlen e2;injection hW with hW _
      rw[hW,l9,Bool.true_and,lz]at c3;omega
     cases c4:(w0==[116,105,99,107])&&((ns.length:Int)==1)with
     |true=>
      simp only[j8,kI]at c4;obtain⟨jJ,gJ⟩:=c4;have h0:0<ns.length:=by omega
      rw[lu,show PG ns 0=true from jI 0 h0,lu,show ns[(0:Int).toNat]?=some ns[0]from V4 0 h0,lr];refine⟨_,rfl,l8 _,fun a h1 h2=>?_⟩;rcases ir a h1 h2 with⟨d,l,rfl,hd,jA,Vm,hW⟩|⟨i,rfl,hi,hW⟩|⟨p,q,m,rfl,hp,hq,hm,hW⟩|⟨m,rfl,hm,hW⟩
      ·injection hW with hW _;rw[jJ]at hW;cases hW
      ·injection hW with hW _;rw[jJ]at hW;cases hW
      ·injection hW with hW _;rw[jJ]at hW;cases hW
      ·rw[nget 0 h0 m (by omega) (by omega) (by rw[hW];rfl)]
     |false=>
      rw[ly];refine⟨_,rfl,l8 _,fun a h1 h2=>?_⟩;exfalso;rcases ir a h1 h2 with⟨d,l,rfl,hd,jA,Vm,hW⟩|⟨i,rfl,hi,hW⟩|⟨p,q,m,rfl,hp,hq,hm,hW⟩|⟨m,rfl,hm,hW⟩
      ·exact no1 d l h1 jA hW
      ·exact no2 i hW
      ·exact no3 p q m hW
      ·have hlen:=congrArg List.length hW;simp only[lT,mB]at hlen e2;injection hW with hW _
       rw[hW,l9,Bool.true_and,lz]at c4;omega
 ·obtain⟨hx8,eK⟩:=hx;obtain⟨b,hb,_⟩:=RR n hn x7 (by omega);rw[hb,lr];cases b with
  |false=>
   refine⟨_,rfl,.inr ⟨fun a h1 h2=>?_,rfl⟩⟩;have:=eK a h1 h2;subst this;have:=h1.2;rw[hb]at this;cases this
  |true=>
   have ht:=Rd n hn x7.1 x7.2.1 x7.2.2.1 x7.2.2.2.1 x7.2.2.2.2.1 x7.2.2.2.2.2.1 x7.2.2.2.2.2.2 (by omega) hb;have ht:QK n x7.1 x7.2.1 x7.2.2.1 x7.2.2.2.1 x7.2.2.2.2.1 x7.2.2.2.2.2.1 x7.2.2.2.2.2.2=some (P3 32 (Pw x7)):=ht;rw[mA,ly,ht,lr,lr];cases hq:(P3 32 (Pw x7)==s)with
   |true=>exact⟨_,rfl,.inl ⟨x7,⟨by omega,hb⟩,(kI.1 hq).symm,rfl⟩⟩
   |false=>
    refine⟨_,rfl,.inr ⟨fun a h1 h2=>?_,rfl⟩⟩;have:=eK a h1 h2;subst this;rw[←h2,l9]at hq;cases hq
theorem Si(c:UInt8){s w0:List UInt8}{W:List (List UInt8)}(h:Qu c s=w0::W):(W=[]→Go.Lib.cut s [c]=(s,[],false)∧s=w0)∧(W≠[]→Go.Lib.cut s [c]=(w0,P3 c W,true)):=by
 have hj:=RW c s;rw[h]at hj;have jR:c∉w0:=Q8 (c:=c) (s:=s) w0 (by rw[h];exact kR);refine⟨fun e=>?_,fun e=>?_⟩
 ·subst e;have hs:w0=s:=hj;rw[←hs];exact⟨S9 jR,rfl⟩
 ·rw[join_cons c w0 e]at hj;rw[←hj];exact Sh jR
theorem TK(c:UInt8){s w0:List UInt8}{W:List (List UInt8)}(h:Qu c s=w0::W)(e:W≠[]):Qu c (P3 c W)=W:=
 Ru (fun p hp=>Q8 (c:=c) (s:=s) p (by rw[h];exact kB _ hp)) e
theorem Rz(s t:List UInt8)(h:s.length<4294967281):NU s t=some (Go.Lib.cut s t):=by unfold NU;rw[mC h];rfl
theorem RG(s:List UInt8)(h:s.length≤281474976710656):OU s=some (Lo s):=by unfold OU;rw[mC h];rfl
theorem Tc(s:List UInt8)(c:UInt8):(Go.Lib.cut s [c]).1.length≤s.length∧(Go.Lib.cut s [c]).2.1.length≤s.length:=by
 unfold Go.Lib.cut;split
 ·simp only[List.length_take,List.length_drop];omega
 ·simp
theorem Rx(w:List UInt8)(hl:w.length≤1048576):∃a b ok,RF w=some (a,b,ok)∧(ok=true→w=Po (a,b))∧∀x:Int×Int,QX x→w=Po x→(a,b,ok)=(x.1,x.2,true):=by
 obtain⟨l1,l2⟩:=Tc w 58;unfold RF;rw[Rz w _ (by omega),lr,RG _ (by omega),lr,RG _ (by omega),lr]
 have XG:(bif(Go.Lib.cut w [58]).2.2 then bif(Lo (Go.Lib.cut w [58]).1).2 then some ((Lo (Go.Lib.cut w [58]).2.1).2,(Lo (Go.Lib.cut w [58]).1).1,(Lo (Go.Lib.cut w [58]).2.1).1)else some (false,(Lo (Go.Lib.cut w [58]).1).1,(Lo (Go.Lib.cut w [58]).2.1).1)else some (false,(Lo (Go.Lib.cut w [58]).1).1,(Lo (Go.Lib.cut w [58]).2.1).1))=
   some ((Go.Lib.cut w [58]).2.2&&((Lo (Go.Lib.cut w [58]).1).2&&(Lo (Go.Lib.cut w [58]).2.1).2),(Lo (Go.Lib.cut w [58]).1).1,(Lo (Go.Lib.cut w [58]).2.1).1):=by
  cases(Go.Lib.cut w [58]).2.2<;>cases(Lo (Go.Lib.cut w [58]).1).2<;>rfl
 refine⟨(Lo (Go.Lib.cut w [58]).1).1,(Lo (Go.Lib.cut w [58]).2.1).1,(Go.Lib.cut w [58]).2.2&&((Lo (Go.Lib.cut w [58]).1).2&&(Lo (Go.Lib.cut w [58]).2.1).2),?_,fun WQ=>?_,fun x hx hw=>?_⟩
 ·rw[XG];rfl
 ·simp only[j8]at WQ;obtain⟨k1,k2,k3⟩:=WQ;obtain⟨_,_,q1⟩:=Rl (v:=(Lo (Go.Lib.cut w [58]).1).1) (s:=(Go.Lib.cut w [58]).1) (by rw[←k2]);obtain⟨_,_,q2⟩:=Rl (v:=(Lo (Go.Lib.cut w [58]).2.1).1) (s:=(Go.Lib.cut w [58]).2.1) (by rw[←k3])
  have hw:w=(Go.Lib.cut w [58]).1++58::(Go.Lib.cut w [58]).2.1:=by
   obtain⟨w0,W,hW⟩:∃w0 W,Qu 58 w=w0::W:=by
    cases hq:Qu 58 w with
    |nil=>exact(Rb 58 w hq).elim
    |cons a b=>exact⟨a,b,rfl⟩
   obtain⟨c1,c2⟩:=Si 58 hW;by_cases e:W=[]
   ·rw[(c1 e).1]at k1;cases k1
   ·rw[c2 e];have hj:=RW 58 w;rw[hW,join_cons 58 w0 e]at hj;exact hj.symm
  unfold Po;rw[←q1,←q2];exact hw
 ·have hc:Go.Lib.cut w [58]=(tx x.1,tx x.2,true):=by rw[hw];exact Sh (RJ 58 (by decide) _)
  obtain⟨i1,i2,i3,i4⟩:=hx;rw[hc];dsimp only;rw[Q4 x.1 (by omega) (by omega),Q4 x.2 (by omega) (by omega)];rfl
theorem SO(p0:List UInt8)(ps:List (List UInt8))(hw:∀p∈ps,p.length≤1048576)(hl:ps.length≤1048576)(ok0:Bool)(d:Int)(n:Nat)(hn:Qa≤n):
  ∃its ok,Go.Ev.iter n (QO (p0::ps)) (ok0,0,1,d,([]:List (Int×Int)),0,0,0,0)=some (ok,(ps.length:Int),1,d,its,0,0,0,0)∧its.length=ps.length∧(ok=true→ok0=true∧ps=its.map Po)∧∀l:List (Int×Int),(∀x∈l,QX x)→ps=l.map Po→its=l∧ok=ok0:=by
 have Wb:sub (p0::ps) ((1:Int).toNat) (((p0::ps).length:Int).toNat)=ps:=by unfold sub;rw[l7];simp
 have key:∀(r i:Nat) (its:List (Int×Int)) (ok:Bool) (m:Nat),i+r=ps.length→its.length=i→(ok=true→ok0=true∧ps.take i=its.map Po)→(∀l:List (Int×Int),(∀x∈l,QX x)→ps=l.map Po→its=l.take i∧ok=ok0)→r+1≤m→
   ∃jD jg,Go.Ev.iter m (QO (p0::ps)) (ok,(i:Int),1,d,its,0,0,0,0)=some (jg,(ps.length:Int),1,d,jD,0,0,0,0)∧jD.length=ps.length∧(jg=true→ok0=true∧ps=jD.map Po)∧∀l:List (Int×Int),(∀x∈l,QX x)→ps=l.map Po→jD=l∧jg=ok0:=by
  intro r
  induction r with
  |zero=>
   intro i its ok m hi jX h1 h2 hm;obtain⟨m,rfl⟩:∃k,m=k+1:=⟨m-1,by omega⟩;have hq:i=ps.length:=by omega
   subst hq;refine⟨its,ok,Pt ?_ m,jX,fun h=>?_,fun l hx hp=>?_⟩
   ·unfold QO;dsimp only;rw[Wb,show decide ((ps.length:Int)<(ps.length:Int))=false by simp];rfl
   ·have:=h1 h;rw[mG]at this;exact this
   ·have:=h2 l hx hp;rw[hp,lF,mG]at this;exact this
  |succ r ih=>
   intro i its ok m hi jX h1 h2 hm;obtain⟨m,rfl⟩:∃k,m=k+1:=⟨m-1,by omega⟩;have Vs:i<ps.length:=by omega
   obtain⟨a,b,fine,e,f1,f2⟩:=Rx ps[i] (hw _ (l6 Vs))
   have e1:QO (p0::ps) (ok,(i:Int),1,d,its,0,0,0,0)=some (.inl (ok&&fine,((i+1:Nat):Int),1,d,its++[(a,b)],0,0,0,0)):=by
    unfold QO;dsimp only;rw[Wb,show decide ((i:Int)<(ps.length:Int))=true by rw[kV];omega,lu,P2 Vs,lr,e,lr];dsimp only;rw[SE,lr,show decide (its.length+[(a,b)].length≤Di)=true by rw[kV,l5];unfold Di;omega,lu,QW Vs (by omega)]
   rw[QD e1];refine ih (i+1) (its++[(a,b)]) (ok&&fine) m (by omega) (by simp;omega) (fun h=>?_) (fun l hx hp=>?_) (by omega)
   ·rw[j8]at h;obtain⟨g1,g2⟩:=h1 h.1;refine⟨g1,?_⟩;rw[mF,j7 Vs,g2,List.map_append,f1 h.2];rfl
   ·obtain⟨g1,g2⟩:=h2 l hx hp;have jA:i<l.length:=by have:=congrArg List.length hp;rw[lF]at this;omega
    have je:ps[i]=Po l[i]:=by
     have:ps[i]?=(l.map Po)[i]?:=by rw[←hp]
     rw[j7 Vs,kN,j7 jA]at this;exact Option.some.inj this
    have aN:=f2 l[i] (hx _ (l6 jA)) je;injection aN with ha aN
    injection aN with hb hf
    refine⟨?_,by rw[hf,g2,Bool.and_true]⟩;rw[mF,j7 jA,g1,ha,hb];rfl
 have h:=key ps.length 0 [] ok0 n (by omega) rfl (fun h=>⟨h,by simp⟩) (fun l _ _=>⟨by simp,rfl⟩) (by unfold Qa at hn;omega);exact h
theorem Sg(k:Int)(ps:List (List UInt8))(hw:∀p∈ps,p.length≤1048576)(hl:ps.length≤1048576)(n:Nat)(hn:Qa≤n):
  (∃ls:List Int,Go.Ev.iter n (P9 k 0 [] 0 0 0 0 ps) (([]:List Int),0,0,0,([]:List (Int×Int)),0,0,0,0)=some (.inl (ls,(ps.length:Int),0,0,([]:List (Int×Int)),0,0,0,0))∧ps=ls.map tx∧∀vs:List Int,(∀v∈vs,0≤v∧v≤999999)→ps=vs.map tx→vs=ls) ∨
  (Go.Ev.iter n (P9 k 0 [] 0 0 0 0 ps) (([]:List Int),0,0,0,([]:List (Int×Int)),0,0,0,0)=some (.inr (0,0,[],0,0,0,0,false,k,0,[],0,0,0,0))∧∀vs:List Int,(∀v∈vs,0≤v∧v≤999999)→ps≠vs.map tx):=by
 have uniq:∀(ls vs:List Int),(∀v∈vs,0≤v∧v≤999999)→(∀v∈ls,Lo (tx v)=(v,true))→ls.map tx=vs.map tx→vs=ls:=by
  intro ls
  induction ls with
  |nil=>intro vs _ _ h;cases vs with
   |nil=>rfl
   |cons v vs=>cases h
  |cons l ls ih=>intro vs hv hn h;cases vs with
   |nil=>cases h
   |cons v vs=>
    rw[lQ,lQ]at h;injection h with h1 h2
    have a1:=Q4 v (hv v kR).1 (hv v kR).2;rw[←h1,hn l kR]at a1;injection a1 with a1 _
    rw[a1,ih vs (fun x hx=>hv x (kB _ hx)) (fun x hx=>hn x (kB _ hx)) h2]
 have key:∀(r i:Nat)(ls:List Int)(m:Nat),i+r=ps.length→ls.length=i→ps.take i=ls.map tx→(∀v∈ls,Lo (tx v)=(v,true))→r+1≤m→
   (∃ZP:List Int,Go.Ev.iter m (P9 k 0 [] 0 0 0 0 ps) (ls,(i:Int),0,0,([]:List (Int×Int)),0,0,0,0)=some (.inl (ZP,(ps.length:Int),0,0,([]:List (Int×Int)),0,0,0,0))∧ps=ZP.map tx∧∀v∈ZP,Lo (tx v)=(v,true)) ∨
   (Go.Ev.iter m (P9 k 0 [] 0 0 0 0 ps) (ls,(i:Int),0,0,([]:List (Int×Int)),0,0,0,0)=some (.inr (0,0,[],0,0,0,0,false,k,0,[],0,0,0,0))∧∀vs:List Int,(∀v∈vs,0≤v∧v≤999999)→ps≠vs.map tx):=by
  intro r
  induction r with
  |zero=>
   intro i ls m hi jX h1 h2 hm;obtain⟨m,rfl⟩:∃k,m=k+1:=⟨m-1,by omega⟩;have hi:i=ps.length:=by omega
   refine .inl ⟨ls,Pt ?_ m,?_,h2⟩
   ·unfold P9;dsimp only;rw[hi,show decide ((ps.length:Int)<(ps.length:Int))=false by simp];rfl
   ·rw[hi,mG]at h1;exact h1
  |succ r ih=>
   intro i ls m hi jX h1 h2 hm;obtain⟨m,rfl⟩:∃k,m=k+1:=⟨m-1,by omega⟩;have Vs:i<ps.length:=by omega
   have jm:=hw _ (l6 Vs)
   have e0:P9 k 0 [] 0 0 0 0 ps (ls,(i:Int),0,0,([]:List (Int×Int)),0,0,0,0)=(bif !(Lo ps[i]).2 then some (.inr (.inr (0,0,[],0,0,0,0,false,k,0,[],0,0,0,0)))else some (.inl (ls++[(Lo ps[i]).1],((i+1:Nat):Int),0,0,[],0,0,0,0))):=by
    unfold P9;dsimp only;rw[show decide ((i:Int)<(ps.length:Int))=true by rw[kV];omega,lu,P2 Vs,lr,RG _ (by omega),lr,show decide (ls.length+[(Lo ps[i]).1].length≤Di)=true by rw[kV,l5];unfold Di;omega,lu,QW Vs (by omega)]
   cases hq:Lo ps[i]with
   |mk v ok=>
    rw[hq]at e0;cases ok with
    |false=>
     refine .inr ⟨Pt e0 m,fun vs hv hp=>?_⟩;have jA:i<vs.length:=by have:=congrArg List.length hp;rw[lF]at this;omega
     have je:ps[i]=tx vs[i]:=by
      have:ps[i]?=(vs.map tx)[i]?:=by rw[←hp]
      rw[j7 Vs,kN,j7 jA]at this;exact Option.some.inj this
     have:=hv _ (l6 jA);rw[je,Q4 _ this.1 this.2]at hq;cases hq
    |true=>
     rw[QD e0];have hp:=(Rl hq).2.2;refine ih (i+1) (ls++[v]) m (by omega) (by simp;omega) ?_ (fun w hw=>?_) (by omega)
     ·rw[mF,j7 Vs,h1,List.map_append,hp];rfl
     ·rcases lW.1 hw with hw|hw
      ·exact h2 w hw
      ·rw[km.1 hw,←hp];exact hq
 rcases key ps.length 0 [] n (by omega) rfl (by simp) (fun v hv=>by cases hv) (by unfold Qa at hn;omega)with⟨ls,e,h1,h2⟩|h
 ·exact .inl ⟨ls,e,h1,fun vs hv hp=>uniq ls vs hv h2 (by rw[←h1];exact hp)⟩
 ·exact .inr h
def wd(k:Int):List UInt8:=if k=1 then [111,114,100,101,114]else if k=2 then [98,97,99,107]else if k=3 then [112,117,116]else [116,105,99,107]
def S7(k:Int)(W:List (List UInt8))(x:Int×Int×List (Int×Int)×Int×Int×Int×Int×Bool×Int×Int×List (Int×Int)×Int×Int×Int×Int):Prop:=
 ∃(a:Sk) (ok:Bool) (t:Int×Int×List (Int×Int)×Int×Int×Int×Int),x=(a.1,a.2.1,a.2.2.1,a.2.2.2.1,a.2.2.2.2.1,a.2.2.2.2.2.1,a.2.2.2.2.2.2,ok,t)∧a.2.2.1.length≤1048576∧(ok=true→Pw a=wd k::W)∧∀b,RQ (wd k::W) b→a=b∧ok=true
theorem S3(k:Int)(hk:k=1∨k=2∨k=3∨k=4)(ps:List (List UInt8))(Vv:ps≠[])(hw:∀p∈ps,p.length≤1048576)(hl:ps.length≤1048576)(n:Nat)(hn:Qa≤n):
  ∃x,QH n k 0 [] 0 0 0 0 ps=some x∧S7 k ps x:=by
 rcases hk with rfl|hk
 ·obtain⟨p0,ps,rfl⟩:∃a b,ps=a::b:=by
   cases ps with
   |nil=>exact(Vv rfl).elim
   |cons a b=>exact⟨a,b,rfl⟩
  rw[lT]at hl;have hg:NY (p0::ps) 0=some p0:=rfl;obtain⟨its,ok,e,h1,h2,h3⟩:=SO p0 ps (fun p hp=>hw p (kB _ hp)) (by omega) (Lo p0).2 (Lo p0).1 n hn;refine⟨(1,(Lo p0).1,its,0,0,0,0,ok,1,0,[],0,0,0,0),?_,(1,(Lo p0).1,its,0,0,0,0),ok,_,rfl,by dsimp only;omega,fun WQ=>?_,fun b hb=>?_⟩
  ·unfold QH;rw[show((1:Int)==1)=true from rfl,lu,hg,lr,RG _ (by have:=hw p0 kR;omega),lr,show(decide (0≤1)&&decide ((1:Int)≤((p0::ps).length:Int))&&decide (((p0::ps).length:Int)≤((p0::ps).length:Int)))=true by simp only[lT,j8,kV];omega,lu,e,lr]
  ·obtain⟨g1,g2⟩:=h2 WQ;have g3:=(Rl (s:=p0) (v:=(Lo p0).1) (by rw[←g1])).2.2;show [111,114,100,101,114]::tx (Lo p0).1::its.map Po=_;rw[←g3,←g2];rfl
  ·rcases hb with⟨d,l,rfl,hd,jA,Vm,hW⟩|⟨i,rfl,hi,hW⟩|⟨p,q,m,rfl,hp,hq,hm,hW⟩|⟨m,rfl,hm,hW⟩
   ·injection hW with _ hW
    injection hW with hW jG
    obtain⟨g1,g2⟩:=h3 l Vm jG;have g3:=Q4 d (by omega) (by omega);rw[←hW]at g3;rw[g1,g2,g3];exact⟨rfl,rfl⟩
   all_goals (injection hW with hW _;cases hW)
 ·have Yv:(k==1)=false:=by rw[lz];omega
  have Vm:∀(v:Int)(r:List Int),PG (v::r) 0=true:=fun v r=>RY (i:=0) (by simp);rcases Sg k ps hw hl n hn with⟨ls,e,h1,h2⟩|⟨e,h2⟩
  ·have ir:∀b,RQ (wd k::ps) b→(k=2∧∃i,b=(2,0,[],i,0,0,0)∧ls=[i])∨(k=3∧∃p q m,b=(3,0,[],0,p,q,m)∧ls=[p,q,m])∨(k=4∧∃m,b=(4,0,[],0,0,0,m)∧ls=[m]):=by
    intro b hb;rcases hb with⟨d,l,rfl,hd,jA,Vm,hW⟩|⟨i,rfl,hi,hW⟩|⟨p,q,m,rfl,hp,hq,hm,hW⟩|⟨m,rfl,hm,hW⟩
    ·injection hW with hW _
     rcases hk with rfl|rfl|rfl<;>cases hW
    ·injection hW with hW jG
     have:=h2 [i] (by simp;omega) jG;rcases hk with rfl|rfl|rfl<;>first|exact .inl ⟨rfl,i,rfl,this.symm⟩|cases hW
    ·injection hW with hW jG
     have:=h2 [p,q,m] (by simp;omega) jG;rcases hk with rfl|rfl|rfl<;>first|exact .inr (.inl ⟨rfl,p,q,m,rfl,this.symm⟩)|cases hW
    ·injection hW with hW jG
     have:=h2 [m] (by simp;omega) jG;rcases hk with rfl|rfl|rfl<;>first|exact .inr (.inr ⟨rfl,m,rfl,this.symm⟩)|cases hW
   have bad:(¬(k=2∧∃i,ls=[i])∧¬(k=3∧∃p q m,ls=[p,q,m])∧¬(k=4∧∃m,ls=[m]))→∀t,S7 k ps (0,0,[],0,0,0,0,false,t):=fun hb t=>⟨(0,0,[],0,0,0,0),false,t,rfl,l8 _,(fun h=>by cases h),fun b Vz=>by
    rcases ir b Vz with⟨g,i,_,g2⟩|⟨g,p,q,m,_,g2⟩|⟨g,m,_,g2⟩
    ·exact(hb.1 ⟨g,i,g2⟩).elim
    ·exact(hb.2.1 ⟨g,p,q,m,g2⟩).elim
    ·exact(hb.2.2 ⟨g,m,g2⟩).elim⟩
   have DM:∀l:List Int,((l.length:Int)==1)=true→∃i,l=[i]:=fun l h=>by
    have:=kI.1 h
    match l,this with
    | [i],_=>exact⟨i,rfl⟩
    | [],h=>cases h
    |_::_::_,h=>simp only[lT]at h;omega
   have len3:∀l:List Int,((l.length:Int)==3)=true→∃p q m,l=[p,q,m]:=fun l h=>by
    have:=kI.1 h
    match l,this with
    | [p,q,m],_=>exact⟨p,q,m,rfl⟩
    | [],h=>cases h
    | [_],h=>cases h
    | [_,_],h=>cases h
    |_::_::_::_::_,h=>simp only[lT]at h;omega
   unfold QH;rw[Yv,ly,e,lr];dsimp only;rcases hk with rfl|rfl|rfl
   ·cases hlen:((ls.length:Int)==1)with
    |true=>
     obtain⟨i,rfl⟩:=DM ls hlen
     exact⟨_,rfl,(2,0,[],i,0,0,0),true,_,rfl,l8 _,fun _=>by rw[h1];rfl,fun b hb=>by
      rcases ir b hb with⟨_,j,rfl,g⟩|⟨g,_⟩|⟨g,_⟩
      ·injection g with g _;rw[g];exact⟨rfl,rfl⟩
      ·cases g
      ·cases g⟩
    |false=>exact⟨_,rfl,bad ⟨(fun⟨_,i,h⟩=>by rw[h]at hlen;cases hlen),fun h=>(by cases h.1),fun h=>(by cases h.1)⟩ _⟩
   ·cases hlen:((ls.length:Int)==3)with
    |true=>
     obtain⟨p,q,m,rfl⟩:=len3 ls hlen
     exact⟨_,rfl,(3,0,[],0,p,q,m),true,_,rfl,l8 _,fun _=>by rw[h1];rfl,fun b hb=>by
      rcases ir b hb with⟨g,_⟩|⟨_,p',q',m',rfl,g⟩|⟨g,_⟩
      ·cases g
      ·injection g with g1 g;injection g with g2 g;injection g with g3 _;rw[g1,g2,g3];exact⟨rfl,rfl⟩
      ·cases g⟩
    |false=>exact⟨_,rfl,bad ⟨fun h=>(by cases h.1),(fun⟨_,p,q,m,h⟩=>by rw[h]at hlen;cases hlen),fun h=>(by cases h.1)⟩ _⟩
   ·cases hlen:((ls.length:Int)==1)with
    |true=>
     obtain⟨m,rfl⟩:=DM ls hlen
     exact⟨_,rfl,(4,0,[],0,0,0,m),true,_,rfl,l8 _,fun _=>by rw[h1];rfl,fun b hb=>by
      rcases ir b hb with⟨g,_⟩|⟨g,_⟩|⟨_,j,rfl,g⟩
      ·cases g
      ·cases g
      ·injection g with g _;rw[g];exact⟨rfl,rfl⟩⟩
    |false=>exact⟨_,rfl,bad ⟨fun h=>(by cases h.1),fun h=>(by cases h.1),(fun⟨_,i,h⟩=>by rw[h]at hlen;cases hlen)⟩ _⟩
  ·unfold QH;rw[Yv,ly,e,lr];refine⟨_,rfl,(0,0,[],0,0,0,0),false,_,rfl,l8 _,(fun h=>by cases h),fun b hb=>?_⟩;exfalso;rcases hb with⟨d,l,rfl,hd,jA,Vm,hW⟩|⟨i,rfl,hi,hW⟩|⟨p,q,m,rfl,hp,hq,hm,hW⟩|⟨m,rfl,hm,hW⟩
   ·injection hW with hW _
    rcases hk with rfl|rfl|rfl<;>cases hW
   ·injection hW with hW jG
    exact h2 [i] (by simp;omega) jG
   ·injection hW with hW jG
    exact h2 [p,q,m] (by simp;omega) jG
   ·injection hW with hW jG
    exact h2 [m] (by simp;omega) jG
theorem RB{v w:Int}(h0:0≤v)(h1:v≤999999)(g0:0≤w)(g1:w≤999999)(h:tx v=tx w):v=w:=by
 have a:=Q4 v h0 h1;rw[h,Q4 w g0 g1]at a;injection a with a _
 exact a.symm
theorem SI:∀ {l m:List (Int×Int)},(∀x∈l,QX x)→(∀x∈m,QX x)→l.map Po=m.map Po→l=m
 | [],[],_,_,_=>rfl
 | [],_::_,_,_,h=>by cases h
 |_::_,[],_,_,h=>by cases h
 |x::l,y::m,hl,hm,h=>by
  rw[lQ,lQ]at h;injection h with h1 h2
  have h1:=congrArg (Qu 58) h1;rw[Qm,Qm]at h1;injection h1 with a1 h1
  injection h1 with a2 _
  have i:=hl x kR;have j:=hm y kR;unfold QX at i j;have e1:=RB (by omega) (by omega) (by omega) (by omega) a1;have e2:=RB (by omega) (by omega) (by omega) (by omega) a2;rw[SI (fun z hz=>hl z (kB _ hz)) (fun z hz=>hm z (kB _ hz)) h2,Prod.ext e1 e2]
theorem Sr{W:List (List UInt8)}{a b:Sk}(h:RQ W a)(g:RQ W b):a=b:=by
 rcases h with⟨d,l,rfl,hd,jA,Vm,hW⟩|⟨i,rfl,hi,hW⟩|⟨p,q,m,rfl,hp,hq,hm,hW⟩|⟨m,rfl,hm,hW⟩<;>rcases g with⟨d',l',rfl,hd',hll',Zr,Wl⟩|⟨i',rfl,XJ,Wl⟩|⟨p',q',m',rfl,Zz,aZ,XL,Wl⟩|⟨m',rfl,XL,Wl⟩<;>rw[hW]at Wl<;>injection Wl with hw Wl
 ·injection Wl with h1 h2
  rw[RB (by omega) (by omega) (by omega) (by omega) h1,SI Vm Zr h2]
 ·cases hw
 ·cases hw
 ·cases hw
 ·cases hw
 ·injection Wl with h1 _
  rw[RB (by omega) (by omega) (by omega) (by omega) h1]
 ·cases hw
 ·cases hw
 ·cases hw
 ·cases hw
 ·injection Wl with h1 Wl
  injection Wl with h2 Wl
  injection Wl with h3 _
  rw[RB (by omega) (by omega) (by omega) (by omega) h1,RB (by omega) (by omega) (by omega) (by omega) h2,RB (by omega) (by omega) (by omega) (by omega) h3]
 ·cases hw
 ·cases hw
 ·cases hw
 ·cases hw
 ·injection Wl with h1 _
  rw[RB (by omega) (by omega) (by omega) (by omega) h1]
theorem R3{n:Nat}(hn:Qa≤n){s:List UInt8}{r t:Int×Int×List (Int×Int)×Int×Int×Int×Int×Bool}(h:Rn n s r)(g:Rn n s t):r=t:=by
 rcases h with⟨a,ha,hs,rfl⟩|⟨gJ,rfl⟩<;>rcases g with⟨b,hb,aG,rfl⟩|⟨Y5,rfl⟩
 ·rw[Sr (RE hn ha hs) (RE hn hb aG)]
 ·exact(Y5 a ha hs).elim
 ·exact(gJ b hb aG).elim
 ·rfl
theorem RI(v:Int)(h0:0≤v)(h1:v≤9999):(tx v).length≤4:=Rk 3 v.toNat (by omega)
theorem R2:∀l:List (Int×Int),(∀x∈l,QX x)→(l.flatMap QB).length≤10*l.length
 | [],_=>by simp
 |x::l,h=>by
  have i:=h x kR;unfold QX at i;have:=R2 l fun z hz=>h z (kB _ hz);have a:=RI x.1 (by omega) (by omega);have b:=RI x.2 (by omega) (by omega);have e:(QB x).length=(tx x.1).length+(tx x.2).length+2:=by simp[QB];omega
  rw[ke,lC,lT];omega
theorem Rr{w:List UInt8}{W:List (List UInt8)}{a:Sk}(h:RQ (w::W) a):W≠[]∧(P3 32 W).length≤200:=by
 rcases h with⟨d,l,rfl,hd,jA,Vm,hW⟩|⟨i,rfl,hi,hW⟩|⟨p,q,m,rfl,hp,hq,hm,hW⟩|⟨m,rfl,hm,hW⟩<;>injection hW with _ hW<;>subst hW
 ·refine⟨by simp,?_⟩;rw[RO,lC];have a:=RI d (by omega) (by omega);have b:=R2 l Vm;omega
 ·exact⟨by simp,by have:=QC i (by omega) (by omega);show(tx i).length≤200;omega⟩
 ·refine⟨by simp,?_⟩;have a:=RI p (by omega) (by omega);have b:=RI q (by omega) (by omega);have c:=RI m (by omega) (by omega);simp only[P3,lC,lT];omega
 ·exact⟨by simp,by have:=QC m (by omega) (by omega);show(tx m).length≤200;omega⟩
theorem SM(s:List UInt8)(c:UInt8)(h:s.length<4294967281):splitN s [c]=some (Go.Lib.split s [c]):=by unfold splitN;rw[mC h];rfl
theorem RH(k:Int)(hk:k=1∨k=2∨k=3∨k=4){s:List UInt8}{W:List (List UInt8)}(hs:Qu 32 s=wd k::W)(hW:W≠[])(n:Nat)(hn:Qa≤n):
  ∃r,((show Option Bool from bif !true then some true else some (decide (((P3 32 W).length:Int)>200))).bind fun x2=>bif x2 then some (0,0,([]:List (Int×Int)),0,0,0,0,false)else
   (splitN (P3 32 W) [32]).bind fun x3=>(QH n k 0 [] 0 0 0 0 x3).bind fun x4=>(show Option Bool from bif !x4.2.2.2.2.2.2.2.1 then some true else(QG n x4.1 x4.2.1 x4.2.2.1 x4.2.2.2.1 x4.2.2.2.2.1 x4.2.2.2.2.2.1 x4.2.2.2.2.2.2.1).bind fun x5=>some !x5).bind fun x6=>
    bif x6 then some (0,0,([]:List (Int×Int)),0,0,0,0,false)else some (x4.1,x4.2.1,x4.2.2.1,x4.2.2.2.1,x4.2.2.2.2.1,x4.2.2.2.2.2.1,x4.2.2.2.2.2.2.1,true))=some r∧Rn n s r:=by
 have ir:∀a,S5 n a→s=P3 32 (Pw a)→RQ (wd k::W) a:=fun a h1 h2=>by rw[←hs];exact RE hn h1 h2
 rw[show(bif !true then some true else some (decide (((P3 32 W).length:Int)>200)))=some (decide (((P3 32 W).length:Int)>200))from rfl];show ∃r,(Option.bind (some (decide (((P3 32 W).length:Int)>200))) _)=some r∧_;rw[lr];by_cases hlen:(P3 32 W).length>200
 ·rw[show decide (((P3 32 W).length:Int)>200)=true by rw[kV];omega,lu];exact⟨_,rfl,.inr ⟨fun a h1 h2=>by have:=(Rr (ir a h1 h2)).2;omega,rfl⟩⟩
 rw[show decide (((P3 32 W).length:Int)>200)=false by rw[kb];omega,ly];have hp:=TK 32 hs hW;have hl:=SB 32 (P3 32 W);rw[hp]at hl;rw[SM _ _ (by omega),lr,S1,hp];obtain⟨x,e,a,ok,t,rfl,ZU,h1,h2⟩:=S3 k hk W hW (fun p hp=>by have:=hl.2 p hp;omega) (by omega) n hn;rw[e,lr];obtain⟨b,XP,XT⟩:=RR n hn a ZU;dsimp only;cases ok with
 |false=>
  refine⟨_,rfl,.inr ⟨fun a' g1 g2=>?_,rfl⟩⟩;cases(h2 a' (ir a' g1 g2)).2
 |true=>
  rw[mA,ly,XT,lr,lr];cases b with
  |false=>
   refine⟨_,rfl,.inr ⟨fun a' g1 g2=>?_,rfl⟩⟩;have:=(h2 a' (ir a' g1 g2)).1;subst this;have:=g1.2;rw[XP]at this;cases this
  |true=>
   refine⟨_,rfl,.inl ⟨a,⟨ZU,XP⟩,?_,rfl⟩⟩;rw[h1 rfl,←hs,RW]
theorem R0(s:List UInt8)(hs:s.length≤1048576)(n:Nat)(hn:Qa≤n):∃r,QN n s=some r∧Rn n s r:=by
 obtain⟨w0,W,hW⟩:∃w0 W,Qu 32 s=w0::W:=by
  cases hq:Qu 32 s with
  |nil=>exact(Rb 32 s hq).elim
  |cons a b=>exact⟨a,b,rfl⟩
 obtain⟨c1,c2⟩:=Si 32 hW;have ir:∀a,S5 n a→s=P3 32 (Pw a)→RQ (w0::W) a:=fun a h1 h2=>by rw[←hW];exact RE hn h1 h2
 unfold QN;rw[Rz s _ (by omega),lr];by_cases e:W=[]
 ·rw[(c1 e).1];dsimp only;have hz:Rn n s (0,0,[],0,0,0,0,false):=.inr ⟨fun a h1 h2=>(Rr (ir a h1 h2)).1 e,rfl⟩;refine⟨_,?_,hz⟩;cases(s==[111,114,100,101,114])with
  |true=>rfl
  |false=>cases(s==[98,97,99,107])with
   |true=>rfl
   |false=>cases(s==[112,117,116])with
    |true=>rfl
    |false=>cases(s==[116,105,99,107])<;>rfl
 ·rw[c2 e];dsimp only;cases q1:(w0==[111,114,100,101,114])with
  |true=>
   have hw:=kI.1 q1;subst hw;exact RH 1 (.inl rfl) hW e n hn
  |false=>cases q2:(w0==[98,97,99,107])with
   |true=>
    have hw:=kI.1 q2;subst hw;exact RH 2 (.inr (.inl rfl)) hW e n hn
   |false=>cases q3:(w0==[112,117,116])with
    |true=>
     have hw:=kI.1 q3;subst hw;exact RH 3 (.inr (.inr (.inl rfl))) hW e n hn
    |false=>cases q4:(w0==[116,105,99,107])with
     |true=>
      have hw:=kI.1 q4;subst hw;exact RH 4 (.inr (.inr (.inr rfl))) hW e n hn
     |false=>
      refine⟨_,rfl,.inr ⟨fun a h1 h2=>?_,rfl⟩⟩;rcases ir a h1 h2 with⟨d,l,rfl,hd,jA,Vm,hW⟩|⟨i,rfl,hi,hW⟩|⟨p,q,m,rfl,hp,hq,hm,hW⟩|⟨m,rfl,hm,hW⟩<;>injection hW with hW _<;>subst hW
      ·cases q1
      ·cases q2
      ·cases q3
      ·cases q4
theorem Tu(s:List UInt8)(hs:s.length≤1048576)(n:Nat)(hn:Qa≤n):∃r,QN n s=some r∧Q0 n s=some r∧Rn n s r:=by obtain⟨r,h1,h2⟩:=R0 s (by omega) n hn;obtain⟨t,h3,h4⟩:=S0 s hs n hn;rw[R3 hn h2 h4]at h1;exact⟨t,h1,h3,h4⟩
theorem SR(t:List UInt8)(ht:t.length≤100000000)(n:Nat)(hn:Qa≤n):∃c:Nat,c<9973∧Qp n t=some (c:Int)∧QS n t=some (c:Int):=by
 have hL:Qi t=P4 t:=by funext x;unfold Qi P4;rw[Int.mul_comm]
 have hl:=RV (σ:=Nat) (P4 t) (fun i s=>((s:Int),(i:Int))) t (fun l s=>(((l.foldl (fun(s:Nat)(x:UInt8)=>(s*31+x.toNat)%9973) s:Nat):Int),(t.length:Int))) (fun i s=>s<9973)
  (fun s hs=>by unfold P4;simp) (fun i x l s h1 h2 h3 h4 h5=>by
   left;refine⟨(s*31+x.toNat)%9973,?_,Nat.mod_lt _ (by decide),rfl⟩;unfold P4;dsimp only;have hx:x.toNat<256:=x.toNat_lt;rw[show decide ((i:Int)<(t.length:Int))=true by simp only[kV];omega,lu,SH,h2,QW h1 (by omega)];simp only[lr];rw[Ps (n:=(s:Int)*31) (by omega) (by omega),Ps (n:=(x.toNat:Int)) (by omega) (by omega),Ps (n:=(s:Int)*31+(x.toNat:Int)) (by omega) (by omega),mD (by omega)];rfl) n (by unfold Qa at hn;omega) 0 (by omega)
 have hr:∀(l:List UInt8)(s:Nat),s<9973→l.foldl (fun(s:Nat)(x:UInt8)=>(s*31+x.toNat)%9973) s<9973:=by
  intro l
  induction l with
  |nil=>intro s h;exact h
  |cons x l ih=>intro s h;exact ih _ (Nat.mod_lt _ (by decide))
 refine⟨_,hr t 0 (by omega),?_,?_⟩
 ·unfold Qp;have Ws:iter n (P4 t) (0,0)=_:=hl;rw[Ws];rfl
 ·unfold QS;rw[hL];have Ws:iter n (P4 t) (0,0)=_:=hl;rw[Ws];rfl
theorem UA(u:Nat)(h:u<10):tx (u:Int)=[UInt8.ofNat (48+u)]:=by unfold tx;rw[l7,Go.Lib.decDigits_one h]
theorem four(c:Nat)(h:c<10000):(Go.Lib.decDigits c).length≤4∧1≤(Go.Lib.decDigits c).length∧sub (([48,48,48]:List UInt8)++Go.Lib.decDigits c) ((Go.Lib.decDigits c).length-1) (3+(Go.Lib.decDigits c).length)=[UInt8.ofNat (48+c / 1000),UInt8.ofNat (48+c / 100%10),UInt8.ofNat (48+c / 10%10),UInt8.ofNat (48+c%10)]:=by
 have z:(48:UInt8)=UInt8.ofNat (48+0):=rfl;by_cases h1:c<10
 ·rw[Go.Lib.decDigits_one h1];refine⟨by simp,by simp,?_⟩;rw[show c / 1000=0 by omega,show c / 100%10=0 by omega,show c / 10%10=0 by omega,show c%10=c by omega];rfl
 by_cases h2:c<100
 ·rw[Go.Lib.decDigits_two h1 h2];refine⟨by simp,by simp,?_⟩;rw[show c / 1000=0 by omega,show c / 100%10=0 by omega,show c / 10%10=c / 10 by omega];rfl
 by_cases h3:c<1000
 ·rw[Go.Lib.decDigits,dif_neg h1,Go.Lib.decDigits_two (by omega) (by omega)];refine⟨by simp,by simp,?_⟩;rw[show c / 1000=0 by omega,show c / 100%10=c / 10 / 10 by omega,show c / 10%10=c / 10%10 by omega];rfl
 ·rw[Go.Lib.decDigits,dif_neg h1,Go.Lib.decDigits,dif_neg (by omega),Go.Lib.decDigits_two (by omega) (by omega)];refine⟨by simp,by simp,?_⟩;rw[show c / 1000=c / 10 / 10 / 10 by omega,show c / 100%10=c / 10 / 10%10 by omega];rfl
theorem T8{m:Nat}(h:m≤1048576):decide (m+1≤Di)=true:=by have hm:Di=68719476736:=rfl;grind
theorem U4{m:Nat}(h:m≤1048576):decide (m≤Di)=true:=by have hm:Di=68719476736:=rfl;grind
theorem TB{α γ:Type}(f g:α→Option (α⊕γ))(I:Nat→α→Prop)(Q:γ→Prop)(m:Nat)
  (h:∀i x,i≤m→I i x→g x=f x∧((∃y,f x=some (.inl y)∧I (i+1) y∧i<m)∨∃r,f x=some (.inr r)∧Q r)):
  ∀n,m<n→∀x,I 0 x→iter n g x=iter n f x∧∃r,iter n f x=some r∧Q r:=by
 have key:∀d i n x,i+d=m→d<n→I i x→iter n g x=iter n f x∧∃r,iter n f x=some r∧Q r:=by
  intro d
  induction d with
  |zero=>
   intro i n x hi hn hI;obtain⟨n,rfl⟩:∃k,n=k+1:=⟨n-1,by omega⟩;obtain⟨e,h1|⟨r,h1,h2⟩⟩:=h i x (by omega) hI
   ·obtain⟨y,_,_,Vs⟩:=h1;omega
   ·exact⟨by rw[Pt h1 n,Pt (e.trans h1) n],r,Pt h1 n,h2⟩
  |succ d ih=>
   intro i n x hi hn hI;obtain⟨n,rfl⟩:∃k,n=k+1:=⟨n-1,by omega⟩;obtain⟨e,⟨y,h1,h2,_⟩|⟨r,h1,h2⟩⟩:=h i x (by omega) hI
   ·obtain⟨j1,j2⟩:=ih (i+1) n y (by omega) (by omega) h2;rw[QD h1 n,QD (e.trans h1) n];exact⟨j1,j2⟩
   ·exact⟨by rw[Pt h1 n,Pt (e.trans h1) n],r,Pt h1 n,h2⟩
 grind
def Ta{β:Type}(key:β→Int)(a:List β)(i:Nat)(x:β):Bool:=match i with
 |0=>true
 |j+1=>match a[j]? with
  |some y => !decide (key y≥key x)
  |none=>true
theorem Un{β γ:Type}(key:β→Int)(a:List β)(x:β)(i:Nat)(hi:i<a.length)(hl:a.length≤1048576)(F:Bool→Option γ):
  (bif decide ((i:Int)>0)then(NY a (P8 ((i:Int)-1))).bind (fun y=>F (decide (key y≥key x)))else F false)=F (!Ta key a i x):=by
 cases i with
 |zero=>rfl
 |succ j=>
  have hw:P8 (((j+1:Nat):Int)-1)=(j:Int):=by rw[Ps (by omega) (by omega)];omega
  rw[show decide (((j+1:Nat):Int)>0)=true by grind,lu,hw,P2 (by omega),lr];simp only[Ta,j7 (show j<a.length by omega),Bool.not_not]
def TR(a b c:Int):Bool:=decide (b≤a)&&decide (a≤c)
theorem TZ(a b c:Int):Pu a b c=some (TR a b c):=Qe a b c
def Qk(w h:Int)(c:List Int):Bool:=TR w 1 10&&TR h 1 10&&((c.length:Int)==P8 (w*h))&&c.all fun k=>TR k 0 4
theorem Rj(w h:Int)(c:List Int)(hl:c.length≤1048576)(n:Nat)(hn:Qa≤n):Qq n w h c=some (Qk w h c):=by
 have:=SD (QV c) c (fun k=>TR k 0 4) (fun i x h1 h2=>by
  have hx:c[i]=x:=by rw[j7 h1]at h2;exact Option.some.inj h2
  simp only[QV,P2 h1,hx,lr,QW h1 (by omega),TZ];grind) (by simp[QV]) n (by unfold Qa at hn;omega)
 unfold Qq Qk;rw[this];simp only[TZ,lr,bne];cases TR w 1 10<;>cases TR h 1 10<;>cases((c.length:Int)==P8 (w*h))<;>cases(c.all fun k=>TR k 0 4)<;>rfl
def RT(w h i:Int):List Int:=(bif decide (i.tdiv w>0)then [i-w]else [])++(bif decide (i.tmod w>0)then [i-1]else [])++(bif decide (i.tmod w<w-1)then [i+1]else [])++(bif decide (i.tdiv w<h-1)then [i+w]else [])
structure Cell(w h i:Int):Prop where
 w1:1≤w
 w2:w≤10
 h1:1≤h
 h2:h≤10
 i1:0≤i
 i2:i<w*h
theorem Tb{w h:Int}(h1:1≤w)(h2:w≤10)(h3:1≤h)(h4:h≤10):w*h≤100:=by have:=Int.mul_le_mul h2 h4 (by omega) (by omega:(0:Int)≤10);omega
theorem S8{w h i:Int}(c:Cell w h i):∃q r,i=w*q+r∧0≤r∧r<w∧0≤q∧q≤h-1∧i.tdiv w=q∧i.tmod w=r∧0≤w*q∧w*q+w≤w*h:=by obtain⟨w1,w2,h1,h2,i1,i2⟩:=c;have e1:i.tdiv w=i / w:=Int.tdiv_eq_ediv_of_nonneg i1;have e2:i.tmod w=i%w:=mD i1;have e3:=Int.mul_ediv_add_emod i w;have r1:=Int.emod_nonneg i (show w≠0 by omega);have r2:=Int.emod_lt_of_pos i (show 0<w by omega);have q1:0≤i / w:=Int.ediv_nonneg i1 (by omega);have q2:i / w<h:=Int.ediv_lt_of_lt_mul (by omega) (by rw[Int.mul_comm];exact i2);refine⟨i / w,i%w,e3.symm,r1,r2,q1,by omega,e1,e2,Int.mul_nonneg (by omega) q1,?_⟩;have:=Int.mul_le_mul_of_nonneg_left (show i / w+1≤h by omega) (show(0:Int)≤w by omega);grind
theorem Sn{w h i:Int}(c:Cell w h i):(∀y∈RT w h i,0≤y∧y<w*h∧y≠i)∧(RT w h i).Nodup∧(RT w h i).length≤4:=by
 obtain⟨q,r,e,r1,r2,q1,q2,e1,e2,m1,m2⟩:=S8 c;obtain⟨w1,w2,h1,h2,i1,i2⟩:=c;unfold RT;rw[e1,e2]
 have g1:0<q→w≤w*q:=fun h=>by have:=Int.mul_le_mul_of_nonneg_left (show(1:Int)≤q by omega) (show(0:Int)≤w by omega);omega
 have g2:q<h-1→w*q+w+w≤w*h:=fun hq=>by have:=Int.mul_le_mul_of_nonneg_left (show q+1+1≤h by omega) (show(0:Int)≤w by omega);grind
 have G1:q≤0∨w≤w*q:=by
  by_cases hq:0<q
  ·omega
  ·omega
 have G2:h-1≤q∨w*q+w+w≤w*h:=by
  by_cases hq:q<h-1
  ·omega
  ·omega
 clear g1 g2;generalize w*q=m at *;generalize w*h=t at *;subst e;by_cases a1:q>0<;>by_cases a2:r>0<;>by_cases a3:r<w-1<;>by_cases a4:q<h-1<;>simp[a1,a2,a3,a4]<;>omega
def Sj(c:List Int)(i:Int):Int:=c.getD i.toNat 0
theorem Tz{c:List Int}{i:Int}(h:0≤i∧i<(c.length:Int)):NY c i=some (Sj c i):=by obtain⟨m,rfl⟩:∃m:Nat,i=m:=⟨i.toNat,by omega⟩;rw[P2 (by omega)];simp[Sj,List.getD,j7 (show m<c.length by omega)]
structure To(w h:Int)(c:List Int):Prop where
 w1:1≤w
 w2:w≤10
 h1:1≤h
 h2:h≤10
 len:(c.length:Int)=w*h
theorem To.cell{w h:Int}{c:List Int}(f:To w h c){i:Int}(hi:0≤i∧i<(c.length:Int)):Cell w h i:=⟨f.w1,f.w2,f.h1,f.h2,hi.1,f.len▸hi.2⟩
theorem To.le{w h:Int}{c:List Int}(f:To w h c):c.length≤100:=by have:=Tb f.w1 f.w2 f.h1 f.h2;have:=f.len;omega
theorem Te{w h:Int}{c:List Int}(hf:Qk w h c=true):To w h c:=by unfold Qk TR at hf;simp only[j8,kV,kI]at hf;obtain⟨⟨⟨⟨a,b⟩,⟨d,e⟩⟩,g⟩,_⟩:=hf;have h1:=Tb a b d e;have h2:0≤w*h:=Int.mul_nonneg (by omega) (by omega);rw[Ps (by omega) (by omega)]at g;exact⟨a,b,d,e,g⟩
def TD(w h:Int)(c:List Int)(i:Int)(a:Bool):List Int:=(RT w h i).filter fun k=>Sj c k != 0 && !(a&&Sj c k==2)
theorem UH{w h:Int}{c:List Int}(f:To w h c){i:Int}(hi:0≤i∧i<(c.length:Int))(a:Bool):(∀y∈TD w h c i a,(0≤y∧y<(c.length:Int))∧y≠i)∧(TD w h c i a).Nodup∧(TD w h c i a).length≤4:=by obtain⟨h1,h2,h3⟩:=Sn (f.cell hi);refine⟨fun y hy=>?_,h2.filter _,kv (List.length_filter_le _ _) h3⟩;have:=h1 y (List.mem_filter.1 hy).1;rw[f.len];omega
def AS:List (Nat→Int)→List Nat→Int→Prop
 | [],_,x=>x=0
 |r::rs,S,x=>∃k∈S,∃y,AS rs (S.erase k) y∧x=r k+y
def UI(R:List (Nat→Int))(S:List Nat)(x:Int):Prop:=AS R S x∧∀y,AS R S y→x≤y
theorem UI.uniq{R:List (Nat→Int)}{S:List Nat}{x y:Int}(h1:UI R S x)(h2:UI R S y):x=y:=
 Int.le_antisymm (h1.2 y h2.1) (h2.2 x h1.1)
def Q1:List Int→Int
 | []=>0
 |x::l=>x+Q1 l
theorem TH:∀a b:List Int,Q1 (a++b)=Q1 a+Q1 b
 | [],b=>by simp[Q1]
 |x::a,b=>by simp only[lJ,Q1,TH a b];omega
theorem RP(v:Nat→Int):∀(S:List Nat)(k:Nat),k∈S→Q1 (S.map v)=v k+Q1 ((S.erase k).map v)
 | [],k,h=>by cases h
 |a::S,k,h=>by
  by_cases e:a=k
  ·subst e;simp[Q1]
  ·have hk:k∈S:=by
    rcases kS.1 h with h|h
    ·omega
    ·exact h
   have e2:(a==k)=false:=by simpa using e
   rw[List.erase_cons,e2];simp only[lh,if_false,lQ,Q1,RP v S k hk];omega
theorem SN(v:Nat→Int):∀(S:List Nat),(∀k∈S,v k≤0)→Q1 (S.map v)≤0
 | [],_=>by simp[Q1]
 |a::S,h=>by simp only[lQ,Q1];have:=SN v S (fun k hk=>h k (kB _ hk));grind
theorem AS.ge(v:Nat→Int):∀(R:List (Nat→Int)) (u:List Int) (S:List Nat) (x:Int),u.length=R.length→(∀i (hi:i<R.length) (hu:i<u.length),∀k∈S,u[i]+v k≤R[i] k)→(∀k∈S,v k≤0)→AS R S x→Q1 u+Q1 (S.map v)≤x
 | [],u,S,x,hl,_,hv,hx=>by obtain rfl:u=[]:=kD hl;have:=SN v S hv;simp only[AS]at hx;simp only[Q1];omega
 |r::R,[],S,x,hl,_,_,_=>by simp at hl
 |r::R,u0::u,S,x,hl,hc,hv,hx=>by
  obtain⟨k,hk,y,hy,rfl⟩:=hx
  have ih:=AS.ge v R u (S.erase k) y (by grind) (fun i hi hu q hq=>by
   have:=hc (i+1) (by simp;omega) (by simp;omega) q (List.mem_of_mem_erase hq);simpa using this) (fun q hq=>hv q (List.mem_of_mem_erase hq)) hy
  have h0:=hc 0 (by simp) (by simp) k hk;simp only[List.getElem_cons_zero]at h0;rw[RP v S k hk];simp only[Q1];omega
theorem R4(f:Nat→Int):∀(S:List Nat),(∀k∈S,f k=0)→Q1 (S.map f)=0
 | [],_=>rfl
 |a::S,h=>by simp only[lQ,Q1,R4 f S (fun k hk=>h k (kB _ hk)),h a kR];omega
theorem Tm(f:Nat→Int):∀(cs S:List Nat),cs.Nodup→S.Nodup→(∀k∈cs,k∈S)→(∀k∈S,k∉cs→f k=0)→Q1 (S.map f)=Q1 (cs.map f)
 | [],S,_,_,_,h=>by rw[R4 f S (fun k hk=>h k hk (by simp))];rfl
 |k::cs,S,hn,hS,hs,h=>by
  obtain⟨h1,h2⟩:=kQ.1 hn;rw[RP f S k (hs k kR),Tm f cs (S.erase k) h2 (hS.erase k) (fun q hq=>?_) (fun q hq hc=>?_)]
  ·rfl
  all_goals grind
theorem SK:∀(a b:List Nat),a.Nodup→(∀x∈a,x∈b)→a.length≤b.length
 | [],_,_,_=>by simp
 |x::a,b,hn,hs=>by obtain⟨h1,h2⟩:=kQ.1 hn;have hx:=hs x kR;have:=SK a (b.erase x) h2 (fun q hq=>(List.mem_erase_of_ne (fun e:q=x=>h1 (e▸hq))).2 (hs q (kB _ hq)));grind
def Tk:List (Nat→Int)→List Nat→Int
 |r::rs,k::ks=>r k+Tk rs ks
 |_,_=>0
theorem AS.of:∀(R:List (Nat→Int)) (cs:List Nat) (S:List Nat),cs.length=R.length→cs.Nodup→(∀k∈cs,k∈S)→AS R S (Tk R cs)
 | [],[],S,_,_,_=>rfl
 | [],c::cs,S,hl,_,_=>by simp at hl
 |r::R,[],S,hl,_,_=>by simp at hl
 |r::R,k::cs,S,hl,hn,hs=>by obtain⟨h1,h2⟩:=kQ.1 hn;refine⟨k,hs k kR,Tk R cs,AS.of R cs (S.erase k) (by simpa using hl) h2 (fun q hq=>?_),rfl⟩;grind
structure HF(C:Nat→Nat→Int)(n m:Nat)(u v:Nat→Int):Prop where
 Td:∀r j,1≤r→r≤n→1≤j→j≤m→u r+v j≤C r j
 UC:∀j,1≤j→j≤m→v j≤0
 UB:∀r,1≤r→r≤n→0≤u r
structure HM(m i:Nat)(w:Nat→Int):Prop where
 Tl:∀j,1≤j→j≤m→0≤w j∧w j<(i:Int)
 inj:∀j k,1≤j→j≤m→1≤k→k≤m→w j=w k→0<w j→j=k
 Ux:∀r:Nat,1≤r→r<i→∃j,1≤j∧j≤m∧w j=(r:Int)
structure HT(C:Nat→Nat→Int)(m:Nat)(u v w:Nat→Int):Prop where
 tight:∀j (r:Nat),1≤j→j≤m→1≤r→w j=(r:Int)→u r+v j=C r j
 free:∀j,1≤j→j≤m→w j=0→v j=0
theorem HM.open{m i:Nat}{w:Nat→Int}(h:HM m i w)(h1:1≤i)(hi:i≤m):∃j,1≤j∧j≤m∧w j=0:=by
 refine kg fun Yv=>?_
 have hp:∀j,1≤j→j≤m→0<w j:=fun j a b=>by have:=(h.Tl j a b).1;grind
 have:=SK ((List.range m).map fun k=>(w (k+1)).toNat) (List.range' 1 (i-1)) ?_ ?_
 ·grind
 ·unfold List.Nodup;rw[List.pairwise_map];refine List.Pairwise.imp_of_mem (fun {a b} ha hb aN e=>?_) (List.pairwise_lt_range (n:=m));rw[kM]at ha hb;have p1:=hp (a+1) (by omega) (by omega);have p2:=hp (b+1) (by omega) (by omega);have:=h.inj (a+1) (b+1) (by omega) (by omega) (by omega) (by omega) (by omega) p1;omega
 ·intro x hx;obtain⟨k,hk,rfl⟩:=kt.1 hx;rw[kM]at hk;have p1:=hp (k+1) (by omega) (by omega);have p2:=(h.Tl (k+1) (by omega) (by omega)).2;grind
theorem HF.ND{C:Nat→Nat→Int}{n m i:Nat}{u v w:Nat→Int}(hf:HF C n m u v)(ht:HT C m u v w)(hm:HM m i w)(h1:1≤i)(hi:i≤m)(Vm:i≤n){M:Int}(hC:∀r j,1≤r→r≤n→1≤j→j≤m→0≤C r j∧C r j≤M):
  (∀r,1≤r→r≤n→0≤u r∧u r≤M)∧∀j,1≤j→j≤m → -M≤v j∧v j≤0:=by
 obtain⟨f,f1,f2,f3⟩:=hm.open h1 hi
 have hu:∀r,1≤r→r≤n→0≤u r∧u r≤M:=fun r a b=>by have:=hf.Td r f a b f1 f2;rw[ht.free f f1 f2 f3]at this;have:=(hC r f a b f1 f2).2;exact⟨hf.UB r a b,by omega⟩
 refine⟨hu,fun j a b=>⟨?_,hf.UC j a b⟩⟩;obtain⟨q1,q2⟩:=hm.Tl j a b;by_cases h0:w j=0
 ·rw[ht.free j a b h0];grind
 ·have:=ht.tight j (w j).toNat a b (by omega) (by omega);grind
def Ch(P:Nat→Nat→Prop):List Nat→Prop
 | []=>True
 |a::l=>(a=0∧l=[])∨(1≤a∧(∃x∈l,P a x)∧Ch P l)
theorem Ch.mono{P Q:Nat→Nat→Prop}:∀ {l:List Nat},(∀a x,a∈l→x∈l→P a x→Q a x)→Ch P l→Ch Q l
 | [],_,_=>trivial
 |a::l,h,hc=>by
  rcases hc with hc|⟨h1,⟨x,hx,hP⟩,h3⟩
  ·exact .inl hc
  ·exact .inr ⟨h1,⟨x,hx,h a x kR (kB _ hx) hP⟩,Ch.mono (fun a x ha hx=>h a x (kB _ ha) (kB _ hx)) h3⟩
theorem Ch.tail{P:Nat→Nat→Prop}{a:Nat}{l:List Nat}(h:Ch P (a::l)):Ch P l:=by
 rcases h with⟨_,h⟩|⟨_,_,h⟩
 ·rw[h];trivial
 ·exact h
theorem Ch.drop{P:Nat→Nat→Prop}{l:List Nat}:∀ {p:List Nat},Ch P (p++l)→Ch P l
 | [],h=>h
 |a::p,h=>Ch.drop (p:=p) (Ch.tail h)
def Fr(C:Nat→Nat→Int)(u v w fr:Nat→Int)(a x:Nat):Prop:=fr a=(x:Int)∧∃r:Nat,1≤r∧w x=(r:Int)∧u r+v a=C r a
structure HG(C:Nat→Nat→Int)(n m:Nat)(u v w ls fr:Nat→Int)(Q:List Nat)(j0:Nat):Prop where
 hf:HF C n m u v
 ht:HT C m u v w
 Uu:j0≤m
 nd:(j0::Q).Nodup
 qm:∀j∈Q,j≤m
 qp:∀j∈Q,1≤w j
 ch:Ch (Fr C u v w fr) (j0::Q)
 l1:∀j,1≤j→j≤m→j∉Q→∀b∈Q,∀r:Nat,w b=(r:Int)→ls j≤C r j-u r-v j
 l2:Q=[]∨∀j,1≤j→j≤m→j∉Q→∃b∈Q,fr j=(b:Int)∧∃r:Nat,1≤r∧w b=(r:Int)∧ls j=C r j-u r-v j
structure HS(C:Nat→Nat→Int)(n m:Nat)(u v w ls fr:Nat→Int)(Q:List Nat):Prop where
 hf:HF C n m u v
 ht:HT C m u v w
 nd:Q.Nodup
 qm:∀j∈Q,j≤m
 qp:∀j∈Q,1≤w j
 ch:Ch (Fr C u v w fr) Q
 l1:∀j,1≤j→j≤m→j∉Q→∀b∈Q,∀r:Nat,w b=(r:Int)→ls j≤C r j-u r-v j
 l2:∀j,1≤j→j≤m→j∉Q→∃b∈Q,fr j=(b:Int)∧∃r:Nat,1≤r∧w b=(r:Int)∧ls j=C r j-u r-v j
theorem HG.scan{C:Nat→Nat→Int}{n m:Nat}{u v w ls fr ZP aJ:Nat→Int}{Q:List Nat}{j0:Nat}(h:HG C n m u v w ls fr Q j0){i0:Nat}(hi:1≤i0)(hw:w j0=(i0:Int))
  (bQ:Q=[]→∀j,1≤j→j≤m→C i0 j-u i0-v j<ls j)
  (ja:∀j,j≤m→j∈j0::Q→aJ j=fr j)
  (YN:∀j,1≤j→j≤m→j∉j0::Q→(C i0 j-u i0-v j<ls j∧ZP j=C i0 j-u i0-v j∧aJ j=(j0:Int))∨(¬C i0 j-u i0-v j<ls j∧ZP j=ls j∧aJ j=fr j)):
  HS C n m u v w ZP aJ (j0::Q):=by
 refine⟨h.hf,h.ht,h.nd,fun j hj=>?_,fun j hj=>?_,?_,fun j a b hj x hx r hr=>?_,fun j a b hj=>?_⟩
 ·rcases kS.1 hj with rfl|hj
  ·exact h.Uu
  ·exact h.qm j hj
 ·rcases kS.1 hj with rfl|hj
  ·omega
  ·exact h.qp j hj
 ·refine h.ch.mono fun a x ha hx hP=>⟨?_,hP.2⟩;rw[ja a ?_ ha]
  ·exact hP.1
  ·rcases kS.1 ha with rfl|ha
   ·exact h.Uu
   ·exact h.qm a ha
 ·have jd:j∉Q:=fun e=>hj (kB _ e);rcases YN j a b hj with⟨h1,h2,h3⟩|⟨h1,h2,h3⟩
  ·rcases kS.1 hx with rfl|hx
   ·grind
   ·have:=h.l1 j a b jd x hx r hr;omega
  ·rcases kS.1 hx with rfl|hx
   ·grind
   ·rw[h2];exact h.l1 j a b jd x hx r hr
 ·have jd:j∉Q:=fun e=>hj (kB _ e);rcases YN j a b hj with⟨h1,h2,h3⟩|⟨h1,h2,h3⟩
  ·grind
  ·rcases h.l2 with e|e
   all_goals grind
theorem HS.step{C:Nat→Nat→Int}{n m i:Nat}{u v w ls fr u' v' ZP:Nat→Int}{Q:List Nat}(h:HS C n m u v w ls fr Q)(hm:HM m i w)(jJ:w 0=(i:Int))(Vm:i≤n){d:Int}{j1:Nat}
  (a1:1≤j1) (a2:j1≤m) (a3:j1∉Q) (hd:ls j1=d) (ey:∀j,1≤j→j≤m→j∉Q→d≤ls j)
  (iP:∀r:Nat,1≤r→r≤n→(∃b∈Q,w b=(r:Int))→u' r=u r+d)
  (cK:∀r:Nat,1≤r→r≤n→¬(∃b∈Q,w b=(r:Int))→u' r=u r)
  (Zf:∀j,1≤j→j≤m→j∈Q→v' j=v j-d) (bt:∀j,1≤j→j≤m→j∉Q→v' j=v j)
  (hl:∀j,1≤j→j≤m→j∉Q→ZP j=ls j-d):0≤d∧HG C n m u' v' w ZP fr Q j1:=by
 have rn:∀b∈Q,∀r:Nat,w b=(r:Int)→1≤r∧r≤n:=fun b hb r hr=>by
  have h1:=h.qp b hb;refine⟨by omega,?_⟩;by_cases ZH:b=0
  ·grind
  ·have:=hm.Tl b (by omega) (h.qm b hb);omega
 have ca:0≤d:=by obtain⟨b,hb,_,r,p2,p3,p4⟩:=h.l2 j1 a1 a2 a3;obtain⟨r1,r2⟩:=rn b hb r p3;have:=h.hf.Td r j1 r1 r2 a1 a2;omega
 have inQ:∀j (r:Nat),1≤j→j≤m→j∉Q→1≤r→w j=(r:Int)→¬ ∃b∈Q,w b=(r:Int):=fun j r c1 c2 c3 c4 c5=>by
  rintro ⟨b,hb,e⟩
  by_cases ZH:b=0
  ·subst ZH;have:=hm.Tl j c1 c2;omega
  ·have:=hm.inj j b c1 c2 (by omega) (h.qm b hb) (by omega) (by omega);grind
 have tq:∀a x,a∈Q→1≤a→x∈Q→Fr C u v w fr a x→Fr C u' v' w fr a x:=fun a x ha jn hx hP=>by obtain⟨p1,r,p2,p3,p4⟩:=hP;obtain⟨r1,r2⟩:=rn x hx r p3;refine⟨p1,r,p2,p3,?_⟩;rw[iP r r1 r2 ⟨x,hx,p3⟩,Zf a jn (h.qm a ha) ha];omega
 refine⟨ca,⟨fun r j r1 r2 j1 j2=>?_,fun j c1 c2=>?_,fun r c1 c2=>?_⟩,⟨fun j r c1 c2 c3 c4=>?_,fun j c1 c2 c3=>?_⟩,a2,kQ.2 ⟨a3,h.nd⟩,h.qm,h.qp,?_,fun j c1 c2 hj b hb r hr=>?_,.inr fun j c1 c2 hj=>?_⟩
 ·have hf:=h.hf.Td r j r1 r2 j1 j2;by_cases hr:∃b∈Q,w b=(r:Int)
  ·rw[iP r r1 r2 hr];by_cases hj:j∈Q
   ·grind
   ·obtain⟨b,hb,e⟩:=hr;have:=h.l1 j j1 j2 hj b hb r e;grind
  ·rw[cK r r1 r2 hr];by_cases hj:j∈Q
   all_goals grind
 ·have:=h.hf.UC j c1 c2;by_cases hj:j∈Q
  all_goals grind
 ·have:=h.hf.UB r c1 c2;by_cases hr:∃b∈Q,w b=(r:Int)
  ·grind
  ·rw[cK r c1 c2 hr];omega
 ·have ht:=h.ht.tight j r c1 c2 c3 c4;have:=hm.Tl j c1 c2;have jr:r≤n:=by omega
  by_cases hj:j∈Q
  ·grind
  ·rw[bt j c1 c2 hj,cK r c3 jr (inQ j r c1 c2 hj c3 c4)];omega
 ·have hj:j∉Q:=fun hj=>by grind
  rw[bt j c1 c2 hj,h.ht.free j c1 c2 c3]
 ·refine .inr ⟨a1,?_,?_⟩
  ·obtain⟨b,hb,p1,r,p2,p3,p4⟩:=h.l2 j1 a1 a2 a3;obtain⟨r1,r2⟩:=rn b hb r p3;refine⟨b,hb,p1,r,p2,p3,?_⟩;grind
  ·have key:∀(l:List Nat),(∀a∈l,a∈Q)→Ch (Fr C u v w fr) l→Ch (Fr C u' v' w fr) l:=by
    intro l
    induction l with
    |nil=>intro _ _;trivial
    |cons a l ih=>
     intro hs hc;rcases hc with hc|⟨h1,⟨x,hx,hP⟩,h3⟩
     ·exact .inl hc
     ·exact .inr ⟨h1,⟨x,hx,tq a x (hs a kR) h1 (hs x (kB _ hx)) hP⟩,ih (fun b hb=>hs b (kB _ hb)) h3⟩
   exact key Q (fun a ha=>ha) h.ch
 ·obtain⟨r1,r2⟩:=rn b hb r hr;have:=h.l1 j c1 c2 hj b hb r hr;rw[hl j c1 c2 hj,iP r r1 r2 ⟨b,hb,hr⟩,bt j c1 c2 hj];omega
 ·obtain⟨b,hb,p1,r,p2,p3,p4⟩:=h.l2 j c1 c2 hj;obtain⟨r1,r2⟩:=rn b hb r p3;refine⟨b,hb,p1,r,p2,p3,?_⟩;grind
def ga(l:List Int)(i:Nat):Int:=l.getD i 0
theorem UL{l:List Int}{i:Nat}(h:i<l.length):l[i]?=some (ga l i):=by unfold ga;grind
theorem UN{l:List Int}{i:Nat}(h:i<l.length)(x:Int)(j:Nat):ga (l.set i x) j=if j=i then x else ga l j:=by unfold ga;grind
theorem UM(m:Nat)(x:Int)(j:Nat)(h:j<m):ga (List.replicate m x) j=x:=by unfold ga;grind
structure CM(a0:List (List Int))(m:Nat):Prop where
 row:∀r∈a0,r.length=m
 nm:a0.length≤m
 m10:m≤10
 ND:∀r∈a0,∀x∈r,0≤x∧x≤100000
def cC(a0:List (List Int))(r j:Nat):Int:=ga (a0.getD (r-1) []) (j-1)
theorem CM.at{a0:List (List Int)}{m:Nat}(h:CM a0 m){r j:Nat}(r1:1≤r)(r2:r≤a0.length)(j1:1≤j)(j2:j≤m):
  ∃l,NY a0 (P8 ((r:Int)-1))=some l∧NY l (P8 ((j:Int)-1))=some (cC a0 r j)∧0≤cC a0 r j∧cC a0 r j≤100000:=by
 have hm:=h.m10;have hn:=h.nm;have hr:r-1<a0.length:=by omega
 have e1:P8 ((r:Int)-1)=((r-1:Nat):Int):=by rw[Ps (by omega) (by omega)];omega
 have e2:P8 ((j:Int)-1)=((j-1:Nat):Int):=by rw[Ps (by omega) (by omega)];omega
 have hl:=h.row _ (l6 hr);have hj:j-1<a0[r-1].length:=by omega
 have e3:cC a0 r j=a0[r-1][j-1]:=by unfold cC ga;rw[List.getD,List.getD,j7 hr,lN,j7 hj];rfl
 refine⟨a0[r-1],by rw[e1,P2 hr],by rw[e2,P2 hj,e3],?_⟩;rw[e3];exact h.ND _ (l6 hr) _ (l6 hj)
theorem HM.congr{m i:Nat}{w w':Nat→Int}(h:HM m i w)(e:∀j,1≤j→j≤m→w' j=w j):HM m i w':=
 ⟨fun j a b=>by rw[e j a b];exact h.Tl j a b,fun j k a b c d=>by rw[e j a b,e k c d];exact h.inj j k a b c d,fun r a b=>by
  obtain⟨j,p,q,s⟩:=h.Ux r a b;grind⟩
theorem HT.congr{C:Nat→Nat→Int}{m:Nat}{u v w w':Nat→Int}(h:HT C m u v w)(e:∀j,1≤j→j≤m→w' j=w j):HT C m u v w':=
 ⟨fun j r a b c d=>h.tight j r a b c (by grind),fun j a b c=>h.free j a b (by grind)⟩
theorem Su{α γ:Type}{f:α→Option (α⊕γ)}(R:Nat→α→Prop)(S:γ→Prop)
  (h:∀k x,R k x→(∃z,f x=some (.inr z)∧S z)∨(∃x' k',f x=some (.inl x')∧R k' x'∧k'<k)):
  ∀n k x,R k x→k<n→∃z,S z∧iter n f x=some z:=by
 intro n
 induction n with
 |zero=>omega
 |succ n ih=>
  intro k x hR hn;rcases h k x hR with⟨z,h1,h3⟩|⟨x',k',h1,h3,h4⟩
  ·exact⟨z,h3,Pt h1 n⟩
  ·obtain⟨z,h5,h6⟩:=ih k' x' h3 (by omega);exact⟨z,h5,(QD h1 n).trans h6⟩
theorem Ch.zero{P:Nat→Nat→Prop}:∀ {a:Nat} {l:List Nat},Ch P (a::l)→0∈a::l
 |a,[],h=>by
  rcases h with⟨h,_⟩|⟨_,⟨x,hx,_⟩,_⟩
  all_goals grind
 |a,b::l,h=>by
  rcases h with⟨_,h⟩|⟨_,_,h⟩
  ·cases h
  ·exact kB _ (Ch.zero h)
def U0(x:Int):Prop:=IntKind.min .u8≤x∧x≤IntKind.max .u8
theorem RS(x:Int):0≤Ox .i64 x 255∧Ox .i64 x 255≤255:=by
 unfold Ox
 have h:(BitVec.ofInt (IntKind.bits .i64) x &&& BitVec.ofInt (IntKind.bits .i64) 255).toNat≤255:=by
  rw[BitVec.toNat_and];have:(BitVec.ofInt (IntKind.bits .i64) 255).toNat=255:=by decide
  rw[this];exact Nat.and_le_right
 generalize (BitVec.ofInt (IntKind.bits .i64) x &&& BitVec.ofInt (IntKind.bits .i64) 255).toNat=m at h;have:IntKind.wrap .i64 (m:Int)=(m:Int):=Ps (by omega) (by omega);omega
theorem RZ(b:List Int)(i h:Int)(hi:0≤i)(hb:b.length≤1048576):∃x i' h':Int,QQ b i h=some (x,b,i',h')∧0≤x∧x≤255∧0≤i':=by
 unfold QQ;rw[show decide ((0:Nat)≤33)=true from rfl,show decide ((0:Nat)≤47)=true from rfl];simp only[lu];by_cases hl:i<(b.length:Int)
 ·obtain⟨j,rfl⟩:∃j:Nat,i=(j:Int):=⟨i.toNat,by omega⟩;have hj:j<b.length:=by omega
  rw[show decide ((j:Int)<(b.length:Int))=true by grind,lu,P2 hj];simp only[lr];refine⟨_,_,_,rfl,(RS _).1,(RS _).2,?_⟩;rw[QW hj (by omega)];omega
 ·rw[show decide (i<(b.length:Int))=false by grind,ly];simp only[lr];exact⟨_,_,_,rfl,(RS _).1,(RS _).2,hi⟩
theorem Sa(b:List Int)(i h:Int)(hi:0≤i)(hb:b.length≤1048576)(n:Int):∃x i' h':Int,Pn b i h n=some (x,b,i',h')∧0≤i'∧0≤x∧(x<n∨n≤0∧x=0):=by
 unfold Pn;by_cases h0:n≤0
 ·rw[show decide (n≤0)=true by simpa using h0,lu];grind
 rw[show decide (n≤0)=false by grind,ly];have hz:(n==0)=false:=by rw[←Bool.not_eq_true];simp;omega
 rw[hz]
 have fin:∀x:Int,0≤x→0≤Int.tmod x n∧Int.tmod x n<n:=fun x hx=>by rw[mD hx];exact⟨Int.emod_nonneg _ (by omega),Int.emod_lt_of_pos _ (by omega)⟩
 obtain⟨x,i1,h1,e1,x0,x1,j1⟩:=RZ b i h hi hb;rw[e1];simp only[lr,ly];by_cases h2:n≤256
 ·grind
 rw[show decide (n≤256)=false by grind,ly];obtain⟨y,i2,X7,e2,y0,y1,j2⟩:=RZ b i1 h1 j1 hb;rw[e2];simp only[lr];obtain⟨z,i3,b9,e3,z0,z1,j3⟩:=RZ b i2 X7 j2 hb;rw[e3];simp only[lr];rw[Ps (n:=x*65536) (by omega) (by omega),Ps (n:=y*256) (by omega) (by omega),Ps (n:=x*65536+y*256) (by omega) (by omega),Ps (n:=x*65536+y*256+z) (by omega) (by omega)];exact⟨_,_,_,rfl,j3,(fin _ (by omega)).1,.inl (fin _ (by omega)).2⟩
theorem TC(a:List Int)(ha:a.length≤1048576)(n:Nat)(hn:Qa≤n):∃h:Int,Q5 n a=some (a,0,h):=by
 obtain⟨_,r,e,_⟩:=TB (α:=Int×Int) (γ:=Int×Int) (Qh a) (Qh a) (fun i x=>x.2=(i:Int)) (fun _=>True) a.length (fun i x hi hI=>by
  refine⟨rfl,?_⟩;obtain⟨h,k⟩:=x;dsimp only at hI;subst hI;unfold Qh;dsimp only;by_cases hl:i<a.length
  ·rw[show decide ((i:Int)<(a.length:Int))=true by simp;omega,lu];simp only[lr];cases decide ((i:Int)<4000)with
   |false=>grind
   |true=>
    rw[lu,P2 hl];exact .inl ⟨_,rfl,QW hl (by omega),hl⟩
  ·rw[show decide ((i:Int)<(a.length:Int))=false by simp;omega];exact .inr ⟨_,rfl,trivial⟩) n (by unfold Qa at hn;omega) (P8 (275275+(a.length:Int)),0) rfl
 unfold Q5;rw[e];exact⟨r.1,rfl⟩
def Ok{α:Type}(x:Option α)(P:α→Prop):Prop:=∃r,x=some r∧P r
section
variable {α β γ:Type}{P:α→Prop}{Q:β→Prop}
theorem Ok.pure{r:α}(h:P r):Ok (some r) P:=⟨r,rfl,h⟩
theorem Ok.bind{x:Option α}{f:α→Option β}(h:Ok x P)(hf:∀r,P r→Ok (f r) Q):Ok (x.bind f) Q:=by obtain⟨r,rfl,hr⟩:=h;exact hf r hr
theorem Ok.cond{b:Bool}{x y:Option α}(h1:b=true→Ok x P)(h2:b=false→Ok y P):Ok (bif b then x else y) P:=by grind
theorem Ok.guard{b:Bool}{x y:Option α}(hb:b=true)(h:Ok x P):Ok (bif b then x else y) P:=by grind
theorem Ok.mono{x:Option α}{P':α→Prop}(h:Ok x P)(hp:∀r,P r→P' r):Ok x P':=by obtain⟨r,e,hr⟩:=h;exact⟨r,e,hp r hr⟩
theorem Ok.of{x:Option α}{r:α}(e:x=some r)(h:P r):Ok x P:=⟨r,e,h⟩
theorem Ok.NY{xs:List α}{i:Int}(h:0≤i∧i<(xs.length:Int)):Ok (Go.Ev.NY xs i) fun r=>xs[i.toNat]?=some r:=by
 obtain⟨m,rfl⟩:∃m:Nat,i=m:=⟨i.toNat,by omega⟩;have hm:m<xs.length:=by omega
 exact⟨xs[m],P2 hm,by simp[hm]⟩
theorem Ok.get{xs:List α}{i:Nat}(h:i<xs.length):Ok xs[i]? fun r=>xs[i]?=some r:=⟨xs[i],j7 h,j7 h⟩
theorem Tf{xs:List α}{i:Int}(h:0≤i∧i<(xs.length:Int)):PG xs i=true:=by unfold PG;grind
theorem Ok.iter{f:α→Option (α⊕γ)}{S:γ→Prop}(R:Nat→α→Prop)
  (h:∀k x,R k x→Ok (f x) fun y=>(∃x',y=.inl x'∧∃k',R k' x'∧k'<k)∨∃z,y=.inr z∧S z) {n k:Nat} {x:α} (hR:R k x) (hk:k<n):Ok (Go.Ev.iter n f x) S:=by
 obtain⟨z,hz,e⟩:=Su R S (fun k x hx=>by
  obtain⟨y,e,hy⟩:=h k x hx;rcases hy with⟨x',rfl,k',h1,h2⟩|⟨z,rfl,h1⟩
  ·exact .inr ⟨x',k',e,h1,h2⟩
  grind) n k x hR hk
 exact⟨z,e,hz⟩
end
def P0{α:Type}(g:Nat→Option α):Prop:=∀n m r,n≤m→g n=some r→g m=some r
theorem P0.const{α:Type}(x:Option α):P0 fun _=>x:=fun _ _ _ _ h=>h
theorem P0.bind{α β:Type}{g:Nat→Option α}{f:Nat→α→Option β}(hg:P0 g)(hf:∀x,P0 fun n=>f n x):P0 fun n=>(g n).bind (f n):=by
 intro n m r jY h;cases hx:g n with
 |none=>grind
 |some x=>
  simp only[hx,lr]at h;simp only[hg n m x jY hx,lr];exact hf x n m r jY h
theorem P0.cond{α:Type}{b:Bool}{g h:Nat→Option α}(hg:P0 g)(hh:P0 h):P0 fun n=>bif b then g n else h n:=by
 cases b with
 |true=>exact hg
 |false=>exact hh
theorem P0.sum{α β γ:Type}{x:α⊕β}{g:α→Nat→Option γ}{h:β→Nat→Option γ}(hg:∀a,P0 (g a))(hh:∀b,P0 (h b)):P0 fun n=>(match x with | .inl a=>g a n | .inr b=>h b n):=by
 cases x with
 |inl a=>exact hg a
 |inr b=>exact hh b
theorem P0.iter{α γ:Type}{L:Nat→α→Option (α⊕γ)}(hL:∀x,P0 fun n=>L n x)(x0:α):P0 fun n=>Go.Ev.iter n (L n) x0:=by
 have key:∀(k n m:Nat)(x:α)(r:γ),n≤m→k≤k+0→Go.Ev.iter k (L n) x=some r→∀j,k≤j→Go.Ev.iter j (L m) x=some r:=by
  intro k
  induction k with
  |zero=>intro n m x r _ _ h;simp[Go.Ev.iter]at h
  |succ k ih=>
   intro n m x r jY _ h j hj;obtain⟨j,rfl⟩:∃i,j=i+1:=⟨j-1,by omega⟩;simp only[Go.Ev.iter]at h ⊢;cases hx:L n x with
   |none=>rw[hx]at h;cases h
   |some y=>
    rw[hx]at h;have h2:L m x=some y:=hL x n m y jY hx;rw[h2];cases y with
    |inl x'=>exact ih n m x' r jY (by omega) h j (by omega)
    |inr z=>exact h
 intro n m r jY h;grind
def Cu(b:List Int)(i:Int):Prop:=b.length≤1048576∧0≤i
theorem QL{b:List Int}{i c:Int}(h:Cu b i)(m:Int):Ok (Pn b i c m) fun x=>Cu x.2.1 x.2.2.1∧0≤x.1∧(0<m→x.1<m):=by obtain⟨x,i',h',e,h1,h2,h3⟩:=Sa b i c h.2 h.1 m;exact⟨_,e,⟨h.1,h1⟩,h2,fun hm=>by omega⟩
theorem SA{b:List Int}{i c:Int}(h:Cu b i)(m:Int):Ok (Qc b i c m) fun x=>Cu x.2.1 x.2.2.1:=by unfold Qc;exact(QL h m).bind fun r hr=>Ok.pure hr.1
theorem ok_int{b:List Int}{i c:Int}(h:Cu b i){xs:List Int}(hx:0<xs.length):Ok (QR b i c xs) fun x=>Cu x.2.1 x.2.2.1∧x.1∈xs:=by unfold QR;refine(QL h _).bind fun r hr=>(Ok.NY ⟨hr.2.1,hr.2.2 (by omega)⟩).bind fun v hv=>Ok.pure ⟨hr.1,kC hv⟩
theorem Sc(s:List UInt8)(b:Int):P0 fun n=>QF n s b:=by unfold QF;exact P0.bind (P0.iter (L:=fun _=>Pq s b) (fun _=>P0.const _) _) fun _=>P0.const _
theorem Sx(c:Int):P0 fun n=>Qy n c:=by unfold Qy;exact P0.bind (P0.iter (L:=fun _=>RA c) (fun _=>P0.const _) _) fun x=>P0.const _
theorem Sb(s:List UInt8):P0 fun n=>P7 n s:=by unfold P7;refine P0.bind (Sc s 10) fun x1=>P0.cond (P0.bind (P0.const _) fun x2=>P0.bind (P0.iter (L:=fun n=>QY n x1) (fun x3=>?_) _) fun _=>P0.const _) (P0.const _);unfold QY;refine P0.cond (P0.bind (P0.const _) fun x5=>P0.cond (P0.const _) (P0.bind (P0.const _) fun x9=>P0.cond (P0.const _) (P0.bind (P0.iter (L:=fun n=>QZ n x1 x3) (fun iu=>?_) _) fun _=>P0.const _))) (P0.const _);unfold QZ;refine P0.cond (P0.bind (P0.const _) fun _=>P0.cond (P0.cond (P0.bind (P0.const _) fun _=>P0.bind (P0.const _) fun _=>P0.bind (Sx _) fun _=>P0.const _) (P0.const _)) (P0.const _)) (P0.const _)
def SS:List (List UInt8):=[[99,46,46,46,46,46,10,46,112,112,46,112,46,10,46,112,112,46,112,46,10,46,46,46,46,46,115,10],[99,46,46,10,46,46,46,10,46,46,115,10],[46,46,46,46,46,10,46,112,35,112,46,10,46,46,115,46,46,10,46,112,35,112,46,10,99,46,46,46,99,10],[46,46,46,35,46,46,46,10,46,46,46,46,46,46,46,10,46,46,46,35,46,46,46,10],[99,46,46,46,46,46,46,46,10,46,112,46,112,46,112,46,46,10,46,46,46,46,46,46,46,115,10,46,112,46,112,46,112,46,46,10,99,46,46,46,46,46,46,115,10],[46,46,10,46,46,10],[99,46,35,46,115,10,46,46,35,46,46,10]]
def R8(s:List UInt8):Bool:=match P7 60 s with
 |some (w,h,c,b)=>Qk w h c&&b == -1&&decide (0<c.length)
 |none=>false
theorem TN:SS.all R8=true:=by kernel_rfl
theorem TG{s:List UInt8}(h:R8 s=true)(n:Nat)(hn:Qa≤n):Ok (P7 n s) fun x=>Qk x.1 x.2.1 x.2.2.1=true∧x.2.2.2 = -1∧0<x.2.2.1.length:=by
 unfold R8 at h;cases hp:P7 60 s with
 |none=>grind
 |some x=>
  rw[hp]at h;obtain⟨w,q,c,b⟩:=x;simp only[j8,kI,kV]at h;exact⟨_,Sb s 60 n _ (by unfold Qa at hn;omega) hp,h.1.1,h.1.2,h.2⟩
def QP(c:List Int)(k:Int):Nat→List Int
 |0=>[]
 |i+1=>bif c.getD i 0==k then QP c k i++[(i:Int)]else QP c k i
theorem Ro(c:List Int)(k:Int):∀i,(QP c k i).length≤i
 |0=>kT _
 |i+1=>by have:=Ro c k i;unfold QP;grind
theorem RM{c:List Int}{k x:Int}:∀ {i},x∈QP c k i→∃j:Nat,x=(j:Int)∧j<i∧c.getD j 0=k
 |0,h=>by cases h
 |i+1,h=>by
  unfold QP at h;cases hb:(c.getD i 0==k)with
  |false=>
   rw[hb,ly]at h;obtain⟨j,h1,h2,h3⟩:=RM h;grind
  |true=>
   rw[hb,lu,lW,km]at h;rcases h with h|h
   ·obtain⟨j,h1,h2,h3⟩:=RM h;exact⟨j,h1,by omega,h3⟩
   grind
theorem Sq(c:List Int)(k:Int):∀i,(QP c k i).Pairwise (· < ·)
 |0=>List.Pairwise.nil
 |i+1=>by
  have hp:=Sq c k i;unfold QP;cases hb:(c.getD i 0==k)with
  |false=>grind
  |true=>
   rw[lu,List.pairwise_append];refine⟨hp,List.pairwise_singleton _ _,fun x hx y hy=>?_⟩;obtain⟨j,h1,h2,_⟩:=RM hx;grind
theorem Sp{c:List Int}{k:Int}{i:Nat}(hi:i<c.length):QP c k (i+1)=bif c[i]==k then QP c k i++[(i:Int)]else QP c k i:=by rw[QP,show c.getD i 0=c[i] by simp[hi]]
theorem Rc(w h:Int)(c:List Int)(hl:c.length≤1048576)(hf:Qk w h c=true)(k:Int)(n:Nat)(hn:Qa≤n):Qo n w h c k=some (QP c k c.length):=by
 have hs:=Rj w h c hl n hn
 have h1:iter n (QM n w h c k) (([]:List Int),(0:Int))=some (QP c k c.length,(c.length:Int)):=SW (QM n w h c k) (fun i=>(QP c k i,(i:Int))) c.length (QP c k c.length,(c.length:Int)) (fun i hi=>by
  have hr:decide ((QP c k i).length+1≤Di)=true:=T8 (by have:=Ro c k i;clear hn;omega);unfold QM;rw[hs,hf];dsimp only;rw[show decide ((i:Int)<(c.length:Int))=true by rw[kV];clear hn;omega,Sp hi];simp only[lu,lr,P2 hi,QW hi (show c.length≤9223372036854775807 by clear hn;omega),l5,hr];grind) (by unfold QM;grind) n (by unfold Qa at hn;omega)
 unfold Qo;rw[h1];rfl
theorem Sv(n:Nat)(hn:Qa≤n){b:List Int}{i q:Int}(jP:Cu b i):Ok (Qw n b i q) fun x=>x.1.length≤4∧Cu x.2.1 x.2.2.1:=by
 unfold Qw;refine Ok.bind (P:=fun x=>x.1.length≤4∧Cu x.2.2.1 x.2.2.2.1) (Ok.iter (fun k x=>x.2.1+(k:Int)=5∧1≤x.2.1∧x.1.length+k≤4∧Cu x.2.2.1 x.2.2.2.1) (fun k x hx=>?_) (k:=4) ⟨by simp,by simp,by simp,jP⟩ (by unfold Qa at hn;omega)) fun x hx=>Ok.pure hx;obtain⟨h1,h0,h2,h3⟩:=hx;unfold Q9;refine Ok.cond (fun hb=>?_) fun hb=>Ok.pure (.inr ⟨_,rfl,by show x.1.length≤4;clear hn;omega,h3⟩);have hb:=kp hb;refine Ok.bind (P:=fun z=>z.1.length≤x.1.length+1∧Cu z.2.1 z.2.2.1) ((SA h3 3).bind fun v hv=>Ok.cond (fun _=>(ok_int hv (by simp)).bind fun u hu=>Ok.guard (T8 (by clear hn;omega)) (Ok.pure ⟨by show(x.1++[_]).length≤_;simp,hu.1⟩)) fun _=>Ok.pure ⟨by show x.1.length≤_;omega,hv⟩) fun z hz=>Ok.pure (.inl ⟨_,rfl,k-1,⟨?_,?_,?_,hz.2⟩,by clear hn;omega⟩)
 ·show P8 (x.2.1+1)+_=_;rw[Ps (by clear hn;omega) (by clear hn;omega)];clear hn;omega
 ·show 1≤P8 (x.2.1+1);rw[Ps (by clear hn;omega) (by clear hn;omega)];clear hn;omega
 grind
theorem SY(n:Nat)(hn:Qa≤n){b:List Int}{i q:Int}(jP:Cu b i)(w h:Int)(c:List Int)(hf:Qk w h c=true):Ok (Qr n b i q w h c) fun x=>Cu x.2.1 x.2.2.1:=by
 have hc:c.length≤1048576:=by have:=(Te hf).le;clear hn;omega
 unfold Qr;rw[Rc w h c hc hf 3 n hn,lr];refine Ok.bind (P:=fun z=>(z.1=false→0<(QP c 3 c.length).length)∧Cu z.2.1 z.2.2.1) (Ok.cond (fun hb=>Ok.pure ⟨(fun e=>by cases e),jP⟩) fun hb=>(SA jP 12).bind fun r hr=>Ok.pure ⟨fun _=>?_,hr⟩) fun z hz=>Ok.cond (fun _=>(QL hz.2 30).bind fun r hr=>Ok.pure hr.1) fun hb=>(QL hz.2 _).bind fun r hr=>?_
 ·grind
 ·have h0:=hz.1 hb;have h1:=hr.2.2 (by omega);exact Ok.guard (Tf ⟨hr.2.1,h1⟩) ((Ok.get (by omega)).bind fun v hv=>Ok.pure hr.1)
abbrev Ac:=Int×Int×List Pv×Int×Int×Int×Int
def Tv(a:Ac):Prop:=a.2.2.1.length≤7∧0≤a.2.2.2.2.2.2∧a.2.2.2.2.2.2≤7
theorem Sw(n:Nat)(hn:Qa≤n){b:List Int}{i q:Int}(jP:Cu b i){w h:Int}{c:List Int}(hf:Qk w h c=true):Ok (Qx n b i q w h c) fun x=>Tv (x.1,x.2.1,x.2.2.1,x.2.2.2.1,x.2.2.2.2.1,x.2.2.2.2.2.1,x.2.2.2.2.2.2.1)∧Cu x.2.2.2.2.2.2.2.1 x.2.2.2.2.2.2.2.2.1:=by
 unfold Qx;refine(QL jP 6).bind fun x hx=>Ok.bind (P:=fun _=>True) (Ok.cond (fun _=>Ok.pure trivial) fun _=>Ok.pure trivial) fun y _=>Ok.cond (fun _=>?_) fun _=>Ok.cond (fun _=>?_) fun _=>Ok.cond (fun _=>?_) fun _=>?_
 ·exact(Sv n hn hx.1).bind fun u hu=>Ok.bind (P:=fun v=>v.length≤7) (Ok.cond (fun _=>Ok.pure (by decide)) fun _=>Ok.pure (by have:=hu.1;omega)) fun v hv=>(SY n hn hu.2 w h c hf).bind fun t ht=>Ok.pure ⟨⟨hv,Int.le_refl _,by show(0:Int)≤7;decide⟩,ht⟩
 ·exact(QL hx.1 5).bind fun u hu=>Ok.pure ⟨⟨l8 _,Int.le_refl _,by show(0:Int)≤7;decide⟩,hu.1⟩
 ·refine(QL hx.1 6).bind fun u hu=>(QL hu.1 5).bind fun v hv=>(QL hv.1 5).bind fun t ht=>Ok.pure ⟨⟨l8 _,?_⟩,ht.1⟩;have h1:=ht.2.2 (by decide);have h0:=ht.2.1;show 0≤P8 (1+t.1)∧P8 (1+t.1)≤7;rw[Ps (by clear hn;omega) (by clear hn;omega)];clear hn;omega
 ·refine(QL hx.1 7).bind fun t ht=>Ok.pure ⟨⟨l8 _,?_⟩,ht.1⟩;have h1:=ht.2.2 (by decide);have h0:=ht.2.1;show 0≤P8 (1+t.1)∧P8 (1+t.1)≤7;rw[Ps (by clear hn;omega) (by clear hn;omega)];clear hn;omega
def Tw(c:Nat):List UInt8:=[UInt8.ofNat (48+c / 1000),UInt8.ofNat (48+c / 100%10),UInt8.ofNat (48+c / 10%10),UInt8.ofNat (48+c%10)]
theorem Ri(n:Nat)(a:Sk){t:List UInt8}(h:QJ n a.1 a.2.1 a.2.2.1 a.2.2.2.1 a.2.2.2.2.1 a.2.2.2.2.2.1 a.2.2.2.2.2.2=some t)(ht:t.length≤100000000){c:Nat}(hc:c<9973)(h2:QS n t=some (c:Int)):
  Qv n a.1 a.2.1 a.2.2.1 a.2.2.2.1 a.2.2.2.2.1 a.2.2.2.2.2.1 a.2.2.2.2.2.2=some (bif t==[]then []else t++42::(Tw c++[10])):=by
 unfold Qv;rw[h,lr];cases hb:(t==([]:List UInt8))with
 |true=>rfl
 |false=>
  rw[ly,ly,h2,lr];obtain⟨f1,f2,f3⟩:=four c (by omega);rw[Qd _ (by omega) (by omega),lr];have hx:tx (c:Int)=Go.Lib.decDigits c:=rfl;rw[hx];generalize hD:Go.Lib.decDigits c=D at f1 f2 f3 ⊢;have hlen:(([48,48,48]:List UInt8)++D).length=3+D.length:=by simp;omega
  rw[hlen,Ps (n:=((3+D.length:Nat):Int)-4) (by omega) (by omega)];rw[show(decide (0≤((3+D.length:Nat):Int)-4)&&decide (((3+D.length:Nat):Int)-4≤((3+D.length:Nat):Int))&&decide (((3+D.length:Nat):Int)≤((3+D.length:Nat):Int)))=true by simp;omega];rw[show Int.toNat (((3+D.length:Nat):Int)-4)=D.length-1 by omega,show Int.toNat ((3+D.length:Nat):Int)=3+D.length by omega,f3];rw[Px (by simp;omega),Px (by simp;omega),Px (by simp;omega),Px (by simp;omega)];simp[Tw]
theorem SZ{b:List Int}{i q:Int}(jP:Cu b i)(k d:Int){l:List Pv}(j p s m:Int)(hl:l.length≤7):Ok (Qs b i q k d l j p s m) fun x=>x.2.2.1.length≤8:=by
 unfold Qs
 refine Ok.bind (P:=fun z=>z.2.2.2.2.2.1.length≤8) ((QL jP 6).bind fun x hx=>Ok.cond (fun _=>(QL hx.1 6).bind fun y hy=>Ok.pure (by show l.length≤8;omega)) fun _=>
  Ok.cond (fun _=>(ok_int hx.1 (by decide)).bind fun y hy=>Ok.pure (by show l.length≤8;omega)) fun _=>Ok.cond (fun _=>(ok_int hx.1 (by decide)).bind fun y hy=>Ok.pure (by show l.length≤8;omega)) fun _=>
  Ok.cond (fun _=>(ok_int hx.1 (by decide)).bind fun y hy=>Ok.pure (by show l.length≤8;omega)) fun _=>Ok.cond (fun _=>?_) fun _=>Ok.pure (by show l.length≤8;omega)) fun z hz=>Ok.pure hz
 have g1:decide (([]:List Pv).length+l.length≤Di)=true:=by rw[kV,mB];unfold Di;omega
 refine Ok.guard g1 ((ok_int hx.1 (by decide)).bind fun y hy=>Ok.guard ?_ (Ok.pure ?_))
 ·rw[kV,lC,mB,l5];unfold Di;omega
 ·show(([]++l)++[(y.1,(1:Int))]).length≤8;rw[lC,ku,l5];omega
theorem R9(n:Nat)(hn:Qa≤n){b:List Int}{i q:Int}(jP:Cu b i):Ok (Qf n b i q) fun x=>x.2.2.1.length≤8:=by unfold Qf;refine(TG (by kernel_rfl) n hn).bind fun f hf=>(Sw n hn jP hf.1).bind fun x hx=>Ok.bind (P:=fun z=>z.2.2.2.2.2.1.length≤8) ((SA hx.2 3).bind fun o ho=>Ok.cond (fun _=>(SZ ho _ _ _ _ _ _ hx.1.1).bind fun y hy=>Ok.pure hy) fun _=>Ok.pure ?_) fun z hz=>Ok.pure hz;have h:x.2.2.1.length≤7:=hx.1.1;show x.2.2.1.length≤8;omega
theorem Rm(n:Nat)(hn:Qa≤n)(code:List Int)(hl:code.length≤1048576):Ok (QT n code) fun x=>x.2.2.1.length≤8:=by unfold QT;obtain⟨h,e⟩:=TC code hl n hn;rw[e,lr];exact(R9 n hn ⟨hl,Int.le_refl _⟩).bind fun x hx=>Ok.pure hx
theorem Rw(a:Sk):∃w W,Pw a=w::W∧w≠[]∧W≠[]:=by
 unfold Pw;split
 ·exact⟨_,_,rfl,by simp,by simp⟩
 ·split
  ·exact⟨_,_,rfl,by simp,by simp⟩
  ·split
   ·exact⟨_,_,rfl,by simp,by simp⟩
   ·exact⟨_,_,rfl,by simp,by simp⟩
theorem TX(a:Sk):P3 32 (Pw a)≠[]:=by intro h;obtain⟨w,W,e,hw,hW⟩:=Rw a;rw[e,join_cons 32 w hW]at h;simp at h
theorem Sz(n:Nat)(hn:Qa≤n){a:Sk}(ha:S5 n a){t:List UInt8}(ht:t=P3 32 (Pw a))(hl:t.length≤1048576):QN n t=some (a.1,a.2.1,a.2.2.1,a.2.2.2.1,a.2.2.2.2.1,a.2.2.2.2.2.1,a.2.2.2.2.2.2,true):=by obtain⟨r,h1,h2⟩:=R0 t hl n hn;rw[h1,R3 hn h2 (.inl ⟨a,ha,ht,rfl⟩)]
theorem Se(n:Nat)(hn:Qa≤n){a:Sk}(ha:S5 n a):(P3 32 (Pw a)).length≤300:=by
 have h:=RE hn ha rfl;rw[R5]at h;obtain⟨w,W,e,hw,hW⟩:=Rw a;rw[e]at h ⊢;have h2:=(Rr h).2;rw[join_cons 32 w hW,lC,lT]
 have:w.length≤5:=by
  rcases h with⟨d,l,rfl,hd,jA,Vm,hW⟩|⟨i,rfl,hi,hW⟩|⟨p,q,m,rfl,hp,hq,hm,hW⟩|⟨m,rfl,hm,hW⟩<;>injection hW with hW _<;>subst hW<;>decide
 omega
theorem Ra(code:List Int)(hx:(UK U0) code):∃n,Q7 n code=some true:=by
 refine⟨Qa,?_⟩;have hB:=kT Qa;unfold Q7 Rt;rw[lr];by_cases Xw:(code.length:Int)>1048576
 ·rw[mC Xw];rfl
 rw[decide_eq_false Xw,ly];obtain⟨a,e0,ha8⟩:=Rm Qa hB code (by omega);have ha:a.2.2.1.length≤1048576:=by omega
 obtain⟨t,t1,t2,t3⟩:=SQ Qa hB a ha;obtain⟨c,hc,c1,c2⟩:=SR t t3 Qa hB;have r1:=Ri Qa a t2 t3 hc c2;obtain⟨b,b1,b2⟩:=RR Qa hB a ha;rw[e0,lr,t2,lr,r1,lr,b1,lr];cases b with
 |false=>
  have ht:t=[]:=by have h:=t1;unfold QK at h;rw[b1]at h;exact(Option.some.inj h).symm
  subst ht;rw[b2];rfl
 |true=>
  have jl:S5 Qa a:=⟨ha,b1⟩
  have ht:t=P3 32 (Pw a):=by have h:=Rd Qa hB a.1 a.2.1 a.2.2.1 a.2.2.2.1 a.2.2.2.2.1 a.2.2.2.2.2.1 a.2.2.2.2.2.2 ha b1;rw[t1]at h;exact Option.some.inj h
  have Vv:(t==([]:List UInt8))=false:=by rw[lz,ht];exact TX a
  have hl:=Se Qa hB jl;rw[←ht]at hl;have hp:=Sz Qa hB jl ht (by omega);have hlen:(t++42::(Tw c++[10])).length=t.length+6:=by simp[Tw]
  have Wb:sub (t++42::(Tw c++[10])) ((0:Int).toNat) ((t.length:Int).toNat)=t:=by unfold sub;rw[l7];simp
  have hw:P8 ((t.length:Int)+6)=((t.length+6:Nat):Int):=by rw[Ps (by omega) (by omega)];omega
  have hg:(decide (0≤(0:Int))&&decide ((0:Int)≤(t.length:Int))&&decide ((t.length:Int)≤((t.length+6:Nat):Int)))=true:=by simp only[j8,kV];omega
  rw[Vv,ly,hp];simp only[mA,ly,lr,lu,t2,l9,hlen,hw,hg,Wb,c1,c2]
end Go.Ev.N
