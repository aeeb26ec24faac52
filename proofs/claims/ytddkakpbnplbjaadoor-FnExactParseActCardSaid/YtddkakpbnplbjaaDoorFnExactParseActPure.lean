/- FnExactParseAct,as a plain law over native forms: fp the program's function answers is fp the reference's answers. Conditions: none but the lengths' and numbers' bounds. -/
import Derived.Test.YtddkakpbnplbjaaDoorFnExactParseActNat
set_option linter.all false
namespace Go.Ev.N
open Go Go.Ev
theorem ij:type_of% @Option.bind_some:=@Option.bind_some
theorem ik:type_of% @cond_true:=@cond_true
theorem il:type_of% @beq_eq_false_iff_ne:=@beq_eq_false_iff_ne
theorem im:type_of% @cond_false:=@cond_false
theorem iq:type_of% @List.length_singleton:=@List.length_singleton
theorem ir:type_of% @Int.toNat_natCast:=@Int.toNat_natCast
theorem iu:type_of% @List.getElem_mem:=@List.getElem_mem
theorem iv:type_of% @List.take_succ_eq_append_getElem:=@List.take_succ_eq_append_getElem
theorem iw:type_of% @Nat.zero_le:=@Nat.zero_le
theorem ix:type_of% @beq_self_eq_true:=@beq_self_eq_true
theorem iy:type_of% @List.drop_eq_getElem_cons:=@List.drop_eq_getElem_cons
theorem iz:type_of% @Bool.not_true:=@Bool.not_true
theorem jA:type_of% @List.take_add_one:=@List.take_add_one
theorem jB:type_of% @List.take_length:=@List.take_length
theorem Pl{n:Int}(h1 : -9223372036854775808≤n)(h2:n≤9223372036854775807):QQ n=n:=by unfold QQ IntKind.wrap;simp only[IntKind.bits,IntKind.signed];grind
theorem Sp{i:Int}{m:Nat}(h0:0≤i)(h:i<(m:Int))(hm:m≤9223372036854775807):QQ (i+1)=i+1:=Pl (by omega) (by omega)
theorem QL{i m:Nat}(h:i<m)(hm:m≤9223372036854775807):QQ ((i:Int)+1)=((i+1:Nat):Int):=by rw[Pl (by omega) (by omega)];omega
theorem Rx{α:Type}(xs:List α)(i:Nat):NJ xs (i:Int)=xs[i]?:=by unfold NJ;grind
theorem Pr{α:Type}{xs:List α}{i:Nat}(h:i<xs.length):NJ xs (i:Int)=some xs[i]:=by rw[Rx];grind
theorem Rd{α:Type}(xs:List α)(i:Nat):Oz xs (i:Int)=decide (i<xs.length):=by unfold Oz;grind
theorem Qo{α:Type}{xs:List α}{i:Nat}(h:i<xs.length):Oz xs (i:Int)=true:=by rw[Rd];simpa using h
theorem SA{α:Type}(l:List α)(n:Nat)(y:α):CV l n y=l.set n y:=Bf l n y
def fI(x:Int):Prop:=IntKind.min .i64≤x∧x≤IntKind.max .i64
def fB(_:Bool):Prop:=True
def SW(x:List UInt8):Prop:=List.length x≤maxLen
def Sr{α:Type}(p:α→Prop)(x:List α):Prop:=List.length x≤maxLen∧∀y,List.Mem y x→p y
def fP{α β:Type}(p:α→Prop)(q:β→Prop)(x:α×β):Prop:=p x.1∧q x.2
theorem Sv{x:Int}(h:fI x): -9223372036854775808≤x∧x≤9223372036854775807:=by unfold fI IntKind.min IntKind.max at h;simpa[IntKind.bits,IntKind.signed]using h
theorem SN{α:Type}{p:α→Prop}{x:List α}(h:Sr p x):x.length≤9223372036854775807:=h.1
theorem SO{α:Type}{p:α→Prop}{x:List α}(h:Sr p x){y:α}(hy:y∈x):p y:=h.2 y hy
section
variable {α γ σ β:Type}
theorem Ps{f:α→Option (α⊕γ)}{x y:α}(h:f x=some (.inl y))(n:Nat):iter (n+1) f x=iter n f y:=by simp[iter,h]
theorem Pd{f:α→Option (α⊕γ)}{x:α}{z:γ}(h:f x=some (.inr z))(n:Nat):iter (n+1) f x=some z:=by simp[iter,h]
theorem RW(f:α→Option (α⊕γ))(st:Nat→α)(m:Nat)(r:γ)(hs:∀i,i<m→f (st i)=some (.inl (st (i+1))))(he:f (st m)=some (.inr r)):∀n,m<n→iter n f (st 0)=some r:=by
 have key:∀d i n,i+d=m→d<n→iter n f (st i)=some r:=by
  intro d
  induction d with
  |zero=>
   intro i n hi hn;obtain⟨n,rfl⟩:∃k,n=k+1:=⟨n-1,by omega⟩;have:i=m:=by omega
   subst this;exact Pd he n
  |succ d ih=>
   intro i n hi hn;obtain⟨n,rfl⟩:∃k,n=k+1:=⟨n-1,by omega⟩;rw[Ps (hs i (by omega)) n];exact ih (i+1) n (by omega) (by omega)
 grind
theorem QO(f:α→Option (α⊕γ))(st:Nat→σ→α)(xs:List β)(G:List β→σ→γ)(Inv:Nat→σ→Prop)
  (fA:∀s,Inv xs.length s→f (st xs.length s)=some (.inr (G [] s)))
  (aX:∀i x l s,i<xs.length→xs[i]?=some x→xs.drop i=x::l→xs.drop (i+1)=l→Inv i s→(∃s',f (st i s)=some (.inl (st (i+1) s'))∧Inv (i+1) s'∧G (x::l) s=G l s')∨f (st i s)=some (.inr (G (x::l) s))):
  ∀n,xs.length<n→∀s,Inv 0 s→iter n f (st 0 s)=some (G xs s):=by
 have key:∀d i n s,i+d=xs.length→d<n→Inv i s→iter n f (st i s)=some (G (xs.drop i) s):=by
  intro d
  induction d with
  |zero=>
   intro i n s hi hn hI;obtain⟨n,rfl⟩:∃k,n=k+1:=⟨n-1,by omega⟩;have:i=xs.length:=by omega
   subst this;rw[Pd (fA s hI) n,List.drop_length]
  |succ d ih=>
   intro i n s hi hn hI;obtain⟨n,rfl⟩:∃k,n=k+1:=⟨n-1,by omega⟩;have Tc:i<xs.length:=by omega
   have hd:xs.drop i=xs[i]::xs.drop (i+1):=iy Tc;rcases aX i xs[i] (xs.drop (i+1)) s Tc (gK Tc) hd rfl hI with⟨s',h1,h2,h3⟩|h1
   ·rw[Ps h1 n,ih (i+1) n s' (by omega) (by omega) h2,hd,h3]
   ·rw[Pd h1 n,hd]
 grind
theorem Ri(f:Int→Option (Int⊕γ))(xs:List β)(G:List β→List β→γ)(fA:f (xs.length:Int)=some (.inr (G xs [])))
  (aX:∀i x l p,i<xs.length→xs[i]?=some x→xs=p++x::l→p.length=i→p=xs.take i→(f (i:Int)=some (.inl ((i+1:Nat):Int))∧G p (x::l)=G (p++[x]) l)∨f (i:Int)=some (.inr (G p (x::l)))):
  ∀n,xs.length<n→iter n f 0=some (G [] xs):=by
 intro n hn;refine QO (σ:=List β) f (fun i _=>(i:Int)) xs (fun l p=>G p l) (fun i p=>p=xs.take i) (fun s hs=>?_) (fun i x l s h1 h2 h3 h4 h5=>?_) n hn [] (by simp)
 ·grind
 ·have hlen:s.length=i:=by rw[h5];simp;omega
  have hx:xs=s++x::l:=by rw[←h3,h5,List.take_append_drop]
  grind
end
theorem Ru{β:Type}(f:Int→Option (Int⊕(Int⊕Bool)))(xs:List β)(P:β→Bool)(hs:∀(i:Nat)(x:β),i<xs.length→xs[i]?=some x→f (i:Int)=some (bif P x then .inl ((i+1:Nat):Int)else .inr (.inr false)))
  (he:f (xs.length:Int)=some (.inr (.inl (xs.length:Int)))):∀n,xs.length<n→iter n f 0=some (bif xs.all P then .inl (xs.length:Int)else .inr false):=by
 intro n hn;refine Ri f xs (fun p l=>bif l.all P then .inl (xs.length:Int)else .inr false) ?_ ?_ n hn
 all_goals grind
theorem TS(b c:Bool):(bif b then some true else some c)=some (b||c):=by grind
theorem Ss(b c:Bool):(bif b then some c else some false)=some (b&&c):=by grind
theorem Su(b c:Bool):(bif b then some false else some c)=some (!b&&c):=by grind
theorem TU(b c:Bool):(bif b then some c else some true)=some (!b||c):=by grind
theorem SC{α:Type}(b:Bool)(x y:α):(bif b then some x else some y)=some (bif b then x else y):=by grind
theorem SM{β:Type}(L:Int×List β→Option ((Int×List β)⊕(Int×List β)))(xs:List β)(z:β)
  (hL:∀(i:Nat)(h:i<xs.length)(out:List β),out.length=xs.length→L ((i:Int),out)=some (.inl (((i+1:Nat):Int),out.set i xs[i]))) (fA:∀out,L ((xs.length:Int),out)=some (.inr ((xs.length:Int),out))):
  ∀n,xs.length<n→iter n L (0,List.replicate xs.length z)=some ((xs.length:Int),xs):=by
 intro n hn
 have:=QO (σ:=List β) L (fun i s=>((i:Int),s)) xs (fun l s=>((xs.length:Int),s.take (xs.length-l.length)++l)) (fun i s=>s.length=xs.length∧s.take i=xs.take i)
  (fun s hs=>by
   rw[fA s,show s.take (xs.length-([]:List β).length)++[]=s by simp[←hs.1]])
  (fun i x l s h1 h2 h3 h4 h5=>by
   left;have hx:xs[i]=x:=by rw[gK h1]at h2;exact Option.some.inj h2
   refine⟨s.set i xs[i],hL i h1 s h5.1,⟨by simp[h5.1],?_⟩,?_⟩
   ·rw[iv h1,iv (by simp[h5.1];exact h1)];congr 1
    ·rw[List.take_set_of_le (gk i),h5.2]
    ·simp
   ·have hl:l.length=xs.length-(i+1):=by rw[←h4];simp
    congr 1;rw[iU,hl,show xs.length-(xs.length-(i+1)+1)=i by omega,show xs.length-(xs.length-(i+1))=i+1 by omega];rw[iv (by simp[h5.1];exact h1),List.take_set_of_le (gk i)];simp[hx])
  n hn (List.replicate xs.length z) ⟨by simp,by simp⟩
 grind
def QM:Nat:=18446744073709551616
theorem SE:maxLen=9223372036854775807:=rfl
section
variable {β:Type}
open Classical in
noncomputable def mkOne (E:Int→β→Int→β→Prop) (k:Int) (x:β):Int×β:=if h:∃p:Int×β,E k x p.1 p.2 then h.choose else(k,x)
theorem RM{E:Int→β→Int→β→Prop}{k:Int}{x:β}(h:∃k' x',E k x k' x'):E k x (mkOne E k x).1 (mkOne E k x).2:=by
 have h':∃p:Int×β,E k x p.1 p.2:=let ⟨a,b,c⟩:=h;⟨(a,b),c⟩
 unfold mkOne;grind
noncomputable def Pa (E:Int→β→Int→β→Prop):Int→List β→Int×List β
 |k,[]=>(k,[])
 |k,x::l=>((Pa E (mkOne E k x).1 l).1,(mkOne E k x).2::(Pa E (mkOne E k x).1 l).2)
theorem Qb(E:Int→β→Int→β→Prop):∀(l:List β)(k:Int),(Pa E k l).2.length=l.length
 | [],k=>rfl
 |x::l,k=>by simp[Pa,Qb E l]
theorem SD(L:Int×Int×List β→Option ((Int×Int×List β)⊕(Int×Int×List β)))(sm fK:β→Prop)(c:Nat)(xs:List β)(hx:∀x∈xs,sm x)(hlen:xs.length≤1048576)
  (k0:Int) (h0:0≤k0) (hb:k0+(c:Int)*(xs.length:Int)≤4611686018427387904)
  (aX:∀(k:Int)(x:β),0≤k→k+(c:Int)≤4611686018427387904→sm x→∃k' x',k≤k'∧k'≤k+c∧fK x'∧
   (∀(i:Nat)(ys:List β),i<ys.length→ys.length≤1048576→ys[i]?=some x→L (k,(i:Int),ys)=some (.inl (k',((i+1:Nat):Int),ys.set i x'))))
  (hL:∀(k:Int)(ys:List β),L (k,(ys.length:Int),ys)=some (.inr (k,(ys.length:Int),ys))):
  ∀n,xs.length<n→∃k' UJ,iter n L (k0,0,xs)=some (k',(xs.length:Int),UJ)∧UJ.length=xs.length∧k0≤k'∧k'≤k0+(c:Int)*(xs.length:Int)∧(∀x∈UJ,fK x):=by
 intro n hn
 let E:Int→β→Int→β→Prop:=fun k x k' x'=>k≤k'∧k'≤k+c∧fK x'∧
   (∀(i:Nat)(ys:List β),i<ys.length→ys.length≤1048576→ys[i]?=some x→L (k,(i:Int),ys)=some (.inl (k',((i+1:Nat):Int),ys.set i x')))
 have UH:∀k x,0≤k→k+(c:Int)≤4611686018427387904→sm x→E k x (mkOne E k x).1 (mkOne E k x).2:=fun k x h1 h2 h3=>RM (aX k x h1 h2 h3)
 have Mx:∀(l:List β)(k:Int),(∀x∈l,sm x)→0≤k→k+(c:Int)*(l.length:Int)≤4611686018427387904→k≤(Pa E k l).1∧(Pa E k l).1≤k+(c:Int)*(l.length:Int)∧∀y∈(Pa E k l).2,fK y:=by
  intro l
  induction l with
  |nil=>intro k _ h1 h2;simp[Pa]
  |cons x l ih=>
   intro k hs h1 h2;have hc:(c:Int)*((x::l).length:Int)=c+(c:Int)*(l.length:Int):=by simp[Int.mul_add];omega
   rw[hc]at h2;have YH:0≤(c:Int)*(l.length:Int):=Int.mul_nonneg (by omega) (by omega);obtain⟨e1,e2,e3,_⟩:=UH k x h1 (by omega) (hs x (by simp));obtain⟨i1,i2,i3⟩:=ih (mkOne E k x).1 (fun y hy=>hs y (by simp[hy])) (by omega) (by omega);refine⟨?_,?_,?_⟩
   ·show k≤(Pa E (mkOne E k x).1 l).1;omega
   ·show(Pa E (mkOne E k x).1 l).1≤_;rw[hc];omega
   ·intro y hy;rcases gj.1 (show y∈(mkOne E k x).2::(Pa E (mkOne E k x).1 l).2 from hy)with rfl|hy
    ·exact e3
    ·exact i3 y hy
 obtain⟨b1,b2,b3⟩:=Mx xs k0 hx h0 hb
 have fD:∀i x l,xs.drop i=x::l→sm x∧∀y∈l,sm y:=by intro i x l hd;have:∀y∈x::l,sm y:=fun y hy=>hx y (List.mem_of_mem_drop (hd▸hy));exact⟨this x (by simp),fun y hy=>this y (by simp[hy])⟩
 refine⟨(Pa E k0 xs).1,(Pa E k0 xs).2,?_,Qb E xs k0,b1,b2,b3⟩
 have:=QO (σ:=Int×List β) L (fun i s=>(s.1,(i:Int),s.2)) xs (fun l s=>((Pa E s.1 l).1,(xs.length:Int),s.2.take (xs.length-l.length)++(Pa E s.1 l).2))
   (fun i s=>s.2.length=xs.length∧s.2.drop i=xs.drop i∧0≤s.1∧s.1+(c:Int)*((xs.length-i:Nat):Int)≤4611686018427387904)
   (fun s hs=>by
    have:=hL s.1 s.2;rw[hs.1]at this;rw[this];simp[Pa,←hs.1])
   (fun i x l s h1 h2 h3 h4 h5=>by
    left;obtain⟨q1,q2,q3,q4⟩:=h5;have ep:l.length=xs.length-(i+1):=by rw[←h4];simp
    have UO:xs.length-i=(xs.length-(i+1))+1:=by omega
    have hc:(c:Int)*((xs.length-i:Nat):Int)=c+(c:Int)*((xs.length-(i+1):Nat):Int):=by rw[UO];simp[Int.mul_add];omega
    rw[hc]at q4;have YH:0≤(c:Int)*((xs.length-(i+1):Nat):Int):=Int.mul_nonneg (by omega) (by omega);obtain⟨e1,e2,e3,e4⟩:=UH s.1 x q3 (by omega) (fD i x l h3).1
    have fV:s.2[i]?=some x:=by have:=congrArg (fun l=>l[0]?) (q2.trans h3);simpa using this
    refine⟨((mkOne E s.1 x).1,s.2.set i (mkOne E s.1 x).2),e4 i s.2 (by omega) (by omega) fV,⟨by simp[q1],?_,by omega,by omega⟩,?_⟩
    ·show(s.2.set i (mkOne E s.1 x).2).drop (i+1)=_;rw[List.drop_set_of_lt (by omega)];have:=congrArg (List.drop 1) q2;simpa using this
    ·show(((Pa E (mkOne E s.1 x).1 l).1,(xs.length:Int),s.2.take (xs.length-(l.length+1))++(mkOne E s.1 x).2::(Pa E (mkOne E s.1 x).1 l).2):Int×Int×List β)=((Pa E (mkOne E s.1 x).1 l).1,(xs.length:Int),(s.2.set i (mkOne E s.1 x).2).take (xs.length-l.length)++(Pa E (mkOne E s.1 x).1 l).2);rw[ep,show xs.length-(xs.length-(i+1)+1)=i by omega,show xs.length-(xs.length-(i+1))=i+1 by omega];rw[iv (by simp[q1];exact h1),List.take_set_of_le (gk i)];simp)
   n hn (k0,xs) ⟨rfl,rfl,h0,by simpa using hb⟩
 grind
theorem Rj{γ:Type}(L:Int×Int×List β→Option ((Int×Int×List β)⊕(Int×Int×List β)))(H:List β→Int×Int→Option ((Int×Int)⊕((Int×Int)⊕γ)))(sm fK:β→Prop)(c:Nat)(xs:List β)(hx:∀x∈xs,sm x)(hlen:xs.length≤1048576)
  (k0:Int) (h0:0≤k0) (hb:k0+(c:Int)*(xs.length:Int)≤4611686018427387904)
  (aX:∀(k:Int)(x:β),0≤k→k+(c:Int)≤4611686018427387904→sm x→∃k' x',k≤k'∧k'≤k+c∧fK x'∧
   (∀(i:Nat)(ys:List β),i<ys.length→ys.length≤1048576→ys[i]?=some x→L (k,(i:Int),ys)=some (.inl (k',((i+1:Nat):Int),ys.set i x')))∧
   (∀(i:Nat)(ys:List β),i<ys.length→ys.length≤1048576→ys[i]?=some x'→H ys (k,(i:Int))=some (.inl (k',((i+1:Nat):Int)))))
  (hL:∀(k:Int)(ys:List β),L (k,(ys.length:Int),ys)=some (.inr (k,(ys.length:Int),ys))) (hH:∀(k:Int)(ys:List β),H ys (k,(ys.length:Int))=some (.inr (.inl (k,(ys.length:Int))))):
  ∀n,xs.length<n→∃k' UJ,iter n L (k0,0,xs)=some (k',(xs.length:Int),UJ)∧UJ.length=xs.length∧k0≤k'∧k'≤k0+(c:Int)*(xs.length:Int)∧(∀x∈UJ,fK x)∧iter n (H UJ) (k0,0)=some (.inl (k',(xs.length:Int))):=by
 intro n hn
 let E:Int→β→Int→β→Prop:=fun k x k' x'=>k≤k'∧k'≤k+c∧fK x'∧
   (∀(i:Nat)(ys:List β),i<ys.length→ys.length≤1048576→ys[i]?=some x→L (k,(i:Int),ys)=some (.inl (k',((i+1:Nat):Int),ys.set i x')))∧
   (∀(i:Nat)(ys:List β),i<ys.length→ys.length≤1048576→ys[i]?=some x'→H ys (k,(i:Int))=some (.inl (k',((i+1:Nat):Int))))
 have UH:∀k x,0≤k→k+(c:Int)≤4611686018427387904→sm x→E k x (mkOne E k x).1 (mkOne E k x).2:=fun k x h1 h2 h3=>RM (aX k x h1 h2 h3)
 have Mx:∀(l:List β)(k:Int),(∀x∈l,sm x)→0≤k→k+(c:Int)*(l.length:Int)≤4611686018427387904→k≤(Pa E k l).1∧(Pa E k l).1≤k+(c:Int)*(l.length:Int)∧∀y∈(Pa E k l).2,fK y:=by
  intro l
  induction l with
  |nil=>intro k _ h1 h2;simp[Pa]
  |cons x l ih=>
   intro k hs h1 h2;have hc:(c:Int)*((x::l).length:Int)=c+(c:Int)*(l.length:Int):=by simp[Int.mul_add];omega
   rw[hc]at h2;have YH:0≤(c:Int)*(l.length:Int):=Int.mul_nonneg (by omega) (by omega);obtain⟨e1,e2,e3,_,_⟩:=UH k x h1 (by omega) (hs x (by simp));obtain⟨i1,i2,i3⟩:=ih (mkOne E k x).1 (fun y hy=>hs y (by simp[hy])) (by omega) (by omega);refine⟨?_,?_,?_⟩
   ·show k≤(Pa E (mkOne E k x).1 l).1;omega
   ·show(Pa E (mkOne E k x).1 l).1≤_;omega
   ·intro y hy;rcases gj.1 (show y∈(mkOne E k x).2::(Pa E (mkOne E k x).1 l).2 from hy)with rfl|hy
    all_goals grind
 obtain⟨b1,b2,b3⟩:=Mx xs k0 hx h0 hb
 have fD:∀i x l,xs.drop i=x::l→sm x∧∀y∈l,sm y:=by intro i x l hd;have:∀y∈x::l,sm y:=fun y hy=>hx y (List.mem_of_mem_drop (hd▸hy));exact⟨this x (by simp),fun y hy=>this y (by simp[hy])⟩
 refine⟨(Pa E k0 xs).1,(Pa E k0 xs).2,?_,Qb E xs k0,b1,b2,b3,?_⟩
 ·have:=QO (σ:=Int×List β) L (fun i s=>(s.1,(i:Int),s.2)) xs (fun l s=>((Pa E s.1 l).1,(xs.length:Int),s.2.take (xs.length-l.length)++(Pa E s.1 l).2))
   (fun i s=>s.2.length=xs.length∧s.2.drop i=xs.drop i∧0≤s.1∧s.1+(c:Int)*((xs.length-i:Nat):Int)≤4611686018427387904)
   (fun s hs=>by
    have:=hL s.1 s.2;rw[hs.1]at this;rw[this];simp[Pa,←hs.1])
   (fun i x l s h1 h2 h3 h4 h5=>by
    left;obtain⟨q1,q2,q3,q4⟩:=h5;have ep:l.length=xs.length-(i+1):=by rw[←h4];simp
    have UO:xs.length-i=(xs.length-(i+1))+1:=by omega
    have hc:(c:Int)*((xs.length-i:Nat):Int)=c+(c:Int)*((xs.length-(i+1):Nat):Int):=by rw[UO];simp[Int.mul_add];omega
    rw[hc]at q4;have YH:0≤(c:Int)*((xs.length-(i+1):Nat):Int):=Int.mul_nonneg (by omega) (by omega);obtain⟨e1,e2,e3,e4,e5⟩:=UH s.1 x q3 (by omega) (fD i x l h3).1
    have fV:s.2[i]?=some x:=by have:=congrArg (fun l=>l[0]?) (q2.trans h3);simpa using this
    refine⟨((mkOne E s.1 x).1,s.2.set i (mkOne E s.1 x).2),e4 i s.2 (by omega) (by omega) fV,⟨by simp[q1],?_,by omega,by omega⟩,?_⟩
    ·show(s.2.set i (mkOne E s.1 x).2).drop (i+1)=_;rw[List.drop_set_of_lt (by omega)];have:=congrArg (List.drop 1) q2;simpa using this
    ·show(((Pa E (mkOne E s.1 x).1 l).1,(xs.length:Int),s.2.take (xs.length-(l.length+1))++(mkOne E s.1 x).2::(Pa E (mkOne E s.1 x).1 l).2):Int×Int×List β)=((Pa E (mkOne E s.1 x).1 l).1,(xs.length:Int),(s.2.set i (mkOne E s.1 x).2).take (xs.length-l.length)++(Pa E (mkOne E s.1 x).1 l).2);rw[ep,show xs.length-(xs.length-(i+1)+1)=i by omega,show xs.length-(xs.length-(i+1))=i+1 by omega];rw[iv (by simp[q1];exact h1),List.take_set_of_le (gk i)];simp)
   n hn (k0,xs) ⟨rfl,rfl,h0,by simpa using hb⟩
  grind
 ·have Ze:(Pa E k0 xs).2.length=xs.length:=Qb E xs k0
  have:=QO (σ:=Int) (H (Pa E k0 xs).2) (fun i k=>(k,(i:Int))) xs (fun l k=>(.inl ((Pa E k l).1,(xs.length:Int)):(Int×Int)⊕γ))
   (fun i k=>(Pa E k0 xs).2.drop i=(Pa E k (xs.drop i)).2∧0≤k∧k+(c:Int)*((xs.length-i:Nat):Int)≤4611686018427387904)
   (fun k hk=>by
    have:=hH k (Pa E k0 xs).2;rw[Ze]at this;rw[this];simp[Pa])
   (fun i x l k h1 h2 h3 h4 h5=>by
    left;obtain⟨q2,q3,q4⟩:=h5;have UO:xs.length-i=(xs.length-(i+1))+1:=by omega
    have hc:(c:Int)*((xs.length-i:Nat):Int)=c+(c:Int)*((xs.length-(i+1):Nat):Int):=by rw[UO];simp[Int.mul_add];omega
    rw[hc]at q4;have YH:0≤(c:Int)*((xs.length-(i+1):Nat):Int):=Int.mul_nonneg (by omega) (by omega);obtain⟨e1,e2,e3,e4,e5⟩:=UH k x q3 (by omega) (fD i x l h3).1;rw[h3]at q2;have q2:(Pa E k0 xs).2.drop i=(mkOne E k x).2::(Pa E (mkOne E k x).1 l).2:=q2
    have fV:(Pa E k0 xs).2[i]?=some (mkOne E k x).2:=by have:=congrArg (fun l=>l[0]?) q2;simpa using this
    refine⟨(mkOne E k x).1,e5 i _ (by omega) (by omega) fV,⟨?_,by omega,by omega⟩,rfl⟩;have:=congrArg (List.drop 1) q2;rw[h4];simpa using this)
   n hn k0 ⟨rfl,h0,by simpa using hb⟩
  omega
theorem SQ(L:Int×Int→Option ((Int×Int)⊕((Int×Int)⊕Int)))(xs:List β)(sm:β→Prop)
  (aX:∀(i:Nat)(x:β)(left:Int),i<xs.length→xs[i]?=some x→0≤left→left≤1048576→(∃r,L (left,(i:Int))=some (.inl (r,((i+1:Nat):Int)))∧0≤r∧r≤left∧sm x)∨∃r,L (left,(i:Int))=some (.inr (.inr r))∧r<0)
  (fA:∀left,L (left,(xs.length:Int))=some (.inr (.inl (left,(xs.length:Int))))):∀n,xs.length<n→∀left:Int,0≤left→left≤1048576→
  (∃r,iter n L (left,0)=some (.inr r)∧r<0)∨∃r,iter n L (left,0)=some (.inl (r,(xs.length:Int)))∧0≤r∧r≤left∧∀x∈xs,sm x:=by
 have key:∀d i n (left:Int),i+d=xs.length→d<n→0≤left→left≤1048576→(∃r,iter n L (left,(i:Int))=some (.inr r)∧r<0)∨∃r,iter n L (left,(i:Int))=some (.inl (r,(xs.length:Int)))∧0≤r∧r≤left∧∀x∈xs.drop i,sm x:=by
  intro d
  induction d with
  |zero=>
   intro i n left hi hn h0 h1;obtain⟨n,rfl⟩:∃k,n=k+1:=⟨n-1,by omega⟩;have:i=xs.length:=by omega
   subst this;exact .inr ⟨left,Pd (fA left) n,h0,Int.le_refl _,by simp⟩
  |succ d ih=>
   intro i n left hi hn h0 h1;obtain⟨n,rfl⟩:∃k,n=k+1:=⟨n-1,by omega⟩;have Tc:i<xs.length:=by omega
   rcases aX i xs[i] left Tc (gK Tc) h0 h1 with⟨r,e,r0,r1,hs⟩|⟨r,e,r0⟩
   ·rw[Ps e n];rcases ih (i+1) n r (by omega) (by omega) r0 (by omega)with⟨q,e2,q0⟩|⟨q,e2,q0,q1,q2⟩
    ·exact .inl ⟨q,e2,q0⟩
    ·refine .inr ⟨q,e2,q0,by omega,?_⟩;rw[iy Tc];intro x hx;rcases gj.1 hx with rfl|hx
     ·exact hs
     ·exact q2 x hx
   ·exact .inl ⟨r,Pd e n,r0⟩
 intro n hn left h0 h1;have:=key xs.length 0 n left (by omega) hn h0 h1;grind
end
theorem SP(m:Nat)(h:m≤1048576):(decide (0≤(m:Int))&&decide ((m:Int)≤(Dc:Int))&&decide ((m:Int)=(m:Int)))=true:=by have hm:Dc=68719476736:=rfl;grind
theorem RY{α:Type}(xs:List α)(i:Nat)(f:α→α)(h:i<xs.length):List.modify xs i f=xs.set i (f xs[i]):=by
 apply List.ext_getElem
 all_goals grind
def QX(a:List (Int×Int)):Prop:=a.length≤1048576
theorem Qu(a:List (Int×Int))(h:QX a)(n:Nat)(hn:QM≤n):QD n a a=some true:=by
 have hl:a.length≤1048576:=h
 have hc:=RW (Py a a) (fun i=>(i:Int)) a.length (.inl (a.length:Int)) (fun i hi=>by
  simp[Py,hi,Pr hi,QV,QL hi (by omega)]) (by simp[Py]) n (by unfold QM at hn;omega)
 unfold QD;rw[show((a.length:Int) != (a.length:Int))=false by simp,im];rw[show((0:Nat):Int)=0 from rfl]at hc;rw[hc];rfl
theorem Qm(a:List (Int×Int))(h:QX a)(k:Int)(h0:0≤k)(h1:k+2097152≤4611686018427387904)(n:Nat)(hn:QM≤n):∃k' a',P3 n a k=some (k',a')∧k≤k'∧k'≤k+2097152∧QX a'∧P2 n a' k=some k':=by
 have hl:a.length≤1048576:=h
 have st:∀(k:Int)(x:Int×Int),0≤k→k+((2:Nat):Int)≤4611686018427387904→True→∃k' x',k≤k'∧k'≤k+((2:Nat):Int)∧True∧(∀(i:Nat) (ys:List (Int×Int)),i<ys.length→ys.length≤1048576→ys[i]?=some x→Pn (k,(i:Int),ys)=some (.inl (k',((i+1:Nat):Int),ys.set i x')))∧(∀(i:Nat) (ys:List (Int×Int)),i<ys.length→ys.length≤1048576→ys[i]?=some x'→Pm ys (k,(i:Int))=some (.inl (k',((i+1:Nat):Int)))):=by
  intro k x h0 h1 _;refine⟨k+2,(k,(k+1)),by omega,by omega,trivial,fun i ys hi hy hx=>?_,fun i ys hi hy hx=>?_⟩
  ·have ZO:ys[i]=x:=by rw[gK hi]at hx;exact Option.some.inj hx
   have a0:k+1+1=k+2:=by omega
   have a1:k+2+1=k+3:=by omega
   have a2:k+3+1=k+4:=by omega
   have a3:k+4+1=k+5:=by omega
   simp[Pn,hi,Rd,SA,RY,QL hi (by omega),Pl (n:=k+1) (by omega) (by omega),Pl (n:=k+2) (by omega) (by omega),a0,a1,a2,a3]
  ·have ZO:ys[i]=(k,(k+1)):=by rw[gK hi]at hx;exact Option.some.inj hx
   have a0:k+1+1=k+2:=by omega
   have a1:k+2+1=k+3:=by omega
   have a2:k+3+1=k+4:=by omega
   have a3:k+4+1=k+5:=by omega
   simp[Pm,hi,Pr hi,ZO,QL hi (by omega),Pl (n:=k+1) (by omega) (by omega),Pl (n:=k+2) (by omega) (by omega),a0,a1,a2,a3]
 obtain⟨k',a',e1,e2,e3,e4,_,e5⟩:=Rj (γ:=Int) Pn Pm (fun _=>True) (fun _=>True) 2 a (fun _ _=>trivial) hl k h0 (by omega) st (fun k ys=>by simp[Pn]) (fun k ys=>by simp[Pm]) n (by unfold QM at hn;omega);refine⟨k',a',?_,e3,by omega,by unfold QX;omega,?_⟩
 ·unfold P3;rw[e1];rfl
 ·unfold P2;rw[e5];rfl
def Qq(a:Int×Int×(List (Int×Int))×Int×Int×Int×Int):Prop:=QX a.2.2.1
theorem Q6(a:Int×Int×(List (Int×Int))×Int×Int×Int×Int)(h:Qq a)(n:Nat)(hn:QM≤n):QG n a.1 a.2.1 a.2.2.1 a.2.2.2.1 a.2.2.2.2.1 a.2.2.2.2.2.1 a.2.2.2.2.2.2 a.1 a.2.1 a.2.2.1 a.2.2.2.1 a.2.2.2.2.1 a.2.2.2.2.2.1 a.2.2.2.2.2.2=some true:=by unfold QG;unfold Qq at h;simp[Qu a.2.2.1 h n hn]
theorem Qv(a:Int×Int×(List (Int×Int))×Int×Int×Int×Int)(h:Qq a)(k:Int)(h0:0≤k)(h1:k+2097152≤4611686018427387904)(n:Nat)(hn:QM≤n):∃k' b2,QE n a.1 a.2.1 a.2.2.1 a.2.2.2.1 a.2.2.2.2.1 a.2.2.2.2.2.1 a.2.2.2.2.2.2 k=some (k',(a.1,a.2.1,b2,a.2.2.2.1,a.2.2.2.2.1,a.2.2.2.2.2.1,a.2.2.2.2.2.2))∧k≤k'∧k'≤k+2097152∧Qq (a.1,a.2.1,b2,a.2.2.2.1,a.2.2.2.2.1,a.2.2.2.2.2.1,a.2.2.2.2.2.2)∧P1 n a.1 a.2.1 b2 a.2.2.2.1 a.2.2.2.2.1 a.2.2.2.2.2.1 a.2.2.2.2.2.2 k=some k':=by
 unfold Qq at h;obtain⟨k0,b2,e0,l0,u0,s0,d0⟩:=Qm a.2.2.1 h k (by omega) (by omega) n hn;refine⟨k0,b2,?_,by omega,by omega,s0,?_⟩
 ·unfold QE;simp only[e0,ij]
 ·unfold P1;rw[d0,ij,show decide (k0<0)=false by simp;omega];simp only[im]
theorem R5:P6=Pf:=rfl
theorem P7(a b c:Int):Pf a b c=some (decide (b≤a)&&decide (a≤c)):=by unfold Pf;grind
theorem RT(n:Nat)(a:List (Int×Int)):QB n a=PX n a:=by
 have h:P8 a=PS a:=by
  funext i;unfold P8 PS;rw[R5];cases decide (i<(a.length:Int))with
  |false=>rfl
  |true=>
   cases hg:NJ a i with
   |none=>simp[hg]
   |some x=>simp[hg]
 unfold QB PX;rw[h]
theorem RX{γ:Type}(f:Int→Option (Int⊕γ))(m:Nat)(hs:∀i:Nat,i<m→f (i:Int)=some (.inl ((i+1:Nat):Int))∨∃r,f (i:Int)=some (.inr r))(he:∃r,f (m:Int)=some (.inr r)):∀n,m<n→∃r,iter n f 0=some r:=by
 have key:∀d i n,i+d=m→d<n→∃r,iter n f (i:Int)=some r:=by
  intro d
  induction d with
  |zero=>
   intro i n hi hn;obtain⟨n,rfl⟩:∃k,n=k+1:=⟨n-1,by omega⟩;have:i=m:=by omega
   subst this;obtain⟨r,hr⟩:=he;exact⟨r,Pd hr n⟩
  |succ d ih=>
   intro i n hi hn;obtain⟨n,rfl⟩:∃k,n=k+1:=⟨n-1,by omega⟩;rcases hs i (by omega)with h|⟨r,h⟩
   ·rw[Ps h n];exact ih (i+1) n (by omega) (by omega)
   ·exact⟨r,Pd h n⟩
 intro n hn;exact key m 0 n (by omega) hn
theorem QR(n:Nat)(hn:QM≤n)(a:List (Int×Int))(ha:a.length≤1048576):∃b,PX n a=some b:=by
 obtain⟨r,hr⟩:=RX (PS a) a.length (fun i hi=>by
  unfold PS;rw[show decide ((i:Int)<(a.length:Int))=true by grind,ik,Pr hi,QL hi (by omega)];simp only[ij,P7];by_cases h0:i=0
  ·grind
  ·obtain⟨j,rfl⟩:∃j,i=j+1:=⟨i-1,by omega⟩;have e:QQ (((j+1:Nat):Int)-1)=(j:Int):=by rw[Pl (by omega) (by omega)];omega
   rw[e,Pr (by omega:j<a.length)];grind) (by unfold PS;simp) n (by unfold QM at hn;omega)
 unfold PX;rw[hr];cases r with
 |inl k=>exact⟨_,rfl⟩
 |inr b=>exact⟨_,rfl⟩
theorem RC(n:Nat)(hn:QM≤n)(a:Int×Int×List (Int×Int)×Int×Int×Int×Int)(ha:a.2.2.1.length≤1048576):∃b,Pk n a.1 a.2.1 a.2.2.1 a.2.2.2.1 a.2.2.2.2.1 a.2.2.2.2.2.1 a.2.2.2.2.2.2=some b∧Pv n a.1 a.2.1 a.2.2.1 a.2.2.2.1 a.2.2.2.2.1 a.2.2.2.2.2.1 a.2.2.2.2.2.2=some b:=by
 obtain⟨k,d,l,i,p,s,m⟩:=a;obtain⟨b,hb⟩:=QR n hn l ha;dsimp only;unfold Pk Pv QN Po;simp only[R5,RT,hb,P7,ij];rw[show(((l.length:Int))==0)=decide (l.length=0) by rw[Bool.eq_iff_iff];simp];generalize hi:(i==0)=bi;generalize hp:(p==0)=bp;generalize hs:(s==0)=bs;generalize hm:(m==0)=bm;generalize hd:(d==0)=bd;generalize hl:decide ((l.length:Int)>0)=bl;generalize Uv:decide (l.length=0)=bl0;generalize (decide (0≤d)&&decide (d≤99))=c1;generalize (decide (1≤i)&&decide (i≤999999))=c2;generalize (decide (1≤p)&&decide (p≤999))=c3;generalize (decide (1≤s)&&decide (s≤50))=c4;generalize (decide (1≤m)&&decide (m≤1000))=c5;generalize (decide (1≤m)&&decide (m≤50))=c6;clear hi hp hs hm hd hl Uv hb;cases(k==1)with
 |true=>cases bi<;>cases bp<;>cases bs<;>cases bm<;>cases b<;>cases bl<;>cases c1<;>cases bd<;>cases bl0<;>exact⟨_,rfl,rfl⟩
 |false=>
  cases(k==2)with
  |true=>cases bd<;>cases bl0<;>cases bp<;>cases bs<;>cases bm<;>cases c2<;>exact⟨_,rfl,rfl⟩
  |false=>
   cases(k==3)with
   |true=>cases bd<;>cases bl0<;>cases bi<;>cases c3<;>cases c4<;>cases c5<;>exact⟨_,rfl,rfl⟩
   |false=>
    cases(k==4)with
    |true=>cases bd<;>cases bl0<;>cases bi<;>cases bp<;>cases bs<;>cases c6<;>exact⟨_,rfl,rfl⟩
    |false=>exact⟨_,rfl,by cases bd<;>rfl⟩
def QH(c:UInt8):List UInt8→List (List UInt8)
 | []=>[[]]
 |x::r=>bif x==c then []::QH c r else match QH c r with
  | []=>[[x]]
  |p::ps=>(x::p)::ps
theorem Qp(c:UInt8):∀s,QH c s≠[]
 | []=>by simp[QH]
 |x::r=>by
  unfold QH;cases x==c with
  |true=>simp
  |false=>
   rw[im];cases QH c r<;>simp
theorem QP{c:UInt8}:∀ {s:List UInt8},c∉s→QH c s=[s]
 | [],_=>rfl
 |x::r,h=>by
  have h1:(x==c)=false:=by rw[il];intro e;exact h (by rw[e];exact gi)
  unfold QH;rw[h1,im,QP fun hh=>h (gO _ hh)]
theorem Qn{c:UInt8}:∀ {a b:List UInt8},c∉a→QH c (a++c::b)=a::QH c b
 | [],b,_=>by simp[QH]
 |x::a,b,h=>by
  have h1:(x==c)=false:=by rw[il];intro e;exact h (by rw[e];exact gi)
  rw[iK];show(bif x==c then _ else _)=_;rw[h1,im,Qn fun hh=>h (gO _ hh)]
theorem index_none{c:UInt8}{s:List UInt8}(h:Go.Lib.index s [c] = -1):c∉s:=by rw[Go.Lib.index_one]at h;intro hm;obtain⟨k,hk⟩:=hM hm;exact Go.Lib.indexByte_none h k hk
theorem index_hit{c:UInt8}{s:List UInt8}{o:Nat}(h:Go.Lib.index s [c]=(o:Int)):s=s.take o++c::s.drop (o+1)∧c∉s.take o:=by
 rw[Go.Lib.index_one]at h;obtain⟨h1,h2⟩:=Go.Lib.indexByte_some h;have Tc:=(gM.1 h1).1;have hg:s[o]=c:=(gM.1 h1).2;refine⟨?_,fun hm=>?_⟩
 ·conv=>lhs;rw[←List.take_append_drop o s]
  rw[iy Tc,hg]
 ·obtain⟨k,hk⟩:=hM hm;rw[List.getElem?_take]at hk;split at hk
  ·exact h2 k (by assumption) hk
  ·cases hk
theorem QU(c:UInt8)(s:List UInt8):Go.Lib.index s [c] = -1∨∃o:Nat,Go.Lib.index s [c]=(o:Int):=by
 have:=Go.Lib.indexByte_ge s c;rw[←Go.Lib.index_one]at this;rcases Int.lt_or_le (Go.Lib.index s [c]) 0 with h|h
 ·exact .inl (by omega)
 ·exact .inr ⟨(Go.Lib.index s [c]).toNat,by omega⟩
theorem Q3(c:UInt8):∀(k:Nat)(s:List UInt8),s.count c≤k→Go.Lib.splitK [c] 0 k s=QH c s
 |0,s,h=>by
  have:c∉s:=fun hm=>by have:=List.count_pos_iff.2 hm;omega
  rw[QP this];rfl
 |k+1,s,h=>by
  unfold Go.Lib.splitK;rcases QU c s with e|⟨o,e⟩
  ·rw[e,QP (index_none e)];rfl
  ·obtain⟨h1,h2⟩:=index_hit e;have Tf:¬((Go.Lib.index s [c] == -1)=true):=by rw[e,gV];omega
   rw[gT Tf,e,ir,iA,iq]
   have XK:s.count c=(s.take o).count c+(1+(s.drop (o+1)).count c):=by
    conv=>lhs;rw[h1]
    rw[List.count_append,List.count_cons_self];omega
   rw[Q3 c k (s.drop (o+1)) (by omega)]
   conv=>rhs;rw[h1,Qn h2]
theorem Ro(s:List UInt8)(c:UInt8):Go.Lib.split s [c]=QH c s:=by unfold Go.Lib.split;rw[Go.Lib.count_one];exact Q3 c _ s (gk _)
theorem Rv{c:UInt8}{s:List UInt8}(h:c∉s):Go.Lib.cut s [c]=(s,[],false):=by
 unfold Go.Lib.cut;rcases QU c s with e|⟨o,e⟩
 ·rw[e];rfl
 ·have:=index_hit e;exact(h (by rw[this.1];simp)).elim
theorem Rb{c:UInt8}{a b:List UInt8}(h:c∉a):Go.Lib.cut (a++c::b) [c]=(a,b,true):=by
 unfold Go.Lib.cut;rcases QU c (a++c::b)with e|⟨o,e⟩
 ·exact(index_none e (by simp)).elim
 ·obtain⟨h1,h2⟩:=index_hit e
  have ho:o=a.length:=by
   have g1:(a++c::b)[o]?=some c:=by rw[Go.Lib.index_one]at e;exact(Go.Lib.indexByte_some e).1
   rcases Nat.lt_trichotomy o a.length with q|q|q
   ·rw[iQ q]at g1;exact(h (gP g1)).elim
   ·exact q
   ·refine(h2 (gP (i:=a.length) ?_)).elim;rw[List.getElem?_take,gS q];simp
  subst ho;rw[e,gS (by omega),ir,iq];simp
theorem Qg{s:List UInt8}{a i:Nat}:sub s a i=(s.take i).drop a:=by unfold sub;rw[List.drop_take]
theorem Qt(s:List UInt8)(c:UInt8)(hl:s.length≤1048576)(n:Nat)(hn:QM≤n):P5 n s (c.toNat:Int)=some (QH c s):=by
 have key:∀(d i from_:Nat) (out:List (List UInt8)) (m:Nat),i+d=s.length→from_≤i→out.length≤from_→c∉(s.take i).drop from_→d+2≤m→
   Go.Ev.iter m (PZ s (c.toNat:Int)) (out,(from_:Int),(i:Int))=some (out++QH c (s.drop from_),((s.length+1:Nat):Int),((s.length+1:Nat):Int)):=by
  intro d
  induction d with
  |zero=>
   intro i from_ out m hi hf ho Wj hm;obtain⟨m,rfl⟩:∃k,m=k+2:=⟨m-2,by omega⟩;have hi:i=s.length:=hi;subst hi;rw[jB]at Wj
   have e1:PZ s (c.toNat:Int) (out,(from_:Int),((s.length:Nat):Int))=some (.inl (out++[s.drop from_],((s.length+1:Nat):Int),((s.length+1:Nat):Int))):=by
    unfold PZ;dsimp only
    rw[show decide (((s.length:Nat):Int)≤(s.length:Int))=true by simp,ik,ix,ik,ij,ik,
     show(decide ((0:Int)≤(from_:Int))&&decide ((from_:Int)≤((s.length:Nat):Int))&&true)=true by simp;omega,ik,Pl (n:=((s.length:Nat):Int)+1) (by omega) (by omega)]
    have UO:sub s ((from_:Int).toNat) (((s.length:Nat):Int).toNat)=s.drop from_:=by rw[ir,ir,Qg,jB]
    rw[UO,show decide (out.length+[s.drop from_].length≤Dc)=true by rw[gm,iq];unfold Dc;omega];rfl
   have e2:PZ s (c.toNat:Int) (out++[s.drop from_],((s.length+1:Nat):Int),((s.length+1:Nat):Int))=some (.inr (out++[s.drop from_],((s.length+1:Nat):Int),((s.length+1:Nat):Int))):=by unfold PZ;dsimp only;rw[show decide (((s.length+1:Nat):Int)≤(s.length:Int))=false by rw[gv];omega];rfl
   rw[Ps e1,Pd e2,QP Wj]
  |succ d ih=>
   intro i from_ out m hi hf ho Wj hm;obtain⟨m,rfl⟩:∃k,m=k+1:=⟨m-1,by omega⟩;have Tc:i<s.length:=by omega
   have fk:s.take (i+1)=s.take i++[s[i]]:=by rw[jA,gK Tc];rfl
   have dB:from_≤(s.take i).length:=by rw[List.length_take];omega
   have fw:(decide ((0:Int)≤(from_:Int))&&decide ((from_:Int)≤(i:Int))&&true)=true:=by simp;omega
   by_cases hx:s[i]=c
   ·have e1:PZ s (c.toNat:Int) (out,(from_:Int),(i:Int))=some (.inl (out++[(s.take i).drop from_],((i+1:Nat):Int),((i+1:Nat):Int))):=by
     unfold PZ;dsimp only
     rw[show decide ((i:Int)≤(s.length:Int))=true by simp;omega,ik,show((i:Int)==(s.length:Int))=false by rw[il];omega,im,Pr Tc,ij,hx,ix,ij,ik,fw,ik,ir,ir,Qg,
      show decide (out.length+[(s.take i).drop from_].length≤Dc)=true by rw[gm,iq];unfold Dc;omega,Pl (n:=(i:Int)+1) (by omega) (by omega)]
     rfl
    rw[Ps e1,ih (i+1) (i+1) _ m (by omega) (gk _) (by rw[iD,iq];omega) (by rw[List.drop_eq_nil_of_le (by rw[List.length_take];omega)];simp) (by omega)]
    have dL:s.drop from_=(s.take i).drop from_++c::s.drop (i+1):=by
     conv=>lhs;rw[←List.take_append_drop i s]
     rw[List.drop_append_of_le_length dB,iy Tc,hx]
    rw[dL,Qn Wj,List.append_assoc];rfl
   ·have e1:PZ s (c.toNat:Int) (out,(from_:Int),(i:Int))=some (.inl (out,(from_:Int),((i+1:Nat):Int))):=by
     unfold PZ;dsimp only
     rw[show decide ((i:Int)≤(s.length:Int))=true by simp;omega,ik,show((i:Int)==(s.length:Int))=false by rw[il];omega,im,Pr Tc,ij,
      show(((s[i].toNat:Nat):Int)==(c.toNat:Int))=false by rw[il];intro e;exact hx (UInt8.toNat_inj.1 (by omega)),Pl (n:=(i:Int)+1) (by omega) (by omega)]
     rfl
    rw[Ps e1];refine ih (i+1) from_ out m (by omega) (by omega) ho ?_ (by omega);rw[fk,List.drop_append_of_le_length dB];intro hm;rcases iX.1 hm with hm|hm
    ·exact Wj hm
    ·exact hx (hJ.1 hm).symm
 have h0:=key s.length 0 0 [] n (by omega) (gk _) (gk _) (by simp) (by unfold QM at hn;omega);unfold P5;rw[show((0:Nat):Int)=0 from rfl]at h0;rw[h0];rfl
theorem RH(u:Nat)(h:u<10):bytesOf [(IntKind.wrap .u8 (QQ (48+(u:Int))))]=[UInt8.ofNat (48+u)]:=by
 rw[Pl (by omega) (by omega)]
 have:IntKind.wrap .u8 (48+(u:Int))=48+(u:Int):=by unfold IntKind.wrap;simp only[IntKind.bits,IntKind.signed];simp;omega
 rw[this];unfold bytesOf;simp only[iR,List.map_nil,List.cons.injEq,and_true];congr 1
theorem Q0(u:Nat)(h:u≤9223372036854775807):(Go.Lib.decDigits u).length≤21:=by have:=Go.Lib.itoa_length_le (u:Int) (by omega) (by omega);rwa[Go.Lib.itoa_nonneg]at this
theorem R0:∀(u n:Nat),u<n→u≤9223372036854775807→PW n (u:Int)=some (Go.Lib.decDigits u):=by
 intro u
 induction u using Nat.strongRecOn with
 |_ u ih=>
  intro n hn hu;obtain⟨m,rfl⟩:∃m,n=m+1:=⟨n-1,by omega⟩;show(bif(decide ((u:Int)<0))then _ else bif(decide ((u:Int)<10))then _ else _)=_;rw[show decide ((u:Int)<0)=false by simp,im];by_cases h:u<10
  ·rw[show decide ((u:Int)<10)=true by simp;omega,ik,RH u h,Go.Lib.decDigits,dif_pos h]
  ·rw[show decide ((u:Int)<10)=false by simp;omega,im];have e1:Int.tdiv (u:Int) 10=((u / 10:Nat):Int):=by rw[Int.tdiv_eq_ediv_of_nonneg (by omega)];omega
   have e2:Int.tmod (u:Int) 10=((u%10:Nat):Int):=by rw[Int.tmod_eq_emod_of_nonneg (by omega)];omega
   rw[e1,e2,Pl (by omega) (by omega),ih (u / 10) (by omega) m (by omega) (by omega),RH (u%10) (by omega)];simp only[ij,iU,List.length_nil];have:=Q0 (u / 10) (by omega);rw[show decide ((Go.Lib.decDigits (u / 10)).length+(0+1)≤4611686018427387904)=true by simp;omega,ik]
   conv=>rhs;rw[Go.Lib.decDigits,dif_neg h]
def tx(x:Int):List UInt8:=Go.Lib.decDigits x.toNat
theorem QA(x:Int)(h0:0≤x)(h:x≤9223372036854775807):(tx x).length≤21:=Q0 _ (by omega)
theorem QK(x:Int)(h0:0≤x)(h:x≤9223372036854775807)(n:Nat)(hn:QM≤n):PW n x=some (tx x):=by
 obtain⟨u,rfl⟩:∃u:Nat,x=u:=⟨x.toNat,by omega⟩;exact R0 u n (by unfold QM at hn;omega) (by omega)
theorem SH(x:Int)(h0:0≤x)(h:x≤9223372036854775807):Kq x=some (tx x):=by unfold Kq;rw[show(decide (-9223372036854775808≤x)&&decide (x≤9223372036854775807))=true by simp;omega,ik];obtain⟨u,rfl⟩:∃u:Nat,x=u:=⟨x.toNat,by omega⟩;rw[Go.Lib.itoa_nonneg];rfl
theorem P9{a b:Nat}(h:a+b≤1000000000):decide (a+b≤4611686018427387904)=true:=by simp;omega
def Pq(x:Int×Int):List UInt8:=32::(tx x.1++58::tx x.2)
def P0(x:Int×Int):Prop:=1≤x.1∧x.1≤50∧1≤x.2∧x.2≤1000
theorem Q1(n:Nat)(hn:QM≤n)(a:List (Int×Int))(ha:a.length≤1048576)(h:PX n a=some true):(∀x∈a,P0 x):=by
 have key:∀P:Nat→Bool,(∀i:Nat,i<a.length→PS a (i:Int)=some (bif P i then .inl ((i+1:Nat):Int)else .inr (.inr false)))→∀i,i<a.length→P i=true:=by
  intro P hP i hi
  have hl:=Ru (PS a) (List.range a.length) P (fun i x h1 h2=>by
   have hx:x=i:=by rw[List.getElem?_range (by simpa using h1)]at h2;exact(Option.some.inj h2).symm
   subst hx;exact hP _ (by simpa using h1)) (by unfold PS;simp) n (by unfold QM at hn;simp;omega)
  unfold PX at h;rw[hl]at h;cases UN:(List.range a.length).all P with
  |false=>rw[UN]at h;simp at h
  |true=>exact gY.1 UN i (by simpa using hi)
 intro x hx;obtain⟨i,hi,rfl⟩:=List.getElem_of_mem hx
 have:=key (fun i=>match a[i]? with
  |some x=>(decide (1≤x.1)&&decide (x.1≤50))&&(decide (1≤x.2)&&decide (x.2≤1000))&&(match i with
   |0=>true
   |j+1=>match a[j]? with
    |some y => !decide (y.1≥x.1)
    |none=>true)
  |none=>true) (fun i hi=>by
  unfold PS;rw[show decide ((i:Int)<(a.length:Int))=true by simp only[gm];omega,ik,Pr hi,QL hi (by omega),gK hi];simp only[ij,P7];by_cases h0:i=0
  ·subst h0;simp;cases decide (1≤(a[0]).1)<;>cases decide ((a[0]).1≤50)<;>cases decide (1≤(a[0]).2)<;>cases decide ((a[0]).2≤1000)<;>simp
  ·obtain⟨j,rfl⟩:∃j,i=j+1:=⟨i-1,by omega⟩;have e:QQ (((j+1:Nat):Int)-1)=(j:Int):=by rw[Pl (by omega) (by omega)];omega
   rw[e,Pr (by omega:j<a.length)];simp only[ij];rw[gK (by omega:j<a.length)];dsimp only;have e2:decide (((j+1:Nat):Int)>0)=true:=by simp only[gm];omega
   rw[e2];generalize (decide (1≤(a[j+1]).1)&&decide ((a[j+1]).1≤50))=b1;generalize (decide (1≤(a[j+1]).2)&&decide ((a[j+1]).2≤1000))=b2;generalize decide ((a[j]).1≥(a[j+1]).1)=b3;cases b1<;>cases b2<;>cases b3<;>simp) i hi
 rw[gK hi]at this;simp only[gL,gm]at this;exact⟨this.1.1.1,this.1.1.2,this.1.2.1,this.1.2.2⟩
theorem Qk(x:Int×Int)(h:P0 x):(Pq x).length≤50:=by obtain⟨h1,h2,h3,h4⟩:=h;have:=QA x.1 (by omega) (by omega);have:=QA x.2 (by omega) (by omega);unfold Pq;simp;omega
theorem RU(L:List UInt8×Int→Option ((List UInt8×Int)⊕(List UInt8×Int)))(a:List (Int×Int))(ha:a.length≤1048576)
  (hL:∀(i:Nat)(h:i<a.length)(s:List UInt8),s.length≤100+50*i→L (s,(i:Int))=some (.inl (s++Pq a[i],((i+1:Nat):Int)))) (TW:∀x∈a,P0 x) (fA:∀s,L (s,(a.length:Int))=some (.inr (s,(a.length:Int)))) (n:Nat) (hn:QM≤n) (s:List UInt8) (hs:s.length≤100):
  iter n L (s,0)=some (s++a.flatMap Pq,(a.length:Int)):=by
 have:=QO (σ:=List UInt8) L (fun i s=>(s,(i:Int))) a (fun l s=>(s++l.flatMap Pq,(a.length:Int))) (fun i s=>s.length≤100+50*i)
  (fun s hs=>by rw[fA s];simp) (fun i x l s h1 h2 h3 h4 h5=>by
   left;have hx:a[i]=x:=by rw[gK h1]at h2;exact Option.some.inj h2
   refine⟨s++Pq a[i],hL i h1 s h5,?_,?_⟩
   ·have:=Qk a[i] (TW _ (iu h1));rw[iD];omega
   ·rw[hx];simp) n (by unfold QM at hn;omega) s (by simpa using hs)
 simpa using this
theorem Rh:∀(a:List (Int×Int)),(∀x∈a,P0 x)→(a.flatMap Pq).length≤50*a.length
 | [],_=>by simp
 |x::a,h=>by have h1:=Qk x (h x gi);have h2:=Rh a (fun y hy=>h y (gO _ hy));rw[gx,iD,iU];omega
theorem Rt(n:Nat)(k d:Int)(l:List (Int×Int))(i p s m:Int)(h:Pk n k d l i p s m=some true)(hb:∃b,PX n l=some b):
  (k==1)=true∧(0≤d∧d≤99)∧PX n l=some true∨(k==1)=false∧(k==2)=true∧(1≤i∧i≤999999) ∨
  (k==1)=false∧(k==2)=false∧(k==3)=true∧(1≤p∧p≤999)∧(1≤s∧s≤50)∧(1≤m∧m≤1000)∨(k==1)=false∧(k==2)=false∧(k==3)=false∧(1≤m∧m≤50):=by
 obtain⟨b,hb⟩:=hb;unfold Pk Po at h;simp only[hb,P7,ij]at h;rw[hb];have two:∀ {x y z:Int},(decide (x≤y)&&decide (y≤z))=true→x≤y∧y≤z:=fun h=>by simpa using h
 generalize hi:(i==0)=bi at h;generalize hp:(p==0)=bp at h;generalize hs:(s==0)=bs at h;generalize hm:(m==0)=bm at h;generalize hd:(d==0)=bd at h;generalize hl:decide ((l.length:Int)>0)=bl at h;generalize Uv:((l.length:Int)==0)=bl0 at h;generalize g1:(decide (0≤d)&&decide (d≤99))=c1 at h;generalize g2:(decide (1≤i)&&decide (i≤999999))=c2 at h;generalize g3:(decide (1≤p)&&decide (p≤999))=c3 at h;generalize g4:(decide (1≤s)&&decide (s≤50))=c4 at h;generalize g5:(decide (1≤m)&&decide (m≤1000))=c5 at h;generalize g6:(decide (1≤m)&&decide (m≤50))=c6 at h;cases h1:(k==1)with
 |true=>
  rw[h1]at h;left
  have:b=true∧c1=true:=by
   clear g1 g2 g3 g4 g5 g6 hi hp hs hm hd hl Uv hb h1
   revert h
   cases bi<;>cases bp<;>cases bs<;>cases bm<;>cases b<;>cases bl<;>cases c1<;>intro h<;>first|exact⟨rfl,rfl⟩|(cases h)
  rw[this.2]at g1;exact⟨rfl,two g1,by rw[this.1]⟩
 |false=>
  rw[h1]at h;right;cases h2:(k==2)with
  |true=>
   rw[h2]at h;left
   have:c2=true:=by
    clear g1 g2 g3 g4 g5 g6 hi hp hs hm hd hl Uv hb h1 h2
    revert h
    cases bd<;>cases bl0<;>cases bp<;>cases bs<;>cases bm<;>cases c2<;>intro h<;>first|rfl|(cases h)
   rw[this]at g2;exact⟨rfl,rfl,two g2⟩
  |false=>
   rw[h2]at h;right;cases h3:(k==3)with
   |true=>
    rw[h3]at h;left
    have:c3=true∧c4=true∧c5=true:=by
     clear g1 g2 g3 g4 g5 g6 hi hp hs hm hd hl Uv hb h1 h2 h3
     revert h
     cases bd<;>cases bl0<;>cases bi<;>cases c3<;>cases c4<;>cases c5<;>intro h<;>first|exact⟨rfl,rfl,rfl⟩|(cases h)
    rw[this.1]at g3;rw[this.2.1]at g4;rw[this.2.2]at g5;exact⟨rfl,rfl,rfl,two g3,two g4,two g5⟩
   |false=>
    rw[h3]at h;right
    have:c6=true:=by
     clear g1 g2 g3 g4 g5 g6 hi hp hs hm hd hl Uv hb h1 h2 h3
     revert h
     cases(k==4)<;>cases bd<;>cases bl0<;>cases bi<;>cases bp<;>cases bs<;>cases c6<;>intro h<;>first|rfl|(cases h)
    rw[this]at g6;exact⟨rfl,rfl,rfl,two g6⟩
theorem Qr:∀(l r:List UInt8)(acc:Nat),Go.Lib.decFrom acc (l++r)=(Go.Lib.decFrom acc l).bind fun a=>Go.Lib.decFrom a r
 | [],r,acc=>rfl
 |b::l,r,acc=>by
  rw[iK,Go.Lib.decFrom,Go.Lib.decFrom];cases Go.Lib.digitVal b with
  |none=>rfl
  |some d=>exact Qr l r _
theorem QZ:∀u:Fin 10,Go.Lib.digitVal (UInt8.ofNat (48+u.1))=some u.1∧(UInt8.ofNat (48+u.1)).toNat=48+u.1:=by decide
theorem Qs(u:Nat):Go.Lib.decFrom 0 (Go.Lib.decDigits u)=some u:=by
 induction u using Nat.strongRecOn with
 |_ u ih=>
  rw[Go.Lib.decDigits];by_cases h:u<10
  ·rw[dif_pos h];unfold Go.Lib.decFrom;rw[(QZ ⟨u,h⟩).1];simp[Go.Lib.decFrom]
  ·rw[dif_neg h,Qr,ih (u / 10) (by omega),ij];unfold Go.Lib.decFrom;rw[(QZ ⟨u%10,Nat.mod_lt _ (by omega)⟩).1];simp only[Go.Lib.decFrom,Option.some.injEq];omega
theorem RG(u:Nat):∃b r,Go.Lib.decDigits u=b::r∧48≤b.toNat∧b.toNat≤57∧(1≤u→b.toNat≠48)∧(u=0→r=[]):=by
 induction u using Nat.strongRecOn with
 |_ u ih=>
  rw[Go.Lib.decDigits];by_cases h:u<10
  ·rw[dif_pos h];have:(UInt8.ofNat (48+u)).toNat=48+u:=(QZ ⟨u,h⟩).2;exact⟨_,[],rfl,by omega,by omega,fun h1=>by omega,fun _=>rfl⟩
  ·rw[dif_neg h];obtain⟨b,r,e,h1,h2,h3,_⟩:=ih (u / 10) (by omega);rw[e];exact⟨b,_,rfl,h1,h2,fun _=>h3 (by omega),fun h0=>by omega⟩
theorem Qw:∀(k u:Nat),u<10 ^ (k+1)→(Go.Lib.decDigits u).length≤k+1
 |0,u,h=>by rw[Go.Lib.decDigits,dif_pos (by simpa using h)];simp
 |k+1,u,h=>by
  rw[Go.Lib.decDigits];by_cases h1:u<10
  ·rw[dif_pos h1];simp
  ·rw[dif_neg h1,iD,iq];have:=Qw k (u / 10) (by rw[Nat.pow_succ]at h;omega);omega
theorem Qz:∀(l:List UInt8)(acc u:Nat),Go.Lib.decFrom acc l=some u→acc≤u
 | [],acc,u,h=>by
  have:acc=u:=by simpa[Go.Lib.decFrom]using h
  omega
 |b::l,acc,u,h=>by
  unfold Go.Lib.decFrom at h;cases hd:Go.Lib.digitVal b with
  |none=>rw[hd]at h;cases h
  |some d=>
   rw[hd]at h;have:=Qz l _ _ h;omega
theorem RA{b:UInt8}{d:Nat}(h:Go.Lib.digitVal b=some d):b.toNat=48+d∧d<10:=by unfold Go.Lib.digitVal at h;grind
theorem QT(v:Int)(h0:0≤v)(h1:v≤999999):Lb (tx v)=(v,true):=by
 obtain⟨u,rfl⟩:∃u:Nat,v=(u:Int):=⟨v.toNat,by omega⟩;have hl:(Go.Lib.decDigits u).length≤6:=Qw 5 u (by omega);have ht:tx (u:Int)=Go.Lib.decDigits u:=rfl;obtain⟨b,r,e,b1,b2,_⟩:=RG u
 have ha:Go.Lib.atoi (Go.Lib.decDigits u)=some (u:Int):=by
  have hd:=Qs u;rw[e]at hd ⊢;unfold Go.Lib.atoi;have n45:¬((b==45)=true):=fun h=>by have:=gV.1 h;subst this;simp at b1
  have n43:¬((b==43)=true):=fun h=>by have:=gV.1 h;subst this;simp at b1
  dsimp only;rw[gT n45,gT n43];unfold Go.Lib.decNat;rw[gT (by simp),hd];rfl
 unfold Lb;rw[ht,Go.Lib.atoiAll_short _ (by omega),ha];show(if(u:Int)<0∨6<(Go.Lib.decDigits u).length∨Go.Lib.itoa (u:Int)≠Go.Lib.decDigits u then((0:Int),false)else((u:Int),true))=_;rw[gT]
 rintro (h|h|h)
 ·omega
 ·omega
 ·exact h (Go.Lib.itoa_nonneg u)
theorem Qx{s:List UInt8}{v:Int}(h:Lb s=(v,true)):0≤v∧s.length≤6∧s=tx v:=by
 unfold Lb at h;split at h
 ·rename_i w hw;split at h
  ·cases h
  ·rename_i hn;injection h with h _
   subst h;refine⟨by omega,by omega,?_⟩;have he:Go.Lib.itoa w=s:=gz fun q=>hn (.inr (.inr q));rw[←he];obtain⟨u,rfl⟩:∃u:Nat,w=(u:Int):=⟨w.toNat,by omega⟩;exact Go.Lib.itoa_nonneg u
 ·cases h
theorem RN(s:List UInt8)(hs:s.length≤1048576):∀(l:List UInt8)(i acc u m:Nat),s.drop i=l→i+l.length=s.length→Go.Lib.decFrom acc l=some u→u≤1000000000→l.length+1≤m→Go.Ev.iter m (PV s) ((acc:Int),(i:Int))=some (.inl ((u:Int),(s.length:Int)))
 | [],i,acc,u,m,h1,h2,h3,h4,h5=>by
  obtain⟨m,rfl⟩:∃k,m=k+1:=⟨m-1,by simp at h5;omega⟩;have hi:i=s.length:=by simpa using h2
  subst hi;have hu:acc=u:=by simpa[Go.Lib.decFrom]using h3
  subst hu;refine Pd ?_ m;unfold PV;dsimp only;rw[show decide (((s.length:Nat):Int)<(s.length:Int))=false by simp];rfl
 |b::l,i,acc,u,m,h1,h2,h3,h4,h5=>by
  rw[iU]at h2 h5;obtain⟨m,rfl⟩:∃k,m=k+1:=⟨m-1,by omega⟩;have Tc:i<s.length:=by omega
  have hd:=iy Tc;rw[h1]at hd;injection hd with hb hl
  rw[Go.Lib.decFrom]at h3;cases hv:Go.Lib.digitVal b with
  |none=>rw[hv]at h3;cases h3
  |some d=>
   rw[hv]at h3;obtain⟨n1,n2⟩:=RA hv;have US:=Qz l _ _ h3
   have hw:IntKind.wrap .u8 ((b.toNat:Int)-48)=(d:Int):=by rw[n1];unfold IntKind.wrap;simp only[IntKind.bits,IntKind.signed];simp;omega
   have e1:PV s ((acc:Int),(i:Int))=some (.inl (((acc*10+d:Nat):Int),((i+1:Nat):Int))):=by
    unfold PV;dsimp only
    rw[show decide ((i:Int)<(s.length:Int))=true by simp;omega,ik,Pr Tc,←hb,ij,P7,ij,Pl (n:=(b.toNat:Int)) (by omega) (by omega),
     show(decide ((48:Int)≤(b.toNat:Int))&&decide ((b.toNat:Int)≤57))=true by simp;omega,iz,im,ij,hw,Pl (n:=(acc:Int)*10) (by omega) (by omega),Pl (n:=(d:Int)) (by omega) (by omega),Pl (n:=(acc:Int)*10+(d:Int)) (by omega) (by omega),Pl (n:=(i:Int)+1) (by omega) (by omega)]
    rfl
   rw[Ps e1];exact RN s hs l (i+1) (acc*10+d) u m hl.symm (by omega) h3 h4 (by omega)
theorem QS(v:Int)(h0:0≤v)(h1:v≤999999)(n:Nat)(hn:QM≤n):PY n (tx v)=some v:=by
 obtain⟨u,rfl⟩:∃u:Nat,v=(u:Int):=⟨v.toNat,by omega⟩;have hl:(Go.Lib.decDigits u).length≤6:=Qw 5 u (by omega);have ht:tx (u:Int)=Go.Lib.decDigits u:=rfl;obtain⟨b,r,e,b1,b2,b3,b4⟩:=RG u;have WC:1≤(Go.Lib.decDigits u).length:=by rw[e];simp
 have fN:=RN (Go.Lib.decDigits u) (by omega) (Go.Lib.decDigits u) 0 0 u n rfl (by omega) (Qs u) (by omega) (by unfold QM at hn;omega);rw[show((0:Nat):Int)=0 from rfl]at fN;unfold PY;rw[ht,P7,ij,show(decide ((1:Int)≤((Go.Lib.decDigits u).length:Int))&&decide (((Go.Lib.decDigits u).length:Int)≤6))=true by simp;omega,iz,im]
 have hz:(bif decide (((Go.Lib.decDigits u).length:Int)>1)then(NJ (Go.Lib.decDigits u) 0).bind fun x2=>some (((x2.toNat:Int))==48)else some false)=some false:=by
  by_cases h2:((Go.Lib.decDigits u).length:Int)>1
  ·have hu:1≤u:=by
    rcases Nat.eq_zero_or_pos u with q|q
    ·rw[e,b4 q]at h2;simp at h2
    ·exact q
   have hg:NJ (Go.Lib.decDigits u) 0=some b:=by rw[e];rfl
   rw[decide_eq_true h2,ik,hg,ij];have:=b3 hu;rw[show(((b.toNat:Nat):Int)==48)=false by rw[il];omega]
  ·rw[decide_eq_false h2];rfl
 rw[hz,ij,im,fN,ij]
def Pe(c:UInt8):List (List UInt8)→List UInt8
 | []=>[]
 | [p]=>p
 |p::q::r=>p++c::Pe c (q::r)
theorem Q2{c:UInt8}:∀ {ps:List (List UInt8)},(∀p∈ps,c∉p)→ps≠[]→QH c (Pe c ps)=ps
 | [],_,h=>(h rfl).elim
 | [p],h,_=>QP (h p gi)
 |p::q::r,h,_=>by show QH c (p++c::Pe c (q::r))=_;rw[Qn (h p gi),Q2 (fun x hx=>h x (gO _ hx)) (by simp)]
theorem join_cons(c:UInt8)(p:List UInt8){ps:List (List UInt8)}(h:ps≠[]):Pe c (p::ps)=p++c::Pe c ps:=by
 cases ps with
 |nil=>exact(h rfl).elim
 |cons q r=>rfl
theorem Ql(c:UInt8):∀s:List UInt8,Pe c (QH c s)=s
 | []=>rfl
 |x::r=>by
  have ih:=Ql c r;have Tf:=Qp c r;unfold QH;cases hx:x==c with
  |true=>
   rw[ik,join_cons c [] Tf,ih];have:=gV.1 hx;subst this;rfl
  |false=>
   rw[im];cases hp:QH c r with
   |nil=>exact(Tf hp).elim
   |cons p ps=>
    rw[hp]at ih;cases ps with
    |nil=>
     have ih:p=r:=ih;rw[ih];rfl
    |cons q qs=>
     show(x::p)++c::Pe c (q::qs)=_;have ih:p++c::Pe c (q::qs)=r:=ih;rw[iK,ih]
theorem QW{c:UInt8}:∀ {s:List UInt8},∀p∈QH c s,c∉p
 | [],p,h=>by
  have:p=[]:=by simpa[QH]using h
  rw[this];simp
 |x::r,p,h=>by
  unfold QH at h;cases hx:x==c with
  |true=>
   rw[hx,ik]at h;rcases gj.1 h with rfl|h
   ·simp
   ·exact QW p h
  |false=>
   rw[hx,im]at h;have fy:x≠c:=by rw[il]at hx;exact hx
   cases hp:QH c r with
   |nil=>exact(Qp c r hp).elim
   |cons q qs=>
    rw[hp]at h;rcases gj.1 h with rfl|h
    ·have:=QW (c:=c) (s:=r) q (by rw[hp];exact gi);intro hm;rcases gj.1 hm with e|hm
     ·exact fy e.symm
     ·exact this hm
    ·exact QW (c:=c) (s:=r) p (by rw[hp];exact gO _ h)
theorem Rw(c:UInt8)(hc:c.toNat<48∨57<c.toNat)(u:Nat):c∉Go.Lib.decDigits u:=by
 induction u using Nat.strongRecOn with
 |_ u ih=>
  rw[Go.Lib.decDigits]
  have one:∀d:Nat,d<10→c∉[UInt8.ofNat (48+d)]:=fun d hd hm=>by have h1:c=UInt8.ofNat (48+d):=hJ.1 hm;have h2:(UInt8.ofNat (48+d)).toNat=48+d:=(QZ ⟨d,hd⟩).2;rw[h1,h2]at hc;omega
  by_cases h:u<10
  ·rw[dif_pos h];exact one u h
  ·rw[dif_neg h];intro hm;rcases iX.1 hm with hm|hm
   ·exact ih (u / 10) (by omega) hm
   ·exact one (u%10) (Nat.mod_lt _ (by omega)) hm
theorem Qf(c:UInt8)(hc:c.toNat<48∨57<c.toNat)(v:Int):c∉tx v:=Rw c hc _
def PU(x:Int×Int):List UInt8:=tx x.1++58::tx x.2
theorem Q5(x:Int×Int):(32:UInt8)∉PU x:=by
 unfold PU;intro hm;rcases iX.1 hm with hm|hm
 ·exact Qf 32 (by decide) _ hm
 ·rcases gj.1 hm with e|hm
  ·cases e
  ·exact Qf 32 (by decide) _ hm
theorem QC(x:Int×Int):QH 58 (PU x)=[tx x.1,tx x.2]:=by unfold PU;rw[Qn (Qf 58 (by decide) _),QP (Qf 58 (by decide) _)]
def Pg(a:Int×Int×List (Int×Int)×Int×Int×Int×Int):List (List UInt8):=
 if a.1=1 then [111,114,100,101,114]::tx a.2.1::a.2.2.1.map PU
 else if a.1=2 then [[98,97,99,107],tx a.2.2.2.1]
 else if a.1=3 then [[112,117,116],tx a.2.2.2.2.1,tx a.2.2.2.2.2.1,tx a.2.2.2.2.2.2]
 else [[116,105,99,107],tx a.2.2.2.2.2.2]
theorem RZ(a:Int×Int×List (Int×Int)×Int×Int×Int×Int):∀p∈Pg a,(32:UInt8)∉p:=by
 have t:=Qf 32 (by decide);intro p hp;unfold Pg at hp;split at hp
 ·rcases gj.1 hp with rfl|hp
  ·decide
  rcases gj.1 hp with rfl|hp
  ·exact t _
  ·obtain⟨x,_,rfl⟩:=hR.1 hp;exact Q5 x
 ·split at hp
  ·rcases gj.1 hp with rfl|hp
   ·decide
   ·rw[hJ.1 hp];exact t _
  ·split at hp
   ·rcases gj.1 hp with rfl|hp
    ·decide
    rcases gj.1 hp with rfl|hp
    ·exact t _
    rcases gj.1 hp with rfl|hp
    ·exact t _
    ·rw[hJ.1 hp];exact t _
   ·rcases gj.1 hp with rfl|hp
    ·decide
    ·rw[hJ.1 hp];exact t _
theorem Rp(a:Int×Int×List (Int×Int)×Int×Int×Int×Int):QH 32 (Pe 32 (Pg a))=Pg a:=Q2 (RZ a) (by unfold Pg;split;simp;split;simp;split;simp;simp)
theorem Qh(p:List UInt8):∀l:List (Int×Int),Pe 32 (p::l.map PU)=p++l.flatMap Pq
 | []=>by simp[Pe]
 |x::l=>by have ih:=Qh (PU x) l;rw[iR,join_cons 32 p (by simp),ih];simp[Pq,PU]
theorem RE(n:Nat)(hn:QM≤n)(k d:Int)(l:List (Int×Int))(i p s m:Int)(ha:l.length≤1048576)(h1:Pk n k d l i p s m=some true):P4 n k d l i p s m=some (Pe 32 (Pg (k,d,l,i,p,s,m))):=by
 unfold P4;rw[h1];simp only[ij,iz,im];rcases Rt n k d l i p s m h1 (QR n hn l ha)with⟨k1,hd,hI⟩|⟨k1,k2,hi⟩|⟨k1,k2,k3,hp,hs,hm⟩|⟨k1,k2,k3,hm⟩
 ·simp only[k1,ik];have TW:=Q1 n hn l ha hI;have ld:=QA d (by omega) (by omega);rw[QK d (by omega) (by omega) n hn];simp only[ij];rw[P9 (by simp;omega)];simp only[ik];have one:=fun L hL he=>RU L l ha hL TW he n hn ([111,114,100,101,114,32]++tx d) (by simp;omega)
  rw[one (Pz n l) (fun j hj st Vb=>by
   obtain⟨q1,q2,q3,q4⟩:=TW _ (iu hj);have l1:=QA (l[j]).1 (by omega) (by omega);have l2:=QA (l[j]).2 (by omega) (by omega);unfold Pz;dsimp only;rw[show decide ((j:Int)<(l.length:Int))=true by simp only[gm];omega,ik,Pr hj,QL hj (by omega)];simp only[ij];rw[QK _ (by omega) (by omega) n hn,QK _ (by omega) (by omega) n hn];simp only[ij];rw[P9 (by simp;omega),P9 (by simp;omega),P9 (by simp;omega),P9 (by simp;omega)];simp only[ik,Pq];simp) (fun st=>by unfold Pz;simp),ij]
  have hk:k=1:=gV.1 k1;unfold Pg;rw[gS hk,join_cons 32 _ (by simp),Qh];simp
 ·have n1:¬k=1:=il.1 k1;have n2:k=2:=gV.1 k2;simp only[k1,k2,ik,im];have li:=QA i (by omega) (by omega);rw[QK i (by omega) (by omega) n hn];simp only[ij];rw[P9 (by simp;omega)];unfold Pg;rw[gT n1,gS n2];rfl
 ·have n1:¬k=1:=il.1 k1;have n2:¬k=2:=il.1 k2;have n3:k=3:=gV.1 k3;simp only[k1,k2,k3,ik,im];have l1:=QA p (by omega) (by omega);have l2:=QA s (by omega) (by omega);have l3:=QA m (by omega) (by omega);rw[QK p (by omega) (by omega) n hn,QK s (by omega) (by omega) n hn,QK m (by omega) (by omega) n hn];simp only[ij];rw[P9 (by simp;omega),P9 (by simp;omega),P9 (by simp;omega),P9 (by simp;omega),P9 (by simp;omega)];unfold Pg;rw[gT n1,gT n2,gS n3];simp[Pe]
 ·have n1:¬k=1:=il.1 k1;have n2:¬k=2:=il.1 k2;have n3:¬k=3:=il.1 k3;simp only[k1,k2,k3,ik,im];have l3:=QA m (by omega) (by omega);rw[QK m (by omega) (by omega) n hn];simp only[ij];rw[P9 (by simp;omega)];unfold Pg;rw[gT n1,gT n2,gT n3];rfl
theorem QF(s:List UInt8)(hs:s.length≤1048576)(n:Nat)(hn:QM≤n):∃v,PY n s=some v:=by
 have key:∀(d i:Nat)(acc:Int)(m:Nat),i+d=s.length→d+1≤m→∃r,Go.Ev.iter m (PV s) (acc,(i:Int))=some r:=by
  intro d
  induction d with
  |zero=>
   intro i acc m hi hm;obtain⟨m,rfl⟩:∃k,m=k+1:=⟨m-1,by omega⟩;refine⟨_,Pd (z:=.inl (acc,(i:Int))) ?_ m⟩;unfold PV;dsimp only;rw[show decide ((i:Int)<(s.length:Int))=false by rw[gv];omega];rfl
  |succ d ih=>
   intro i acc m hi hm;obtain⟨m,rfl⟩:∃k,m=k+1:=⟨m-1,by omega⟩;have Tc:i<s.length:=by omega
   cases hc:(decide ((48:Int)≤QQ ((s[i].toNat:Nat):Int))&&decide (QQ ((s[i].toNat:Nat):Int)≤57))with
   |false=>
    refine⟨_,Pd (z:=.inr (-1)) ?_ m⟩;unfold PV;dsimp only;rw[show decide ((i:Int)<(s.length:Int))=true by rw[gm];omega,ik,Pr Tc,ij,P7,ij,hc];rfl
   |true=>
    have e1:PV s (acc,(i:Int))=some (.inl ((QQ ((QQ (acc*10))+(QQ (IntKind.wrap .u8 (((s[i].toNat:Nat):Int)-48))))),((i+1:Nat):Int))):=by unfold PV;dsimp only;rw[show decide ((i:Int)<(s.length:Int))=true by rw[gm];omega,ik,Pr Tc,ij,P7,ij,hc,iz,im,ij,Pl (n:=(i:Int)+1) (by omega) (by omega)];rfl
    rw[Ps e1];exact ih (i+1) _ m (by omega) (by omega)
 obtain⟨r,hr⟩:=key s.length 0 0 n (by omega) (by unfold QM at hn;omega);rw[show((0:Nat):Int)=0 from rfl]at hr;unfold PY;rw[P7,ij,hr];cases hb:(decide ((1:Int)≤(s.length:Int))&&decide ((s.length:Int)≤6))with
 |false=>exact⟨_,rfl⟩
 |true=>
  rw[iz,im];have hlen:1≤s.length:=by simp at hb;omega
  have hg:NJ s 0=some s[0]:=Pr (i:=0) (by omega);rw[hg];by_cases h2:(s.length:Int)>1
  ·rw[decide_eq_true h2,ik,ij,ij];cases(((s[0].toNat:Nat):Int)==48)
   ·cases r<;>exact⟨_,rfl⟩
   ·exact⟨_,rfl⟩
  ·rw[decide_eq_false h2,im,ij];cases r<;>exact⟨_,rfl⟩
theorem Rk(ws:List (List UInt8))(h1:1≤ws.length)(hw:∀p∈ws,p.length≤1048576)(n:Nat)(hn:QM≤n):∃ns:List Int,Go.Ev.iter n (Pj n ws) (([]:List Int),1)=some (ns,((ns.length+1:Nat):Int))∧ns.length+1=min ws.length 10∧∀i (h:i<ns.length) (h2:i+1<ws.length),PY n ws[i+1]=some ns[i]:=by
 have key:∀(d:Nat)(ns:List Int)(m:Nat),ns.length+1+d=min ws.length 10→(∀i (h:i<ns.length) (h2:i+1<ws.length),PY n ws[i+1]=some ns[i])→d+1≤m→
   ∃ms:List Int,Go.Ev.iter m (Pj n ws) (ns,((ns.length+1:Nat):Int))=some (ms,((ms.length+1:Nat):Int))∧ms.length+1=min ws.length 10∧∀i (h:i<ms.length) (h2:i+1<ws.length),PY n ws[i+1]=some ms[i]:=by
  intro d
  induction d with
  |zero=>
   intro ns m hd XP hm;obtain⟨m,rfl⟩:∃k,m=k+1:=⟨m-1,by omega⟩;refine⟨ns,Pd ?_ m,by omega,XP⟩;unfold Pj;dsimp only;by_cases hl:ns.length+1<ws.length
   ·rw[show decide (((ns.length+1:Nat):Int)<(ws.length:Int))=true by rw[gm];omega,ik,show decide (((ns.length+1:Nat):Int)<10)=false by rw[gv];omega];rfl
   ·rw[show decide (((ns.length+1:Nat):Int)<(ws.length:Int))=false by rw[gv];omega];rfl
  |succ d ih=>
   intro ns m hd XP hm;obtain⟨m,rfl⟩:∃k,m=k+1:=⟨m-1,by omega⟩;have hl:ns.length+1<ws.length:=by omega
   obtain⟨v,hv⟩:=QF ws[ns.length+1] (hw _ (iu hl)) n hn;have hg:ws[((ns.length+1:Nat):Int).toNat]?=some ws[ns.length+1]:=by rw[ir,gK hl]
   have e1:Pj n ws (ns,((ns.length+1:Nat):Int))=some (.inl (ns++[v],(((ns++[v]).length+1:Nat):Int))):=by
    unfold Pj;dsimp only
    rw[show decide (((ns.length+1:Nat):Int)<(ws.length:Int))=true by rw[gm];omega,ik,show decide (((ns.length+1:Nat):Int)<10)=true by rw[gm];omega,ij,ik,Qo hl,ik,hg,ij,hv,ij,
     show decide (ns.length+[v].length≤Dc)=true by rw[gm,iq];unfold Dc;omega,ik,Pl (n:=((ns.length+1:Nat):Int)+1) (by omega) (by omega),iD,iq]
    congr 3
   rw[Ps e1];refine ih (ns++[v]) m (by rw[iD,iq];omega) (fun i h h2=>?_) (by omega);by_cases hi:i<ns.length
   ·rw[List.getElem_append_left hi];exact XP i hi h2
   ·have:i=ns.length:=by rw[iD,iq]at h;omega
    subst this;rw[List.getElem_append_right (gk _)];simpa using hv
 have h:=key (min ws.length 10-1) [] n (by simp;omega) (fun i h=>by cases h) (by unfold QM at hn;omega);simpa using h
theorem RL(n:Nat)(hn:QM≤n)(a:List (Int×Int))(h:PX n a=some true)(ha:a.length≤1048576):a.length≤6:=by
 unfold PX at h
 obtain⟨r,hr⟩:∃r,Go.Ev.iter n (PS a) 0=some r:=by
  cases hq:Go.Ev.iter n (PS a) 0 with
  |none=>rw[hq]at h;cases h
  |some r=>exact⟨r,rfl⟩
 have step:∀x:Int,PS a x=none∨(∃y,PS a x=some (.inl y))∨PS a x=some (.inr (.inr false))∨PS a x=some (.inr (.inl x)):=by
  intro x;unfold PS;cases decide (x<(a.length:Int))with
  |false=>exact .inr (.inr (.inr rfl))
  |true=>
   rw[ik];generalize ((NJ a x).bind fun(x2:Pc)=>_)=o;cases o with
   |none=>exact .inl rfl
   |some b=>cases b with
    |true=>exact .inr (.inr (.inl rfl))
    |false=>exact .inr (.inl ⟨_,rfl⟩)
 have key:∀(m:Nat)(x:Int),Go.Ev.iter m (PS a) x≠some (.inr true):=by
  intro m
  induction m with
  |zero=>intro x h;cases h
  |succ m ih=>
   intro x hq;rcases step x with e|⟨y,e⟩|e|e
   ·simp[Go.Ev.iter,e]at hq
   ·rw[Ps e]at hq;exact ih y hq
   ·rw[Pd e]at hq;cases hq
   ·rw[Pd e]at hq;cases hq
 rw[hr]at h;cases r with
 |inl j=>
  have:(a.length:Int)≤6:=by simpa using h
  omega
 |inr b=>
  have hb:b=true:=by simpa using h
  subst hb;exact(key n 0 hr).elim
theorem RS(n:Nat)(k d:Int)(l:List (Int×Int))(i p s m:Int)(h:Pk n k d l i p s m=some true)(hb:∃b,PX n l=some b):
  (k=1∧(0≤d∧d≤99)∧PX n l=some true∧1≤l.length∧i=0∧p=0∧s=0∧m=0)∨(k=2∧d=0∧l=[]∧(1≤i∧i≤999999)∧p=0∧s=0∧m=0) ∨
  (k=3∧d=0∧l=[]∧i=0∧(1≤p∧p≤999)∧(1≤s∧s≤50)∧(1≤m∧m≤1000))∨(k=4∧d=0∧l=[]∧i=0∧p=0∧s=0∧(1≤m∧m≤50)):=by
 obtain⟨b,hb⟩:=hb
 have hl:((l.length:Int)==0)=true→l=[]:=fun e=>by have:=gV.1 e;exact List.length_eq_zero_iff.1 (by omega)
 unfold Pk Po at h;simp only[hb,P7,ij]at h;cases k1:(k==1)with
 |true=>
  rw[k1]at h;have hk:=gV.1 k1;refine .inl ⟨hk,?_⟩;cases hi:(i==0)<;>cases hp:(p==0)<;>cases hs:(s==0)<;>cases hm:(m==0)<;>rw[hi]at h<;>simp_all<;>grind
 |false=>
  rw[k1]at h;cases k2:(k==2)with
  |true=>
   rw[k2]at h;refine .inr (.inl ⟨gV.1 k2,?_⟩);cases hd:(d==0)<;>cases ep:((l.length:Int)==0)<;>cases hp:(p==0)<;>cases hs:(s==0)<;>cases hm:(m==0)<;>simp_all<;>grind
  |false=>
   rw[k2]at h;cases k3:(k==3)with
   |true=>
    rw[k3]at h;refine .inr (.inr (.inl ⟨gV.1 k3,?_⟩));cases hd:(d==0)<;>cases ep:((l.length:Int)==0)<;>cases hi:(i==0)<;>simp_all<;>grind
   |false=>
    rw[k3]at h;cases k4:(k==4)with
    |true=>
     rw[k4]at h;refine .inr (.inr (.inr ⟨gV.1 k4,?_⟩));cases hd:(d==0)<;>cases ep:((l.length:Int)==0)<;>cases hi:(i==0)<;>cases hp:(p==0)<;>cases hs:(s==0)<;>simp_all<;>grind
    |false=>
     rw[k4]at h;simp at h
theorem RB(c:UInt8)(s:List UInt8):(QH c s).length≤s.length+1∧∀p∈QH c s,p.length≤s.length:=by
 induction s with
 |nil=>simp[QH]
 |cons x r ih=>
  unfold QH;cases x==c with
  |true=>
   rw[ik];refine⟨by simp only[iU];omega,fun p hp=>?_⟩;rcases gj.1 hp with rfl|hp
   ·simp
   ·have:=ih.2 p hp;simp only[iU];omega
  |false=>
   rw[im];cases hq:QH c r with
   |nil=>exact(Qp c r hq).elim
   |cons q qs=>
    rw[hq]at ih;refine⟨by have:=ih.1;simp only[iU]at this ⊢;omega,fun p hp=>?_⟩;rcases gj.1 hp with rfl|hp
    ·have:=ih.2 q gi;simp only[iU];omega
    ·have:=ih.2 p (gO _ hp);simp only[iU];omega
def Q9(ws:List (List UInt8))(l:List (Int×Int)):Prop:=ws.drop 2=l.map PU∧l.length≤8∧∀x∈l,P0 x
theorem RV(ws:List (List UInt8))(h2:2≤ws.length)(hw:∀p∈ws,p.length≤1048576)(d:Int)(n:Nat)(hn:QM≤n):∃(j:Int) (its:List (Int×Int)),Go.Ev.iter n (Pb n ws) (2,1,d,([]:List (Int×Int)),0,0,0,0)=some (j,1,d,its,0,0,0,0)∧its.length≤8∧∀l,Q9 ws l→its=l:=by
 have key:∀(r i:Nat) (its:List (Int×Int)) (m:Nat),i+r=min ws.length 10→2≤i→its.length+2≤i→(∀l,Q9 ws l→its=l.take (i-2))→r+1≤m→
   ∃(j:Int) (fC:List (Int×Int)),Go.Ev.iter m (Pb n ws) ((i:Int),1,d,its,0,0,0,0)=some (j,1,d,fC,0,0,0,0)∧fC.length≤8∧∀l,Q9 ws l→fC=l:=by
  intro r
  induction r with
  |zero=>
   intro i its m hi Z5 fS hl hm;obtain⟨m,rfl⟩:∃k,m=k+1:=⟨m-1,by omega⟩;refine⟨(i:Int),its,Pd ?_ m,by omega,fun l hC=>?_⟩
   ·unfold Pb;dsimp only;by_cases h:i<ws.length
    ·rw[show decide ((i:Int)<(ws.length:Int))=true by rw[gm];omega,ik,show decide ((i:Int)<10)=false by rw[gv];omega];rfl
    ·rw[show decide ((i:Int)<(ws.length:Int))=false by rw[gv];omega];rfl
   ·rw[hl l hC];have:=congrArg List.length hC.1;rw[List.length_drop,iG]at this;have h8:=hC.2.1;exact List.take_of_length_le (by omega)
  |succ r ih=>
   intro i its m hi Z5 fS hl hm;obtain⟨m,rfl⟩:∃k,m=k+1:=⟨m-1,by omega⟩;have Tc:i<ws.length:=by omega
   have fv:=hw _ (iu Tc);have hg:ws[(i:Int).toNat]?=some ws[i]:=by rw[ir,gK Tc]
   have dL:=Qt ws[i] 58 fv n hn;rw[show(((58:UInt8).toNat:Nat):Int)=58 from rfl]at dL;obtain⟨pl1,pl2⟩:=RB 58 ws[i]
   have fO:∀l,Q9 ws l→∃h:i-2<l.length,ws[i]=PU l[i-2]:=fun l hC=>by
    have e:=congrArg List.length hC.1;rw[List.length_drop,iG]at e;have h:i-2<l.length:=by omega
    refine⟨h,?_⟩;have:(ws.drop 2)[i-2]?=some (PU l[i-2]):=by rw[hC.1,ga,gK h];rfl
    rw[List.getElem?_drop,show 2+(i-2)=i by omega,gK Tc]at this;exact Option.some.inj this
   have fk:∀l:List (Int×Int),(h:i-2<l.length)→l.take (i+1-2)=l.take (i-2)++[l[i-2]]:=fun l h=>by rw[show i+1-2=(i-2)+1 by omega,jA,gK h];rfl
   by_cases hq:(QH 58 ws[i]).length=2
   ·obtain⟨a,b,YF⟩:∃a b,QH 58 ws[i]=[a,b]:=by
     match QH 58 ws[i],hq with
     | [a,b],_=>exact⟨a,b,rfl⟩
    obtain⟨v0,e0⟩:=QF a (by have:=pl2 a (by rw[YF];simp);omega) n hn;obtain⟨v1,e1⟩:=QF b (by have:=pl2 b (by rw[YF];simp);omega) n hn
    have es:Pb n ws ((i:Int),1,d,its,0,0,0,0)=some (.inl (((i+1:Nat):Int),1,d,its++[(v0,v1)],0,0,0,0)):=by
     unfold Pb;dsimp only;rw[show decide ((i:Int)<(ws.length:Int))=true by rw[gm];omega,ik,show decide ((i:Int)<10)=true by rw[gm];omega,ij,ik,Qo Tc,ik,hg,ij,dL,ij,YF]
     rw[show((([a,b]:List (List UInt8)).length:Int)==2)=true from rfl,ik,show Oz [a,b] 0=true from rfl,ik,show([a,b]:List (List UInt8))[(0:Int).toNat]?=some a from rfl,ij,e0,ij,show Oz [a,b] 1=true from rfl,ik,show([a,b]:List (List UInt8))[(1:Int).toNat]?=some b from rfl,ij,e1,ij,
      show decide (its.length+[(v0,v1)].length≤Dc)=true by rw[gm,iq];unfold Dc;omega,ik,ij,Pl (n:=(i:Int)+1) (by omega) (by omega)]
     rfl
    rw[Ps es];refine ih (i+1) _ m (by omega) (by omega) (by rw[iD,iq];omega) (fun l hC=>?_) (by omega);obtain⟨h,e⟩:=fO l hC;have hit:=hC.2.2 _ (iu h);rw[e,QC]at YF;injection YF with ha YF
    injection YF with hb _
    rw[←ha,QS _ (by have:=hit.1;omega) (by have:=hit.2.1;omega) n hn]at e0;rw[←hb,QS _ (by have:=hit.2.2.1;omega) (by have:=hit.2.2.2;omega) n hn]at e1;injection e0 with e0
    injection e1 with e1
    rw[fk l h,hl l hC,←e0,←e1]
   ·have es:Pb n ws ((i:Int),1,d,its,0,0,0,0)=some (.inl (((i+1:Nat):Int),1,d,its,0,0,0,0)):=by
     unfold Pb;dsimp only
     rw[show decide ((i:Int)<(ws.length:Int))=true by rw[gm];omega,ik,show decide ((i:Int)<10)=true by rw[gm];omega,ij,ik,Qo Tc,ik,hg,ij,dL,ij,
      show(((QH 58 ws[i]).length:Int)==2)=false by rw[il];omega,im,ij,Pl (n:=(i:Int)+1) (by omega) (by omega)]
     rfl
    rw[Ps es];refine ih (i+1) _ m (by omega) (by omega) (by omega) (fun l hC=>?_) (by omega);obtain⟨h,e⟩:=fO l hC;exact(hq (by rw[e,QC];rfl)).elim
 have h:=key (min ws.length 10-2) 2 [] n (by omega) (gk _) (gk _) (fun l _=>by simp) (by unfold QM at hn;omega);exact h
abbrev R1:=Int×Int×List (Int×Int)×Int×Int×Int×Int
def R3(n:Nat)(a:R1):Prop:=a.2.2.1.length≤1048576∧Pk n a.1 a.2.1 a.2.2.1 a.2.2.2.1 a.2.2.2.2.1 a.2.2.2.2.2.1 a.2.2.2.2.2.2=some true
def Qy(n:Nat)(s:List UInt8)(r:Int×Int×List (Int×Int)×Int×Int×Int×Int×Bool):Prop:=
 (∃a:R1,R3 n a∧s=Pe 32 (Pg a)∧r=(a.1,a.2.1,a.2.2.1,a.2.2.2.1,a.2.2.2.2.1,a.2.2.2.2.2.1,a.2.2.2.2.2.2,true))∨((∀a,R3 n a→s≠Pe 32 (Pg a))∧r=(0,0,[],0,0,0,0,false))
def Qi(W:List (List UInt8))(a:R1):Prop:=
 (∃d l,a=(1,d,l,0,0,0,0)∧(0≤d∧d≤99)∧(1≤l.length∧l.length≤6)∧(∀x∈l,P0 x)∧W=[111,114,100,101,114]::tx d::l.map PU) ∨
 (∃i,a=(2,0,[],i,0,0,0)∧(1≤i∧i≤999999)∧W=[[98,97,99,107],tx i]) ∨
 (∃p q m,a=(3,0,[],0,p,q,m)∧(1≤p∧p≤999)∧(1≤q∧q≤50)∧(1≤m∧m≤1000)∧W=[[112,117,116],tx p,tx q,tx m]) ∨
 (∃m,a=(4,0,[],0,0,0,m)∧(1≤m∧m≤50)∧W=[[116,105,99,107],tx m])
theorem Qj{n:Nat}(hn:QM≤n){s:List UInt8}{a:R1}(h:R3 n a)(hs:s=Pe 32 (Pg a)):Qi (QH 32 s) a:=by
 rw[hs,Rp];obtain⟨k,d,l,i,p,q,m⟩:=a;obtain⟨hl,h⟩:=h;dsimp only at hl h;rcases RS n k d l i p q m h (QR n hn l hl)with⟨rfl,h1,h2,h3,rfl,rfl,rfl,rfl⟩|⟨rfl,rfl,rfl,h1,rfl,rfl,rfl⟩|⟨rfl,rfl,rfl,rfl,h1,h2,h3⟩|⟨rfl,rfl,rfl,rfl,rfl,rfl,h1⟩
 ·exact .inl ⟨d,l,rfl,h1,⟨h3,RL n hn l h2 hl⟩,Q1 n hn l hl h2,rfl⟩
 ·exact .inr (.inl ⟨i,rfl,h1,rfl⟩)
 ·exact .inr (.inr (.inl ⟨p,q,m,rfl,h1,h2,h3,rfl⟩))
 ·exact .inr (.inr (.inr ⟨m,rfl,h1,rfl⟩))
theorem R2{α β:Type}{o:Option α}{f:α→Option β}{P:α→Prop}{Q:β→Prop}(h:∃x,o=some x∧P x)(hf:∀x,P x→∃r,f x=some r∧Q r):∃r,o.bind f=some r∧Q r:=by obtain⟨x,rfl,hx⟩:=h;exact hf x hx
theorem RF(c b:Bool):(bif c then some b else some false)=some (c&&b):=by cases c<;>rfl
theorem Rn(s:List UInt8)(hs:s.length≤1048576)(n:Nat)(hn:QM≤n):∃r,Px n s=some r∧Qy n s r:=by
 have dL:=Qt s 32 (by omega) n hn;rw[show(((32:UInt8).toNat:Nat):Int)=32 from rfl]at dL;obtain⟨pl1,pl2⟩:=RB 32 s;have eo:∀a,R3 n a→s=Pe 32 (Pg a)→Qi (QH 32 s) a:=fun a h1 h2=>Qj hn h1 h2;have Tf:=Qp 32 s;unfold Px;rw[dL,ij];generalize QH 32 s=W at dL pl1 pl2 eo Tf
 have bK:1≤W.length:=by
  cases W with
  |nil=>exact(Tf rfl).elim
  |cons _ _=>simp
 have hw:∀p∈W,p.length≤1048576:=fun p hp=>by have:=pl2 p hp;omega
 obtain⟨ns,e1,e2,e3⟩:=Rk W bK hw n hn;rw[e1,ij]
 obtain⟨w0,W',rfl⟩:∃w0 W',W=w0::W':=by
  cases W with
  |nil=>exact(Tf rfl).elim
  |cons a b=>exact⟨a,b,rfl⟩
 have fi:Oz (w0::W') 0=true:=Qo (i:=0) (by simp);have fx:(w0::W')[(0:Int).toNat]?=some w0:=rfl;simp only[fi,ik,fx,ij,RF]
 have nget:∀(i:Nat)(h:i<ns.length)(v:Int),0≤v→v≤999999→(w0::W')[i+1]?=some (tx v)→ns[i]=v:=fun i h v v0 v1 hv=>by obtain⟨h2,hv⟩:=gM.1 hv;have:=e3 i h h2;rw[hv,QS v v0 v1 n hn]at this;exact(Option.some.inj this).symm
 have fF:∀(i:Nat),i<ns.length→Oz ns (i:Int)=true:=fun i h=>Qo h;have Tp:∀(i:Nat)(h:i<ns.length),ns[((i:Nat):Int).toNat]?=some ns[i]:=fun i h=>by rw[ir,gK h]
 refine R2 (P:=fun x7:R1=>x7.2.2.1.length≤8∧∀a,R3 n a→s=Pe 32 (Pg a)→x7=a) ?_ fun x7 hx=>?_
 ·cases c1:(w0==[111,114,100,101,114])&&decide ((ns.length:Int)>1)with
  |true=>
   simp only[gL,gV,gm]at c1;obtain⟨fG,dD⟩:=c1;have h0:0<ns.length:=by omega
   obtain⟨j,its,f1,f2,f3⟩:=RV (w0::W') (by omega) hw ns[0] n hn;rw[ik,show Oz ns 0=true from fF 0 h0,ik,show ns[(0:Int).toNat]?=some ns[0]from Tp 0 h0,ij,f1];refine⟨_,rfl,f2,fun a h1 h2=>?_⟩;rcases eo a h1 h2 with⟨d,l,rfl,hd,ep,TW,hW⟩|⟨i,rfl,hi,hW⟩|⟨p,q,m,rfl,hp,hq,hm,hW⟩|⟨m,rfl,hm,hW⟩
   ·have Zs:=nget 0 h0 d hd.1 (by omega) (by rw[hW];rfl);have hit:=f3 l ⟨by rw[hW];rfl,by omega,TW⟩;rw[Zs,hit]
   all_goals (injection hW with hW _;rw[fG]at hW;cases hW)
  |false=>
   rw[im]
   have no1:∀d l,R3 n (1,d,l,0,0,0,0)→((1:Nat)≤l.length∧l.length≤6)→(w0::W')=[111,114,100,101,114]::tx d::l.map PU→False:=fun d l _ ep hW=>by
    have hlen:=congrArg List.length hW;simp only[iU,iG]at hlen e2;injection hW with hW _
    rw[hW,ix,Bool.true_and,gv]at c1;omega
   cases c2:(w0==[98,97,99,107])&&((ns.length:Int)==1)with
   |true=>
    simp only[gL,gV]at c2;obtain⟨fG,dD⟩:=c2;have h0:0<ns.length:=by omega
    rw[ik,show Oz ns 0=true from fF 0 h0,ik,show ns[(0:Int).toNat]?=some ns[0]from Tp 0 h0,ij];refine⟨_,rfl,iw _,fun a h1 h2=>?_⟩;rcases eo a h1 h2 with⟨d,l,rfl,hd,ep,TW,hW⟩|⟨i,rfl,hi,hW⟩|⟨p,q,m,rfl,hp,hq,hm,hW⟩|⟨m,rfl,hm,hW⟩
    ·injection hW with hW _;rw[fG]at hW;cases hW
    ·rw[nget 0 h0 i (by omega) hi.2 (by rw[hW];rfl)]
    all_goals (injection hW with hW _;rw[fG]at hW;cases hW)
   |false=>
    rw[im]
    have no2:∀i,(w0::W')=[[98,97,99,107],tx i]→False:=fun i hW=>by
     have hlen:=congrArg List.length hW;simp only[iU,List.length_nil]at hlen e2;injection hW with hW _
     rw[hW,ix,Bool.true_and,il]at c2;omega
    cases c3:(w0==[112,117,116])&&((ns.length:Int)==3)with
    |true=>
     simp only[gL,gV]at c3;obtain⟨fG,dD⟩:=c3;have h0:0<ns.length:=by omega
     have VC:1<ns.length:=by omega
     have Vs:2<ns.length:=by omega
     rw[ik,show Oz ns 0=true from fF 0 h0,ik,show ns[(0:Int).toNat]?=some ns[0]from Tp 0 h0,ij,show Oz ns 1=true from fF 1 VC,ik,show ns[(1:Int).toNat]?=some ns[1]from Tp 1 VC,ij,show Oz ns 2=true from fF 2 Vs,ik,show ns[(2:Int).toNat]?=some ns[2]from Tp 2 Vs,ij];refine⟨_,rfl,iw _,fun a h1 h2=>?_⟩;rcases eo a h1 h2 with⟨d,l,rfl,hd,ep,TW,hW⟩|⟨i,rfl,hi,hW⟩|⟨p,q,m,rfl,hp,hq,hm,hW⟩|⟨m,rfl,hm,hW⟩
     ·injection hW with hW _;rw[fG]at hW;cases hW
     ·injection hW with hW _;rw[fG]at hW;cases hW
     ·rw[nget 0 h0 p (by omega) (by omega) (by rw[hW];rfl),nget 1 VC q (by omega) (by omega) (by rw[hW];rfl),nget 2 Vs m (by omega) (by omega) (by rw[hW];rfl)]
     ·injection hW with hW _;rw[fG]at hW;cases hW
    |false=>
     rw[im]
     have no3:∀p q m,(w0::W')=[[112,117,116],tx p,tx q,tx m]→False:=fun p q m hW=>by
      have hlen:=congrArg List.length hW;simp only[iU,List.length_nil]at hlen e2;injection hW with hW _
      rw[hW,ix,Bool.true_and,il]at c3;omega
     cases c4:(w0==[116,105,99,107])&&((ns.length:Int)==1)with
     |true=>
      simp only[gL,gV]at c4;obtain⟨fG,dD⟩:=c4;have h0:0<ns.length:=by omega
      rw[ik,show Oz ns 0=true from fF 0 h0,ik,show ns[(0:Int).toNat]?=some ns[0]from Tp 0 h0,ij];refine⟨_,rfl,iw _,fun a h1 h2=>?_⟩;rcases eo a h1 h2 with⟨d,l,rfl,hd,ep,TW,hW⟩|⟨i,rfl,hi,hW⟩|⟨p,q,m,rfl,hp,hq,hm,hW⟩|⟨m,rfl,hm,hW⟩
      ·injection hW with hW _;rw[fG]at hW;cases hW
      ·injection hW with hW _;rw[fG]at hW;cases hW
      ·injection hW with hW _;rw[fG]at hW;cases hW
      ·rw[nget 0 h0 m (by omega) (by omega) (by rw[hW];rfl)]
     |false=>
      rw[im];refine⟨_,rfl,iw _,fun a h1 h2=>?_⟩;exfalso;rcases eo a h1 h2 with⟨d,l,rfl,hd,ep,TW,hW⟩|⟨i,rfl,hi,hW⟩|⟨p,q,m,rfl,hp,hq,hm,hW⟩|⟨m,rfl,hm,hW⟩
      ·exact no1 d l h1 ep hW
      ·exact no2 i hW
      ·exact no3 p q m hW
      ·have hlen:=congrArg List.length hW;simp only[iU,List.length_nil]at hlen e2;injection hW with hW _
       rw[hW,ix,Bool.true_and,il]at c4;omega
 ·obtain⟨hx8,bG⟩:=hx;obtain⟨b,hb,_⟩:=RC n hn x7 (by omega);rw[hb,ij];cases b with
  |false=>
   refine⟨_,rfl,.inr ⟨fun a h1 h2=>?_,rfl⟩⟩;have:=bG a h1 h2;subst this;have:=h1.2;rw[hb]at this;cases this
  |true=>
   have ht:=RE n hn x7.1 x7.2.1 x7.2.2.1 x7.2.2.2.1 x7.2.2.2.2.1 x7.2.2.2.2.2.1 x7.2.2.2.2.2.2 (by omega) hb;have ht:P4 n x7.1 x7.2.1 x7.2.2.1 x7.2.2.2.1 x7.2.2.2.2.1 x7.2.2.2.2.2.1 x7.2.2.2.2.2.2=some (Pe 32 (Pg x7)):=ht;rw[iz,im,ht,ij,ij];cases hq:(Pe 32 (Pg x7)==s)with
   |true=>exact⟨_,rfl,.inl ⟨x7,⟨by omega,hb⟩,(gV.1 hq).symm,rfl⟩⟩
   |false=>
    refine⟨_,rfl,.inr ⟨fun a h1 h2=>?_,rfl⟩⟩;have:=bG a h1 h2;subst this;rw[←h2,ix]at hq;cases hq
theorem Rc(c:UInt8){s w0:List UInt8}{W:List (List UInt8)}(h:QH c s=w0::W):(W=[]→Go.Lib.cut s [c]=(s,[],false)∧s=w0)∧(W≠[]→Go.Lib.cut s [c]=(w0,Pe c W,true)):=by
 have hj:=Ql c s;rw[h]at hj;have fM:c∉w0:=QW (c:=c) (s:=s) w0 (by rw[h];exact gi);refine⟨fun e=>?_,fun e=>?_⟩
 ·subst e;have hs:w0=s:=hj;rw[←hs];exact⟨Rv fM,rfl⟩
 ·rw[join_cons c w0 e]at hj;rw[←hj];exact Rb fM
theorem Rz(c:UInt8){s w0:List UInt8}{W:List (List UInt8)}(h:QH c s=w0::W)(e:W≠[]):QH c (Pe c W)=W:=
 Q2 (fun p hp=>QW (c:=c) (s:=s) p (by rw[h];exact gO _ hp)) e
theorem Q7(s t:List UInt8)(h:s.length<4294967281):ND s t=some (Go.Lib.cut s t):=by unfold ND;rw[decide_eq_true h];rfl
theorem Qc(s:List UInt8)(h:s.length≤281474976710656):OE s=some (Lb s):=by unfold OE;rw[decide_eq_true h];rfl
theorem R7(s:List UInt8)(c:UInt8):(Go.Lib.cut s [c]).1.length≤s.length∧(Go.Lib.cut s [c]).2.1.length≤s.length:=by
 unfold Go.Lib.cut;split
 ·simp only[List.length_take,List.length_drop];omega
 ·simp
theorem Q4(w:List UInt8)(hl:w.length≤1048576):∃a b ok,Qa w=some (a,b,ok)∧(ok=true→w=PU (a,b))∧∀x:Int×Int,P0 x→w=PU x→(a,b,ok)=(x.1,x.2,true):=by
 obtain⟨l1,l2⟩:=R7 w 58;unfold Qa;rw[Q7 w _ (by omega),ij,Qc _ (by omega),ij,Qc _ (by omega),ij]
 have U0:(bif(Go.Lib.cut w [58]).2.2 then bif(Lb (Go.Lib.cut w [58]).1).2 then some ((Lb (Go.Lib.cut w [58]).2.1).2,(Lb (Go.Lib.cut w [58]).1).1,(Lb (Go.Lib.cut w [58]).2.1).1)else some (false,(Lb (Go.Lib.cut w [58]).1).1,(Lb (Go.Lib.cut w [58]).2.1).1)else some (false,(Lb (Go.Lib.cut w [58]).1).1,(Lb (Go.Lib.cut w [58]).2.1).1))=
   some ((Go.Lib.cut w [58]).2.2&&((Lb (Go.Lib.cut w [58]).1).2&&(Lb (Go.Lib.cut w [58]).2.1).2),(Lb (Go.Lib.cut w [58]).1).1,(Lb (Go.Lib.cut w [58]).2.1).1):=by
  cases(Go.Lib.cut w [58]).2.2<;>cases(Lb (Go.Lib.cut w [58]).1).2<;>rfl
 refine⟨(Lb (Go.Lib.cut w [58]).1).1,(Lb (Go.Lib.cut w [58]).2.1).1,(Go.Lib.cut w [58]).2.2&&((Lb (Go.Lib.cut w [58]).1).2&&(Lb (Go.Lib.cut w [58]).2.1).2),?_,fun UD=>?_,fun x hx hw=>?_⟩
 ·rw[U0];rfl
 ·simp only[gL]at UD;obtain⟨k1,k2,k3⟩:=UD;obtain⟨_,_,q1⟩:=Qx (v:=(Lb (Go.Lib.cut w [58]).1).1) (s:=(Go.Lib.cut w [58]).1) (by rw[←k2]);obtain⟨_,_,q2⟩:=Qx (v:=(Lb (Go.Lib.cut w [58]).2.1).1) (s:=(Go.Lib.cut w [58]).2.1) (by rw[←k3])
  have hw:w=(Go.Lib.cut w [58]).1++58::(Go.Lib.cut w [58]).2.1:=by
   obtain⟨w0,W,hW⟩:∃w0 W,QH 58 w=w0::W:=by
    cases hq:QH 58 w with
    |nil=>exact(Qp 58 w hq).elim
    |cons a b=>exact⟨a,b,rfl⟩
   obtain⟨c1,c2⟩:=Rc 58 hW;by_cases e:W=[]
   ·rw[(c1 e).1]at k1;cases k1
   ·rw[c2 e];have hj:=Ql 58 w;rw[hW,join_cons 58 w0 e]at hj;exact hj.symm
  unfold PU;rw[←q1,←q2];exact hw
 ·have hc:Go.Lib.cut w [58]=(tx x.1,tx x.2,true):=by rw[hw];exact Rb (Qf 58 (by decide) _)
  obtain⟨i1,i2,i3,i4⟩:=hx;rw[hc];dsimp only;rw[QT x.1 (by omega) (by omega),QT x.2 (by omega) (by omega)];rfl
theorem RP(p0:List UInt8)(ps:List (List UInt8))(hw:∀p∈ps,p.length≤1048576)(hl:ps.length≤1048576)(ok0:Bool)(d:Int)(n:Nat)(hn:QM≤n):
  ∃its ok,Go.Ev.iter n (Pu (p0::ps)) (ok0,0,1,d,([]:List (Int×Int)),0,0,0,0)=some (ok,(ps.length:Int),1,d,its,0,0,0,0)∧its.length=ps.length∧(ok=true→ok0=true∧ps=its.map PU)∧∀l:List (Int×Int),(∀x∈l,P0 x)→ps=l.map PU→its=l∧ok=ok0:=by
 have UO:sub (p0::ps) ((1:Int).toNat) (((p0::ps).length:Int).toNat)=ps:=by unfold sub;rw[ir];simp
 have key:∀(r i:Nat) (its:List (Int×Int)) (ok:Bool) (m:Nat),i+r=ps.length→its.length=i→(ok=true→ok0=true∧ps.take i=its.map PU)→(∀l:List (Int×Int),(∀x∈l,P0 x)→ps=l.map PU→its=l.take i∧ok=ok0)→r+1≤m→
   ∃fC fm,Go.Ev.iter m (Pu (p0::ps)) (ok,(i:Int),1,d,its,0,0,0,0)=some (fm,(ps.length:Int),1,d,fC,0,0,0,0)∧fC.length=ps.length∧(fm=true→ok0=true∧ps=fC.map PU)∧∀l:List (Int×Int),(∀x∈l,P0 x)→ps=l.map PU→fC=l∧fm=ok0:=by
  intro r
  induction r with
  |zero=>
   intro i its ok m hi fS h1 h2 hm;obtain⟨m,rfl⟩:∃k,m=k+1:=⟨m-1,by omega⟩;have hq:i=ps.length:=by omega
   subst hq;refine⟨its,ok,Pd ?_ m,fS,fun h=>?_,fun l hx hp=>?_⟩
   ·unfold Pu;dsimp only;rw[UO,show decide ((ps.length:Int)<(ps.length:Int))=false by simp];rfl
   ·have:=h1 h;rw[jB]at this;exact this
   ·have:=h2 l hx hp;rw[hp,iG,jB]at this;exact this
  |succ r ih=>
   intro i its ok m hi fS h1 h2 hm;obtain⟨m,rfl⟩:∃k,m=k+1:=⟨m-1,by omega⟩;have Tc:i<ps.length:=by omega
   obtain⟨a,b,fine,e,f1,f2⟩:=Q4 ps[i] (hw _ (iu Tc))
   have e1:Pu (p0::ps) (ok,(i:Int),1,d,its,0,0,0,0)=some (.inl (ok&&fine,((i+1:Nat):Int),1,d,its++[(a,b)],0,0,0,0)):=by
    unfold Pu;dsimp only;rw[UO,show decide ((i:Int)<(ps.length:Int))=true by rw[gm];omega,ik,Pr Tc,ij,e,ij];dsimp only;rw[RF,ij,show decide (its.length+[(a,b)].length≤Dc)=true by rw[gm,iq];unfold Dc;omega,ik,QL Tc (by omega)]
   rw[Ps e1];refine ih (i+1) (its++[(a,b)]) (ok&&fine) m (by omega) (by simp;omega) (fun h=>?_) (fun l hx hp=>?_) (by omega)
   ·rw[gL]at h;obtain⟨g1,g2⟩:=h1 h.1;refine⟨g1,?_⟩;rw[jA,gK Tc,g2,List.map_append,f1 h.2];rfl
   ·obtain⟨g1,g2⟩:=h2 l hx hp;have ep:i<l.length:=by have:=congrArg List.length hp;rw[iG]at this;omega
    have fj:ps[i]=PU l[i]:=by
     have:ps[i]?=(l.map PU)[i]?:=by rw[←hp]
     rw[gK Tc,ga,gK ep]at this;exact Option.some.inj this
    have YF:=f2 l[i] (hx _ (iu ep)) fj;injection YF with ha YF
    injection YF with hb hf
    refine⟨?_,by rw[hf,g2,Bool.and_true]⟩;rw[jA,gK ep,g1,ha,hb];rfl
 have h:=key ps.length 0 [] ok0 n (by omega) rfl (fun h=>⟨h,by simp⟩) (fun l _ _=>⟨by simp,rfl⟩) (by unfold QM at hn;omega);exact h
theorem Ra(k:Int)(ps:List (List UInt8))(hw:∀p∈ps,p.length≤1048576)(hl:ps.length≤1048576)(n:Nat)(hn:QM≤n):
  (∃ls:List Int,Go.Ev.iter n (Ph k 0 [] 0 0 0 0 ps) (([]:List Int),0,0,0,([]:List (Int×Int)),0,0,0,0)=some (.inl (ls,(ps.length:Int),0,0,([]:List (Int×Int)),0,0,0,0))∧ps=ls.map tx∧∀vs:List Int,(∀v∈vs,0≤v∧v≤999999)→ps=vs.map tx→vs=ls) ∨
  (Go.Ev.iter n (Ph k 0 [] 0 0 0 0 ps) (([]:List Int),0,0,0,([]:List (Int×Int)),0,0,0,0)=some (.inr (0,0,[],0,0,0,0,false,k,0,[],0,0,0,0))∧∀vs:List Int,(∀v∈vs,0≤v∧v≤999999)→ps≠vs.map tx):=by
 have uniq:∀(ls vs:List Int),(∀v∈vs,0≤v∧v≤999999)→(∀v∈ls,Lb (tx v)=(v,true))→ls.map tx=vs.map tx→vs=ls:=by
  intro ls
  induction ls with
  |nil=>intro vs _ _ h;cases vs with
   |nil=>rfl
   |cons v vs=>cases h
  |cons l ls ih=>intro vs hv hn h;cases vs with
   |nil=>cases h
   |cons v vs=>
    rw[iR,iR]at h;injection h with h1 h2
    have a1:=QT v (hv v gi).1 (hv v gi).2;rw[←h1,hn l gi]at a1;injection a1 with a1 _
    rw[a1,ih vs (fun x hx=>hv x (gO _ hx)) (fun x hx=>hn x (gO _ hx)) h2]
 have key:∀(r i:Nat)(ls:List Int)(m:Nat),i+r=ps.length→ls.length=i→ps.take i=ls.map tx→(∀v∈ls,Lb (tx v)=(v,true))→r+1≤m→
   (∃XH:List Int,Go.Ev.iter m (Ph k 0 [] 0 0 0 0 ps) (ls,(i:Int),0,0,([]:List (Int×Int)),0,0,0,0)=some (.inl (XH,(ps.length:Int),0,0,([]:List (Int×Int)),0,0,0,0))∧ps=XH.map tx∧∀v∈XH,Lb (tx v)=(v,true)) ∨
   (Go.Ev.iter m (Ph k 0 [] 0 0 0 0 ps) (ls,(i:Int),0,0,([]:List (Int×Int)),0,0,0,0)=some (.inr (0,0,[],0,0,0,0,false,k,0,[],0,0,0,0))∧∀vs:List Int,(∀v∈vs,0≤v∧v≤999999)→ps≠vs.map tx):=by
  intro r
  induction r with
  |zero=>
   intro i ls m hi fS h1 h2 hm;obtain⟨m,rfl⟩:∃k,m=k+1:=⟨m-1,by omega⟩;have hi:i=ps.length:=by omega
   refine .inl ⟨ls,Pd ?_ m,?_,h2⟩
   ·unfold Ph;dsimp only;rw[hi,show decide ((ps.length:Int)<(ps.length:Int))=false by simp];rfl
   ·rw[hi,jB]at h1;exact h1
  |succ r ih=>
   intro i ls m hi fS h1 h2 hm;obtain⟨m,rfl⟩:∃k,m=k+1:=⟨m-1,by omega⟩;have Tc:i<ps.length:=by omega
   have fv:=hw _ (iu Tc)
   have e0:Ph k 0 [] 0 0 0 0 ps (ls,(i:Int),0,0,([]:List (Int×Int)),0,0,0,0)=(bif !(Lb ps[i]).2 then some (.inr (.inr (0,0,[],0,0,0,0,false,k,0,[],0,0,0,0)))else some (.inl (ls++[(Lb ps[i]).1],((i+1:Nat):Int),0,0,[],0,0,0,0))):=by
    unfold Ph;dsimp only;rw[show decide ((i:Int)<(ps.length:Int))=true by rw[gm];omega,ik,Pr Tc,ij,Qc _ (by omega),ij,show decide (ls.length+[(Lb ps[i]).1].length≤Dc)=true by rw[gm,iq];unfold Dc;omega,ik,QL Tc (by omega)]
   cases hq:Lb ps[i]with
   |mk v ok=>
    rw[hq]at e0;cases ok with
    |false=>
     refine .inr ⟨Pd e0 m,fun vs hv hp=>?_⟩;have ep:i<vs.length:=by have:=congrArg List.length hp;rw[iG]at this;omega
     have fj:ps[i]=tx vs[i]:=by
      have:ps[i]?=(vs.map tx)[i]?:=by rw[←hp]
      rw[gK Tc,ga,gK ep]at this;exact Option.some.inj this
     have:=hv _ (iu ep);rw[fj,QT _ this.1 this.2]at hq;cases hq
    |true=>
     rw[Ps e0];have hp:=(Qx hq).2.2;refine ih (i+1) (ls++[v]) m (by omega) (by simp;omega) ?_ (fun w hw=>?_) (by omega)
     ·rw[jA,gK Tc,h1,List.map_append,hp];rfl
     ·rcases iX.1 hw with hw|hw
      ·exact h2 w hw
      ·rw[hJ.1 hw,←hp];exact hq
 rcases key ps.length 0 [] n (by omega) rfl (by simp) (fun v hv=>by cases hv) (by unfold QM at hn;omega)with⟨ls,e,h1,h2⟩|h
 ·exact .inl ⟨ls,e,h1,fun vs hv hp=>uniq ls vs hv h2 (by rw[←h1];exact hp)⟩
 ·exact .inr h
def wd(k:Int):List UInt8:=if k=1 then [111,114,100,101,114]else if k=2 then [98,97,99,107]else if k=3 then [112,117,116]else [116,105,99,107]
def Rs(k:Int)(W:List (List UInt8))(x:Int×Int×List (Int×Int)×Int×Int×Int×Int×Bool×Int×Int×List (Int×Int)×Int×Int×Int×Int):Prop:=
 ∃(a:R1) (ok:Bool) (t:Int×Int×List (Int×Int)×Int×Int×Int×Int),x=(a.1,a.2.1,a.2.2.1,a.2.2.2.1,a.2.2.2.2.1,a.2.2.2.2.2.1,a.2.2.2.2.2.2,ok,t)∧a.2.2.1.length≤1048576∧(ok=true→Pg a=wd k::W)∧∀b,Qi (wd k::W) b→a=b∧ok=true
theorem Rq(k:Int)(hk:k=1∨k=2∨k=3∨k=4)(ps:List (List UInt8))(Tf:ps≠[])(hw:∀p∈ps,p.length≤1048576)(hl:ps.length≤1048576)(n:Nat)(hn:QM≤n):
  ∃x,Pp n k 0 [] 0 0 0 0 ps=some x∧Rs k ps x:=by
 rcases hk with rfl|hk
 ·obtain⟨p0,ps,rfl⟩:∃a b,ps=a::b:=by
   cases ps with
   |nil=>exact(Tf rfl).elim
   |cons a b=>exact⟨a,b,rfl⟩
  rw[iU]at hl;have hg:NJ (p0::ps) 0=some p0:=rfl;obtain⟨its,ok,e,h1,h2,h3⟩:=RP p0 ps (fun p hp=>hw p (gO _ hp)) (by omega) (Lb p0).2 (Lb p0).1 n hn;refine⟨(1,(Lb p0).1,its,0,0,0,0,ok,1,0,[],0,0,0,0),?_,(1,(Lb p0).1,its,0,0,0,0),ok,_,rfl,by dsimp only;omega,fun UD=>?_,fun b hb=>?_⟩
  ·unfold Pp;rw[show((1:Int)==1)=true from rfl,ik,hg,ij,Qc _ (by have:=hw p0 gi;omega),ij,show(decide (0≤1)&&decide ((1:Int)≤((p0::ps).length:Int))&&decide (((p0::ps).length:Int)≤((p0::ps).length:Int)))=true by simp only[iU,gL,gm];omega,ik,e,ij]
  ·obtain⟨g1,g2⟩:=h2 UD;have g3:=(Qx (s:=p0) (v:=(Lb p0).1) (by rw[←g1])).2.2;show [111,114,100,101,114]::tx (Lb p0).1::its.map PU=_;rw[←g3,←g2];rfl
  ·rcases hb with⟨d,l,rfl,hd,ep,TW,hW⟩|⟨i,rfl,hi,hW⟩|⟨p,q,m,rfl,hp,hq,hm,hW⟩|⟨m,rfl,hm,hW⟩
   ·injection hW with _ hW
    injection hW with hW fE
    obtain⟨g1,g2⟩:=h3 l TW fE;have g3:=QT d (by omega) (by omega);rw[←hW]at g3;rw[g1,g2,g3];exact⟨rfl,rfl⟩
   all_goals (injection hW with hW _;cases hW)
 ·have Wj:(k==1)=false:=by rw[il];omega
  have TW:∀(v:Int)(r:List Int),Oz (v::r) 0=true:=fun v r=>Qo (i:=0) (by simp);rcases Ra k ps hw hl n hn with⟨ls,e,h1,h2⟩|⟨e,h2⟩
  ·have eo:∀b,Qi (wd k::ps) b→(k=2∧∃i,b=(2,0,[],i,0,0,0)∧ls=[i])∨(k=3∧∃p q m,b=(3,0,[],0,p,q,m)∧ls=[p,q,m])∨(k=4∧∃m,b=(4,0,[],0,0,0,m)∧ls=[m]):=by
    intro b hb;rcases hb with⟨d,l,rfl,hd,ep,TW,hW⟩|⟨i,rfl,hi,hW⟩|⟨p,q,m,rfl,hp,hq,hm,hW⟩|⟨m,rfl,hm,hW⟩
    ·injection hW with hW _
     rcases hk with rfl|rfl|rfl<;>cases hW
    ·injection hW with hW fE
     have:=h2 [i] (by simp;omega) fE;rcases hk with rfl|rfl|rfl<;>first|exact .inl ⟨rfl,i,rfl,this.symm⟩|cases hW
    ·injection hW with hW fE
     have:=h2 [p,q,m] (by simp;omega) fE;rcases hk with rfl|rfl|rfl<;>first|exact .inr (.inl ⟨rfl,p,q,m,rfl,this.symm⟩)|cases hW
    ·injection hW with hW fE
     have:=h2 [m] (by simp;omega) fE;rcases hk with rfl|rfl|rfl<;>first|exact .inr (.inr ⟨rfl,m,rfl,this.symm⟩)|cases hW
   have bad:(¬(k=2∧∃i,ls=[i])∧¬(k=3∧∃p q m,ls=[p,q,m])∧¬(k=4∧∃m,ls=[m]))→∀t,Rs k ps (0,0,[],0,0,0,0,false,t):=fun hb t=>⟨(0,0,[],0,0,0,0),false,t,rfl,iw _,(fun h=>by cases h),fun b Tk=>by
    rcases eo b Tk with⟨g,i,_,g2⟩|⟨g,p,q,m,_,g2⟩|⟨g,m,_,g2⟩
    ·exact(hb.1 ⟨g,i,g2⟩).elim
    ·exact(hb.2.1 ⟨g,p,q,m,g2⟩).elim
    ·exact(hb.2.2 ⟨g,m,g2⟩).elim⟩
   have DG:∀l:List Int,((l.length:Int)==1)=true→∃i,l=[i]:=fun l h=>by
    have:=gV.1 h
    match l,this with
    | [i],_=>exact⟨i,rfl⟩
    | [],h=>cases h
    |_::_::_,h=>simp only[iU]at h;omega
   have len3:∀l:List Int,((l.length:Int)==3)=true→∃p q m,l=[p,q,m]:=fun l h=>by
    have:=gV.1 h
    match l,this with
    | [p,q,m],_=>exact⟨p,q,m,rfl⟩
    | [],h=>cases h
    | [_],h=>cases h
    | [_,_],h=>cases h
    |_::_::_::_::_,h=>simp only[iU]at h;omega
   unfold Pp;rw[Wj,im,e,ij];dsimp only;rcases hk with rfl|rfl|rfl
   ·cases hlen:((ls.length:Int)==1)with
    |true=>
     obtain⟨i,rfl⟩:=DG ls hlen
     exact⟨_,rfl,(2,0,[],i,0,0,0),true,_,rfl,iw _,fun _=>by rw[h1];rfl,fun b hb=>by
      rcases eo b hb with⟨_,j,rfl,g⟩|⟨g,_⟩|⟨g,_⟩
      ·injection g with g _;rw[g];exact⟨rfl,rfl⟩
      ·cases g
      ·cases g⟩
    |false=>exact⟨_,rfl,bad ⟨(fun⟨_,i,h⟩=>by rw[h]at hlen;cases hlen),fun h=>(by cases h.1),fun h=>(by cases h.1)⟩ _⟩
   ·cases hlen:((ls.length:Int)==3)with
    |true=>
     obtain⟨p,q,m,rfl⟩:=len3 ls hlen
     exact⟨_,rfl,(3,0,[],0,p,q,m),true,_,rfl,iw _,fun _=>by rw[h1];rfl,fun b hb=>by
      rcases eo b hb with⟨g,_⟩|⟨_,p',q',m',rfl,g⟩|⟨g,_⟩
      ·cases g
      ·injection g with g1 g;injection g with g2 g;injection g with g3 _;rw[g1,g2,g3];exact⟨rfl,rfl⟩
      ·cases g⟩
    |false=>exact⟨_,rfl,bad ⟨fun h=>(by cases h.1),(fun⟨_,p,q,m,h⟩=>by rw[h]at hlen;cases hlen),fun h=>(by cases h.1)⟩ _⟩
   ·cases hlen:((ls.length:Int)==1)with
    |true=>
     obtain⟨m,rfl⟩:=DG ls hlen
     exact⟨_,rfl,(4,0,[],0,0,0,m),true,_,rfl,iw _,fun _=>by rw[h1];rfl,fun b hb=>by
      rcases eo b hb with⟨g,_⟩|⟨g,_⟩|⟨_,j,rfl,g⟩
      ·cases g
      ·cases g
      ·injection g with g _;rw[g];exact⟨rfl,rfl⟩⟩
    |false=>exact⟨_,rfl,bad ⟨fun h=>(by cases h.1),fun h=>(by cases h.1),(fun⟨_,i,h⟩=>by rw[h]at hlen;cases hlen)⟩ _⟩
  ·unfold Pp;rw[Wj,im,e,ij];refine⟨_,rfl,(0,0,[],0,0,0,0),false,_,rfl,iw _,(fun h=>by cases h),fun b hb=>?_⟩;exfalso;rcases hb with⟨d,l,rfl,hd,ep,TW,hW⟩|⟨i,rfl,hi,hW⟩|⟨p,q,m,rfl,hp,hq,hm,hW⟩|⟨m,rfl,hm,hW⟩
   ·injection hW with hW _
    rcases hk with rfl|rfl|rfl<;>cases hW
   ·injection hW with hW fE
    exact h2 [i] (by simp;omega) fE
   ·injection hW with hW fE
    exact h2 [p,q,m] (by simp;omega) fE
   ·injection hW with hW fE
    exact h2 [m] (by simp;omega) fE
theorem QY{v w:Int}(h0:0≤v)(h1:v≤999999)(g0:0≤w)(g1:w≤999999)(h:tx v=tx w):v=w:=by
 have a:=QT v h0 h1;rw[h,QT w g0 g1]at a;injection a with a _
 exact a.symm
theorem RJ:∀ {l m:List (Int×Int)},(∀x∈l,P0 x)→(∀x∈m,P0 x)→l.map PU=m.map PU→l=m
 | [],[],_,_,_=>rfl
 | [],_::_,_,_,h=>by cases h
 |_::_,[],_,_,h=>by cases h
 |x::l,y::m,hl,hm,h=>by
  rw[iR,iR]at h;injection h with h1 h2
  have h1:=congrArg (QH 58) h1;rw[QC,QC]at h1;injection h1 with a1 h1
  injection h1 with a2 _
  have i:=hl x gi;have j:=hm y gi;unfold P0 at i j;have e1:=QY (by omega) (by omega) (by omega) (by omega) a1;have e2:=QY (by omega) (by omega) (by omega) (by omega) a2;rw[RJ (fun z hz=>hl z (gO _ hz)) (fun z hz=>hm z (gO _ hz)) h2,Prod.ext e1 e2]
theorem Re{W:List (List UInt8)}{a b:R1}(h:Qi W a)(g:Qi W b):a=b:=by
 rcases h with⟨d,l,rfl,hd,ep,TW,hW⟩|⟨i,rfl,hi,hW⟩|⟨p,q,m,rfl,hp,hq,hm,hW⟩|⟨m,rfl,hm,hW⟩<;>rcases g with⟨d',l',rfl,hd',hll',Xi,UY⟩|⟨i',rfl,U3,UY⟩|⟨p',q',m',rfl,Xq,YR,U5,UY⟩|⟨m',rfl,U5,UY⟩<;>rw[hW]at UY<;>injection UY with hw UY
 ·injection UY with h1 h2
  rw[QY (by omega) (by omega) (by omega) (by omega) h1,RJ TW Xi h2]
 ·cases hw
 ·cases hw
 ·cases hw
 ·cases hw
 ·injection UY with h1 _
  rw[QY (by omega) (by omega) (by omega) (by omega) h1]
 ·cases hw
 ·cases hw
 ·cases hw
 ·cases hw
 ·injection UY with h1 UY
  injection UY with h2 UY
  injection UY with h3 _
  rw[QY (by omega) (by omega) (by omega) (by omega) h1,QY (by omega) (by omega) (by omega) (by omega) h2,QY (by omega) (by omega) (by omega) (by omega) h3]
 ·cases hw
 ·cases hw
 ·cases hw
 ·cases hw
 ·injection UY with h1 _
  rw[QY (by omega) (by omega) (by omega) (by omega) h1]
theorem Rm{n:Nat}(hn:QM≤n){s:List UInt8}{r t:Int×Int×List (Int×Int)×Int×Int×Int×Int×Bool}(h:Qy n s r)(g:Qy n s t):r=t:=by
 rcases h with⟨a,ha,hs,rfl⟩|⟨dD,rfl⟩<;>rcases g with⟨b,hb,X7,rfl⟩|⟨Wu,rfl⟩
 ·rw[Re (Qj hn ha hs) (Qj hn hb X7)]
 ·exact(Wu a ha hs).elim
 ·exact(dD b hb X7).elim
 ·rfl
theorem Qe(v:Int)(h0:0≤v)(h1:v≤9999):(tx v).length≤4:=Qw 3 v.toNat (by omega)
theorem Q8:∀l:List (Int×Int),(∀x∈l,P0 x)→(l.flatMap Pq).length≤10*l.length
 | [],_=>by simp
 |x::l,h=>by
  have i:=h x gi;unfold P0 at i;have:=Q8 l fun z hz=>h z (gO _ hz);have a:=Qe x.1 (by omega) (by omega);have b:=Qe x.2 (by omega) (by omega);have e:(Pq x).length=(tx x.1).length+(tx x.2).length+2:=by simp[Pq];omega
  rw[gx,iD,iU];omega
theorem RI{w:List UInt8}{W:List (List UInt8)}{a:R1}(h:Qi (w::W) a):W≠[]∧(Pe 32 W).length≤200:=by
 rcases h with⟨d,l,rfl,hd,ep,TW,hW⟩|⟨i,rfl,hi,hW⟩|⟨p,q,m,rfl,hp,hq,hm,hW⟩|⟨m,rfl,hm,hW⟩<;>injection hW with _ hW<;>subst hW
 ·refine⟨by simp,?_⟩;rw[Qh,iD];have a:=Qe d (by omega) (by omega);have b:=Q8 l TW;omega
 ·exact⟨by simp,by have:=QA i (by omega) (by omega);show(tx i).length≤200;omega⟩
 ·refine⟨by simp,?_⟩;have a:=Qe p (by omega) (by omega);have b:=Qe q (by omega) (by omega);have c:=Qe m (by omega) (by omega);simp only[Pe,iD,iU];omega
 ·exact⟨by simp,by have:=QA m (by omega) (by omega);show(tx m).length≤200;omega⟩
theorem RO(s:List UInt8)(c:UInt8)(h:s.length<4294967281):splitN s [c]=some (Go.Lib.split s [c]):=by unfold splitN;rw[decide_eq_true h];rfl
theorem Qd(k:Int)(hk:k=1∨k=2∨k=3∨k=4){s:List UInt8}{W:List (List UInt8)}(hs:QH 32 s=wd k::W)(hW:W≠[])(n:Nat)(hn:QM≤n):
  ∃r,((show Option Bool from bif !true then some true else some (decide (((Pe 32 W).length:Int)>200))).bind fun x2=>bif x2 then some (0,0,([]:List (Int×Int)),0,0,0,0,false)else
   (splitN (Pe 32 W) [32]).bind fun x3=>(Pp n k 0 [] 0 0 0 0 x3).bind fun x4=>(show Option Bool from bif !x4.2.2.2.2.2.2.2.1 then some true else(Pv n x4.1 x4.2.1 x4.2.2.1 x4.2.2.2.1 x4.2.2.2.2.1 x4.2.2.2.2.2.1 x4.2.2.2.2.2.2.1).bind fun x5=>some !x5).bind fun x6=>
    bif x6 then some (0,0,([]:List (Int×Int)),0,0,0,0,false)else some (x4.1,x4.2.1,x4.2.2.1,x4.2.2.2.1,x4.2.2.2.2.1,x4.2.2.2.2.2.1,x4.2.2.2.2.2.2.1,true))=some r∧Qy n s r:=by
 have eo:∀a,R3 n a→s=Pe 32 (Pg a)→Qi (wd k::W) a:=fun a h1 h2=>by rw[←hs];exact Qj hn h1 h2
 rw[show(bif !true then some true else some (decide (((Pe 32 W).length:Int)>200)))=some (decide (((Pe 32 W).length:Int)>200))from rfl];show ∃r,(Option.bind (some (decide (((Pe 32 W).length:Int)>200))) _)=some r∧_;rw[ij];by_cases hlen:(Pe 32 W).length>200
 ·rw[show decide (((Pe 32 W).length:Int)>200)=true by rw[gm];omega,ik];exact⟨_,rfl,.inr ⟨fun a h1 h2=>by have:=(RI (eo a h1 h2)).2;omega,rfl⟩⟩
 rw[show decide (((Pe 32 W).length:Int)>200)=false by rw[gv];omega,im];have hp:=Rz 32 hs hW;have hl:=RB 32 (Pe 32 W);rw[hp]at hl;rw[RO _ _ (by omega),ij,Ro,hp];obtain⟨x,e,a,ok,t,rfl,XM,h1,h2⟩:=Rq k hk W hW (fun p hp=>by have:=hl.2 p hp;omega) (by omega) n hn;rw[e,ij];obtain⟨b,U9,VD⟩:=RC n hn a XM;dsimp only;cases ok with
 |false=>
  refine⟨_,rfl,.inr ⟨fun a' g1 g2=>?_,rfl⟩⟩;cases(h2 a' (eo a' g1 g2)).2
 |true=>
  rw[iz,im,VD,ij,ij];cases b with
  |false=>
   refine⟨_,rfl,.inr ⟨fun a' g1 g2=>?_,rfl⟩⟩;have:=(h2 a' (eo a' g1 g2)).1;subst this;have:=g1.2;rw[U9]at this;cases this
  |true=>
   refine⟨_,rfl,.inl ⟨a,⟨XM,U9⟩,?_,rfl⟩⟩;rw[h1 rfl,←hs,Ql]
theorem Rf(s:List UInt8)(hs:s.length≤1048576)(n:Nat)(hn:QM≤n):∃r,Pt n s=some r∧Qy n s r:=by
 obtain⟨w0,W,hW⟩:∃w0 W,QH 32 s=w0::W:=by
  cases hq:QH 32 s with
  |nil=>exact(Qp 32 s hq).elim
  |cons a b=>exact⟨a,b,rfl⟩
 obtain⟨c1,c2⟩:=Rc 32 hW;have eo:∀a,R3 n a→s=Pe 32 (Pg a)→Qi (w0::W) a:=fun a h1 h2=>by rw[←hW];exact Qj hn h1 h2
 unfold Pt;rw[Q7 s _ (by omega),ij];by_cases e:W=[]
 ·rw[(c1 e).1];dsimp only;have hz:Qy n s (0,0,[],0,0,0,0,false):=.inr ⟨fun a h1 h2=>(RI (eo a h1 h2)).1 e,rfl⟩;refine⟨_,?_,hz⟩;cases(s==[111,114,100,101,114])with
  |true=>rfl
  |false=>cases(s==[98,97,99,107])with
   |true=>rfl
   |false=>cases(s==[112,117,116])with
    |true=>rfl
    |false=>cases(s==[116,105,99,107])<;>rfl
 ·rw[c2 e];dsimp only;cases q1:(w0==[111,114,100,101,114])with
  |true=>
   have hw:=gV.1 q1;subst hw;exact Qd 1 (.inl rfl) hW e n hn
  |false=>cases q2:(w0==[98,97,99,107])with
   |true=>
    have hw:=gV.1 q2;subst hw;exact Qd 2 (.inr (.inl rfl)) hW e n hn
   |false=>cases q3:(w0==[112,117,116])with
    |true=>
     have hw:=gV.1 q3;subst hw;exact Qd 3 (.inr (.inr (.inl rfl))) hW e n hn
    |false=>cases q4:(w0==[116,105,99,107])with
     |true=>
      have hw:=gV.1 q4;subst hw;exact Qd 4 (.inr (.inr (.inr rfl))) hW e n hn
     |false=>
      refine⟨_,rfl,.inr ⟨fun a h1 h2=>?_,rfl⟩⟩;rcases eo a h1 h2 with⟨d,l,rfl,hd,ep,TW,hW⟩|⟨i,rfl,hi,hW⟩|⟨p,q,m,rfl,hp,hq,hm,hW⟩|⟨m,rfl,hm,hW⟩<;>injection hW with hW _<;>subst hW
      ·cases q1
      ·cases q2
      ·cases q3
      ·cases q4
theorem Rl(s:List UInt8)(hs:s.length≤1048576)(n:Nat)(hn:QM≤n):∃r,Pt n s=some r∧Px n s=some r∧Qy n s r:=by obtain⟨r,h1,h2⟩:=Rf s (by omega) n hn;obtain⟨t,h3,h4⟩:=Rn s hs n hn;rw[Rm hn h2 h4]at h1;exact⟨t,h1,h3,h4⟩
theorem QI(s:List UInt8)(h:SW s):∃n,Pw n s=some true:=by
 refine⟨QM,?_⟩;have hB:=gk QM;unfold Pw;by_cases hl:1048576<s.length
 ·rw[show decide ((s.length:Int)>1048576)=true by rw[gm];omega];rfl
 rw[show decide ((s.length:Int)>1048576)=false by rw[gv];omega,im];obtain⟨r,h1,h2,h3⟩:=Rl s (by omega) QM hB
 obtain⟨a,ok,rfl,ha⟩:∃(a:R1) (ok:Bool),r=(a.1,a.2.1,a.2.2.1,a.2.2.2.1,a.2.2.2.2.1,a.2.2.2.2.2.1,a.2.2.2.2.2.2,ok)∧Qq a:=by
  rcases h3 with⟨a,ha,_,rfl⟩|⟨_,rfl⟩
  ·exact⟨a,true,rfl,ha.1⟩
  ·exact⟨(0,0,[],0,0,0,0),false,rfl,iw _⟩
 obtain⟨k',b2,m1,m2,m3,m4,m5⟩:=Qv a ha 1 (by omega) (by omega) QM hB;have e:=Q6 a ha QM hB;have hk:decide (k'<0)=false:=by simp;omega
 simp only[h1,h2,ij,e,m1,m5,hk,iz,im,bne_self_eq_false]
end Go.Ev.N
