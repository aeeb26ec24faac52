/- FnSafe,as a plain law lJ native forms: what the program's function answers is what the reference's answers. Conditions: none but the lengths' and numbers' bounds. -/
import Derived.Test.YtccgnkaemdnniaaGreatFnSafeNat
set_option linter.all false
namespace Go.Ev.N
open Go Go.Ev
theorem ABT:type_of% @Option.bind_some:=@Option.bind_some
theorem ABU:type_of% @cond_true:=@cond_true
theorem ABV:type_of% @cond_false:=@cond_false
theorem ABW:type_of% @List.getElem_mem:=@List.getElem_mem
theorem ABX:type_of% @Int.toNat_natCast:=@Int.toNat_natCast
theorem ABY:type_of% @List.mem_iff_getElem:=@List.mem_iff_getElem
theorem ABZ:type_of% @decide_eq_true:=@decide_eq_true
theorem ABa:type_of% @beq_eq_false_iff_ne:=@beq_eq_false_iff_ne
theorem ABb:type_of% @List.length_singleton:=@List.length_singleton
theorem ABc:type_of% @Bool.not_true:=@Bool.not_true
theorem ABd:type_of% @decide_eq_false:=@decide_eq_false
theorem ABe:type_of% @List.take_succ_eq_append_getElem:=@List.take_succ_eq_append_getElem
theorem ABf:type_of% @Nat.lt_trichotomy:=@Nat.lt_trichotomy
theorem ABg:type_of% @List.getElem?_modify:=@List.getElem?_modify
theorem ABh:type_of% @List.drop_eq_getElem_cons:=@List.drop_eq_getElem_cons
theorem ABi:type_of% @List.pairwise_map:=@List.pairwise_map
theorem ABj:type_of% @Bool.not_eq_true:=@Bool.not_eq_true
theorem ABk:type_of% @List.pairwise_append:=@List.pairwise_append
theorem ABl:type_of% @List.mem_of_find?_eq_some:=@List.mem_of_find?_eq_some
theorem ABm:type_of% @List.pairwise_cons:=@List.pairwise_cons
theorem ABn:type_of% @List.mem_of_mem_erase:=@List.mem_of_mem_erase
theorem ABo:type_of% @List.append_assoc:=@List.append_assoc
theorem ABp:type_of% @Bool.not_false:=@Bool.not_false
theorem ABq:type_of% @List.mem_filter:=@List.mem_filter
theorem ABr:type_of% @List.getElem_map:=@List.getElem_map
theorem ABs:type_of% @List.length_filter_le:=@List.length_filter_le
theorem ABt:type_of% @Bool.true_and:=@Bool.true_and
theorem ABu:type_of% @List.filter_cons:=@List.filter_cons
theorem ABv:type_of% @List.ext_getElem?:=@List.ext_getElem?
theorem ABw:type_of% @Bool.eq_iff_iff:=@Bool.eq_iff_iff
theorem ABx:type_of% @Bool.false_and:=@Bool.false_and
theorem ABy:type_of% @List.append_nil:=@List.append_nil
theorem ABz:type_of% @bne_iff_ne:=@bne_iff_ne
theorem AB0:type_of% @Int.add_assoc:=@Int.add_assoc
theorem AB1:type_of% @List.map_congr_left:=@List.map_congr_left
theorem AB2:type_of% @List.getElem_of_mem:=@List.getElem_of_mem
theorem AB3:type_of% @Int.zero_add:=@Int.zero_add
theorem AB4:type_of% @List.range_succ:=@List.range_succ
theorem AB5:type_of% @List.singleton_append:=@List.singleton_append
theorem AB6:type_of% @beq_self_eq_true:=@beq_self_eq_true
theorem AB7:type_of% @Nat.le_add_right:=@Nat.le_add_right
theorem AB8:type_of% @List.nodup_range:=@List.nodup_range
theorem AB9:type_of% @List.ext_getElem:=@List.ext_getElem
theorem ACA:type_of% @List.Pairwise.imp_of_mem:=@List.Pairwise.imp_of_mem
theorem ACB:type_of% @List.take_of_length_le:=@List.take_of_length_le
theorem ACC:type_of% @List.set_append_right:=@List.set_append_right
theorem ACD:type_of% @Bool.and_eq_false_iff:=@Bool.and_eq_false_iff
theorem ACE:type_of% @Bool.and_true:=@Bool.and_true
theorem ACF:type_of% @List.replicate_succ':=@List.replicate_succ'
theorem ACG:type_of% @List.mem_of_mem_take:=@List.mem_of_mem_take
theorem ACH:type_of% @List.find?_some:=@List.find?_some
theorem ACI:type_of% @List.find?_eq_none:=@List.find?_eq_none
theorem ACJ:type_of% @Int.le_refl:=@Int.le_refl
theorem ACK:type_of% @Bool.and_self:=@Bool.and_self
theorem PC{n:Int}(h1 : -9223372036854775808≤n)(h2:n≤9223372036854775807):O9 n=n:=by unfold O9 IntKind.wrap;simp only[IntKind.bits,IntKind.signed];grind
theorem O5{i m:Nat}(h:i<m)(hm:m≤9223372036854775807):O9 ((i:Int)+1)=((i+1:Nat):Int):=by rw[PC (by omega) (by omega)];omega
theorem TA{α:Type}(xs:List α)(i:Nat):M8 xs (i:Int)=xs[i]?:=by unfold M8;grind
theorem O6{α:Type}{xs:List α}{i:Nat}(h:i<xs.length):M8 xs (i:Int)=some xs[i]:=by rw[TA];grind
theorem kz{α:Type}(xs:List α)(i:Nat):Ob xs (i:Int)=decide (i<xs.length):=by unfold Ob;grind
theorem PA{α:Type}{xs:List α}{i:Nat}(h:i<xs.length):Ob xs (i:Int)=true:=by rw[kz];simpa using h
theorem Pw{α:Type}(l:List α)(n:Nat)(y:α):Cb l n y=l.set n y:=Bl l n y
def r6{α:Type}(p:α→Prop)(x:List α):Prop:=List.length x≤maxLen∧∀y,List.Mem y x→p y
section
variable {α γ σ β:Type}
theorem Rp{f:α→Option (α⊕γ)}{x y:α}(h:f x=some (.inl y))(n:Nat):iter (n+1) f x=iter n f y:=by simp[iter,h]
theorem Pj{f:α→Option (α⊕γ)}{x:α}{z:γ}(h:f x=some (.inr z))(n:Nat):iter (n+1) f x=some z:=by simp[iter,h]
theorem Ph(f:α→Option (α⊕γ))(st:Nat→α)(m:Nat)(r:γ)(hs:∀i,i<m→f (st i)=some (.inl (st (i+1))))(he:f (st m)=some (.inr r)):∀n,m<n→iter n f (st 0)=some r:=by
 have key:∀d i n,i+d=m→d<n→iter n f (st i)=some r:=by
  intro d
  induction d with
  |zero=>
   intro i n hi hn;obtain⟨n,rfl⟩:∃k,n=k+1:=⟨n-1,by omega⟩;have:i=m:=by omega
   subst this;exact Pj he n
  |succ d ih=>
   intro i n hi hn;obtain⟨n,rfl⟩:∃k,n=k+1:=⟨n-1,by omega⟩;rw[Rp (hs i (by omega)) n];exact ih (i+1) n (by omega) (by omega)
 grind
theorem PQ(f:α→Option (α⊕γ))(st:Nat→σ→α)(xs:List β)(G:List β→σ→γ)(Inv:Nat→σ→Prop)
  (hend:∀s,Inv xs.length s→f (st xs.length s)=some (.inr (G [] s)))
  (hstep:∀i x l s,i<xs.length→xs[i]?=some x→xs.drop i=x::l→xs.drop (i+1)=l→Inv i s→(∃s',f (st i s)=some (.inl (st (i+1) s'))∧Inv (i+1) s'∧G (x::l) s=G l s')∨f (st i s)=some (.inr (G (x::l) s))):
  ∀n,xs.length<n→∀s,Inv 0 s→iter n f (st 0 s)=some (G xs s):=by
 have key:∀d i n s,i+d=xs.length→d<n→Inv i s→iter n f (st i s)=some (G (xs.drop i) s):=by
  intro d
  induction d with
  |zero=>
   intro i n s hi hn hI;obtain⟨n,rfl⟩:∃k,n=k+1:=⟨n-1,by omega⟩;have:i=xs.length:=by omega
   subst this;rw[Pj (hend s hI) n,List.drop_length]
  |succ d ih=>
   intro i n s hi hn hI;obtain⟨n,rfl⟩:∃k,n=k+1:=⟨n-1,by omega⟩;have tX:i<xs.length:=by omega
   have hd:xs.drop i=xs[i]::xs.drop (i+1):=ABh tX;rcases hstep i xs[i] (xs.drop (i+1)) s tX (AAF tX) hd rfl hI with⟨s',h1,h2,h3⟩|h1
   ·rw[Rp h1 n,ih (i+1) n s' (by omega) (by omega) h2,hd,h3]
   ·rw[Pj h1 n,hd]
 grind
theorem WG(f:Int→Option (Int⊕γ))(xs:List β)(G:List β→List β→γ)(hend:f (xs.length:Int)=some (.inr (G xs [])))
  (hstep:∀i x l p,i<xs.length→xs[i]?=some x→xs=p++x::l→p.length=i→p=xs.take i→(f (i:Int)=some (.inl ((i+1:Nat):Int))∧G p (x::l)=G (p++[x]) l)∨f (i:Int)=some (.inr (G p (x::l)))):
  ∀n,xs.length<n→iter n f 0=some (G [] xs):=by
 intro n hn;refine PQ (σ:=List β) f (fun i _=>(i:Int)) xs (fun l p=>G p l) (fun i p=>p=xs.take i) (fun s hs=>?_) (fun i x l s h1 h2 h3 h4 h5=>?_) n hn [] (by simp)
 ·grind
 ·have hlen:s.length=i:=by rw[h5];simp;omega
  have hx:xs=s++x::l:=by rw[←h3,h5,List.take_append_drop]
  grind
end
theorem Q4{β:Type}(f:Int→Option (Int⊕(Int⊕Bool)))(xs:List β)(P:β→Bool)(hs:∀(i:Nat)(x:β),i<xs.length→xs[i]?=some x→f (i:Int)=some (bif P x then .inl ((i+1:Nat):Int)else .inr (.inr false)))
  (he:f (xs.length:Int)=some (.inr (.inl (xs.length:Int)))):∀n,xs.length<n→iter n f 0=some (bif xs.all P then .inl (xs.length:Int)else .inr false):=by
 intro n hn;refine WG f xs (fun p l=>bif l.all P then .inl (xs.length:Int)else .inr false) ?_ ?_ n hn
 all_goals grind
theorem ic{α:Type}(b:Bool)(x y:α):(bif b then some x else some y)=some (bif b then x else y):=by grind
def PD:Nat:=18446744073709551616
theorem b9{α:Type}(xs:List α)(i:Nat)(f:α→α)(h:i<xs.length):List.modify xs i f=xs.set i (f xs[i]):=by
 apply AB9
 all_goals grind
def fX(a:List (Int×Int)):Prop:=a.length≤1048576
def fY(a:List (Int×Int×Int)):Prop:=a.length≤1048576
def Zc(a:Int×Int×(List (Int×Int))×(List (Int×Int×Int))×Int):Prop:=fX a.2.2.1∧fY a.2.2.2.1
def jT(a:List (Int×Int×(List (Int×Int))×(List (Int×Int×Int))×Int)):Prop:=a.length≤1048576∧∀y∈a,Zc y
def QZ(a:Int×(List (Int×Int×(List (Int×Int))×(List (Int×Int×Int))×Int))):Prop:=jT a.2
def eM(a:List Int):Prop:=a.length≤1048576
def kU(a:Int×Int×(List Int)):Prop:=eM a.2.2
def jV(a:List (Int×Int×Int)):Prop:=a.length≤1048576
def me(a:Int×Int×(List (Int×Int×Int))):Prop:=jV a.2.2
def PU(a:List (Int×Int×(List (Int×Int×Int)))):Prop:=a.length≤1048576∧∀y∈a,me y
def kV(a:(List (Int×Int×(List (Int×Int×Int))))):Prop:=PU a
def jU(a:List (Int×Int×Int×Bool×Int)):Prop:=a.length≤1048576
def kW(a:List (Int×Int×Int×Int)):Prop:=a.length≤1048576
def WY(a:Int×Int×(List Int)×(List (Int×Int×(List (Int×Int×Int))))×Int×(List (Int×Int×(List (Int×Int))×(List (Int×Int×Int))×Int))×(List (Int×Int×Int×Bool×Int))×(List (Int×Int×Int×Int))×(List Int)×(List Int)×Int):Prop:=kU (a.1,a.2.1,a.2.2.1)∧kV a.2.2.2.1∧QZ (a.2.2.2.2.1,a.2.2.2.2.2.1)∧jU a.2.2.2.2.2.2.1∧kW a.2.2.2.2.2.2.2.1∧eM a.2.2.2.2.2.2.2.2.1∧eM a.2.2.2.2.2.2.2.2.2.1
theorem R3{m:Nat}(h:m≤1048576):decide (m+1≤Dh)=true:=by have hm:Dh=68719476736:=rfl;grind
theorem UL{m:Nat}(h:m≤1048576):decide (m≤Dh)=true:=by have hm:Dh=68719476736:=rfl;grind
theorem jx{α γ:Type}(f g:α→Option (α⊕γ))(I:Nat→α→Prop)(Q:γ→Prop)(m:Nat)
  (h:∀i x,i≤m→I i x→g x=f x∧((∃y,f x=some (.inl y)∧I (i+1) y∧i<m)∨∃r,f x=some (.inr r)∧Q r)):
  ∀n,m<n→∀x,I 0 x→iter n g x=iter n f x∧∃r,iter n f x=some r∧Q r:=by
 have key:∀d i n x,i+d=m→d<n→I i x→iter n g x=iter n f x∧∃r,iter n f x=some r∧Q r:=by
  intro d
  induction d with
  |zero=>
   intro i n x hi hn hI;obtain⟨n,rfl⟩:∃k,n=k+1:=⟨n-1,by omega⟩;obtain⟨e,h1|⟨r,h1,h2⟩⟩:=h i x (by omega) hI
   ·obtain⟨y,_,_,tX⟩:=h1;omega
   ·exact⟨by rw[Pj h1 n,Pj (e.trans h1) n],r,Pj h1 n,h2⟩
  |succ d ih=>
   intro i n x hi hn hI;obtain⟨n,rfl⟩:∃k,n=k+1:=⟨n-1,by omega⟩;obtain⟨e,⟨y,h1,h2,_⟩|⟨r,h1,h2⟩⟩:=h i x (by omega) hI
   ·obtain⟨j1,j2⟩:=ih (i+1) n y (by omega) (by omega) h2;rw[Rp h1 n,Rp (e.trans h1) n];exact⟨j1,j2⟩
   ·exact⟨by rw[Pj h1 n,Pj (e.trans h1) n],r,Pj h1 n,h2⟩
 grind
theorem a7(a:B2)(h:a.2.2.2.1.length≤1048576)(c:Int)(n:Nat)(hn:PD≤n):Vy n a.1 a.2.1 a.2.2.1 a.2.2.2.1 a.2.2.2.2 c=some (a.2.2.2.1.filter fun x=>x.1==c):=by
 have hc:=PQ (σ:=List D2) (R5 a.2.2.2.1 c) (fun i s=>(s,(i:Int))) a.2.2.2.1 (fun l s=>(s++l.filter fun x=>x.1==c,(a.2.2.2.1.length:Int))) (fun i s=>s.length≤i)
  (fun s hs=>by simp[R5])
  (fun i x l s h1 h2 h3 h4 h5=>by
   left;have hx:a.2.2.2.1[i]=x:=by rw[AAF h1]at h2;exact Option.some.inj h2
   have hr:decide (s.length+1≤Dh)=true:=R3 (by omega);cases hq:x.1==c with
   |true=>exact⟨s++[x],by simp[R5,h1,O6 h1,hx,hq,O5 h1 (by omega),hr],by simp;omega,by simp[hq]⟩
   |false=>exact⟨s,by simp[R5,h1,O6 h1,hx,hq,O5 h1 (by omega)],by omega,by simp[hq]⟩)
  n (by unfold PD at hn;omega) [] (AAd _)
 unfold Vy;grind
theorem aj(a:B2)(h:a.2.2.2.1.length≤1048576)(c:Int)(n:Nat)(hn:PD≤n):Vo n a.1 a.2.1 a.2.2.1 a.2.2.2.1 a.2.2.2.2 c=some (a.2.2.2.1.filter fun x=>x.1==c):=by
 have hc:=PQ (σ:=List D2) (Rz a.2.2.2.1 c) (fun i s=>(s,(i:Int))) a.2.2.2.1 (fun l s=>(s++l.filter fun x=>x.1==c,(a.2.2.2.1.length:Int))) (fun i s=>s.length≤i)
  (fun s hs=>by simp[Rz])
  (fun i x l s h1 h2 h3 h4 h5=>by
   left;have hx:a.2.2.2.1[i]=x:=by rw[AAF h1]at h2;exact Option.some.inj h2
   have hr:decide (s.length+1≤Dh)=true:=R3 (by omega);cases hq:x.1==c with
   |true=>exact⟨s++[x],by simp[Rz,h1,O6 h1,hx,hq,O5 h1 (by omega),hr],by simp;omega,by simp[hq]⟩
   |false=>exact⟨s,by simp[Rz,h1,O6 h1,hx,hq,O5 h1 (by omega)],by omega,by simp[hq]⟩)
  n (by unfold PD at hn;omega) [] (AAd _)
 unfold Vo;grind
def r7(x:Int):Prop:=IntKind.min .u8≤x∧x≤IntKind.max .u8
theorem ZL(x:Int):0≤OK .i64 x 255∧OK .i64 x 255≤255:=by
 unfold OK
 have h:(BitVec.ofInt (IntKind.bits .i64) x &&& BitVec.ofInt (IntKind.bits .i64) 255).toNat≤255:=by
  rw[BitVec.toNat_and];have:(BitVec.ofInt (IntKind.bits .i64) 255).toNat=255:=by decide
  rw[this];exact Nat.and_le_right
 generalize (BitVec.ofInt (IntKind.bits .i64) x &&& BitVec.ofInt (IntKind.bits .i64) 255).toNat=m at h;have:IntKind.wrap .i64 (m:Int)=(m:Int):=PC (by omega) (by omega);omega
theorem Z0(b:List Int)(i h:Int)(hi:0≤i)(hb:b.length≤1048576):∃x i' h':Int,Sg b i h=some (x,b,i',h')∧0≤x∧x≤255∧0≤i':=by
 unfold Sg;rw[show decide ((0:Nat)≤33)=true from rfl,show decide ((0:Nat)≤47)=true from rfl];simp only[ABU];by_cases hl:i<(b.length:Int)
 ·obtain⟨j,rfl⟩:∃j:Nat,i=(j:Int):=⟨i.toNat,by omega⟩;have hj:j<b.length:=by omega
  rw[show decide ((j:Int)<(b.length:Int))=true by grind,ABU,O6 hj];simp only[ABT];refine⟨_,_,_,rfl,(ZL _).1,(ZL _).2,?_⟩;rw[O5 hj (by omega)];omega
 ·rw[show decide (i<(b.length:Int))=false by grind,ABV];simp only[ABT];exact⟨_,_,_,rfl,(ZL _).1,(ZL _).2,hi⟩
theorem br(b:List Int)(i h:Int)(hi:0≤i)(hb:b.length≤1048576)(n:Int):∃x i' h':Int,PN b i h n=some (x,b,i',h')∧0≤i'∧0≤x∧(x<n∨n≤0∧x=0):=by
 unfold PN;by_cases h0:n≤0
 ·rw[show decide (n≤0)=true by simpa using h0,ABU];grind
 rw[show decide (n≤0)=false by grind,ABV];have hz:(n==0)=false:=by rw[←ABj];simp;omega
 rw[hz]
 have fin:∀x:Int,0≤x→0≤Int.tmod x n∧Int.tmod x n<n:=fun x hx=>by rw[Int.tmod_eq_emod_of_nonneg hx];exact⟨Int.emod_nonneg _ (by omega),Int.emod_lt_of_pos _ (by omega)⟩
 obtain⟨x,i1,h1,e1,x0,x1,j1⟩:=Z0 b i h hi hb;rw[e1];simp only[ABT,ABV];by_cases h2:n≤256
 ·grind
 rw[show decide (n≤256)=false by grind,ABV];obtain⟨y,i2,wO,e2,y0,y1,j2⟩:=Z0 b i1 h1 j1 hb;rw[e2];simp only[ABT];obtain⟨z,i3,h3',e3,z0,z1,j3⟩:=Z0 b i2 wO j2 hb;rw[e3];simp only[ABT];rw[PC (n:=x*65536) (by omega) (by omega),PC (n:=y*256) (by omega) (by omega),PC (n:=x*65536+y*256) (by omega) (by omega),PC (n:=x*65536+y*256+z) (by omega) (by omega)];exact⟨_,_,_,rfl,j3,(fin _ (by omega)).1,.inl (fin _ (by omega)).2⟩
theorem jz(a:List Int)(ha:a.length≤1048576)(n:Nat)(hn:PD≤n):∃h:Int,Xs n a=some (a,0,h):=by
 obtain⟨_,r,e,_⟩:=jx (α:=Int×Int) (γ:=Int×Int) (VK a) (VK a) (fun i x=>x.2=(i:Int)) (fun _=>True) a.length (fun i x hi hI=>by
  refine⟨rfl,?_⟩;obtain⟨h,k⟩:=x;dsimp only at hI;subst hI;unfold VK;dsimp only;by_cases hl:i<a.length
  ·rw[show decide ((i:Int)<(a.length:Int))=true by simp;omega,ABU];simp only[ABT];cases decide ((i:Int)<4000)with
   |false=>grind
   |true=>
    rw[ABU,O6 hl];exact .inl ⟨_,rfl,O5 hl (by omega),hl⟩
  ·rw[show decide ((i:Int)<(a.length:Int))=false by simp;omega];exact .inr ⟨_,rfl,trivial⟩) n (by unfold PD at hn;omega) (O9 (275275+(a.length:Int)),0) rfl
 unfold Xs;rw[e];exact⟨r.1,rfl⟩
theorem iy(a:List Int)(ha:a.length≤1048576)(m:Int)(hm:0≤m):∃r:Int,W0 a m=some r∧0≤r∧r≤m:=by
 unfold W0;have e:Int.tdiv (a.length:Int) 12=((a.length / 12:Nat):Int):=by rw[Int.tdiv_eq_ediv_of_nonneg (by omega)];omega
 rw[e,PC (n:=((a.length / 12:Nat):Int)) (by omega) (by omega),PC (n:=3+((a.length / 12:Nat):Int)) (by omega) (by omega)];by_cases h:3+((a.length / 12:Nat):Int)>m
 ·rw[show decide (3+((a.length / 12:Nat):Int)>m)=true by simpa using h];grind
 ·rw[show decide (3+((a.length / 12:Nat):Int)>m)=false by simpa using h];grind
theorem dW{β:Type}(f:Int→Option (Int⊕(Int⊕Int)))(xs:List β)(P:β→Bool)(hs:∀(i:Nat)(x:β),i<xs.length→xs[i]?=some x→f (i:Int)=some (bif P x then .inr (.inr (i:Int))else .inl ((i+1:Nat):Int)))
  (he:f (xs.length:Int)=some (.inr (.inl (xs.length:Int)))):∀n,xs.length<n→iter n f 0=some (.inl (xs.length:Int))∨∃i,∃h:i<xs.length,P xs[i]=true∧iter n f 0=some (.inr (i:Int)):=by
 have key:∀d i n,i+d=xs.length→d<n→iter n f (i:Int)=some (.inl (xs.length:Int))∨∃j,∃h:j<xs.length,P xs[j]=true∧iter n f (i:Int)=some (.inr (j:Int)):=by
  intro d
  induction d with
  |zero=>
   intro i n hi hn;obtain⟨n,rfl⟩:∃k,n=k+1:=⟨n-1,by omega⟩;have:i=xs.length:=by omega
   subst this;exact .inl (Pj he n)
  |succ d ih=>
   intro i n hi hn;obtain⟨n,rfl⟩:∃k,n=k+1:=⟨n-1,by omega⟩;have tX:i<xs.length:=by omega
   have hf:=hs i xs[i] tX (AAF tX);cases hp:P xs[i]with
   |true=>rw[hp,ABU]at hf;exact .inr ⟨i,tX,hp,Pj hf n⟩
   |false=>rw[hp,ABV]at hf;rw[Rp hf n];exact ih (i+1) n (by omega) (by omega)
 grind
theorem ZD:Qe=Qi:=rfl
theorem YU(a:B2)(h:Zc a):Pn a.1 a.2.1 a.2.2.1 a.2.2.2.1 a.2.2.2.2=some a:=by obtain⟨h1,h2⟩:=h;unfold Pn;simp[UL h1,UL h2]
theorem UH(a:B2)(h:Zc a):RQ a.1 a.2.1 a.2.2.1 a.2.2.2.1 a.2.2.2.2=some a:=by obtain⟨h1,h2⟩:=h;unfold RQ QE WT;simp[UL h1,UL h2]
abbrev mI:=Int×Int×(List Int)×(List (Int×Int×(List D2)))×Int×(List B2)×(List (Int×Int×Int×Bool×Int))×(List (Int×Int×Int×Int))×(List Int)×(List Int)×Int
theorem eN(t:List (Int×Int×Int×Int))(h:t.length≤1048576)(o:B2)(n:Nat)(hn:PD≤n):iter n (UQ t o) (false,0)=some (t.any fun x=>x.1==o.1,(t.length:Int)):=by
 have hc:=PQ (σ:=Bool) (UQ t o) (fun i s=>(s,(i:Int))) t (fun l s=>(s||l.any fun x=>x.1==o.1,(t.length:Int))) (fun _ _=>True)
  (fun s hs=>by simp[UQ])
  (fun i x l s h1 h2 h3 h4 h5=>by
   left;have hx:t[i]=x:=by rw[AAF h1]at h2;exact Option.some.inj h2
   refine⟨s||x.1==o.1,?_,trivial,by simp[Bool.or_assoc]⟩;simp only[UQ,O6 h1,hx,ABT,O5 h1 (by omega)];rw[show decide ((i:Int)<(t.length:Int))=true by simpa using h1];cases s<;>rfl)
  n (by unfold PD at hn;omega) false trivial
 grind
def bT(t:List (Int×Int×Int×Int))(o:B2):Bool := !((t.any fun x=>x.1==o.1) != (o.2.2.2.2==1))
theorem eO(a:mI)(h:WY a)(n:Nat)(hn:PD≤n):Yj n a.1 a.2.1 a.2.2.1 a.2.2.2.1 a.2.2.2.2.1 a.2.2.2.2.2.1 a.2.2.2.2.2.2.1 a.2.2.2.2.2.2.2.1 a.2.2.2.2.2.2.2.2.1 a.2.2.2.2.2.2.2.2.2.1 a.2.2.2.2.2.2.2.2.2.2=some (a.2.2.2.2.2.1.all (bT a.2.2.2.2.2.2.2.1)):=by
 have hl:a.2.2.2.2.2.1.length≤1048576:=h.2.2.1.1;have ht:a.2.2.2.2.2.2.2.1.length≤1048576:=h.2.2.2.2.1
 have:=Q4 (Vw n a.2.2.2.2.2.1 a.2.2.2.2.2.2.2.1) a.2.2.2.2.2.1 (bT a.2.2.2.2.2.2.2.1) (fun i x h1 h2=>by
  have hx:a.2.2.2.2.2.1[i]=x:=by rw[AAF h1]at h2;exact Option.some.inj h2
  simp only[Vw,O6 h1,hx,ABT,O5 h1 (by omega),eN _ ht x n hn,bT];rw[show decide ((i:Int)<(a.2.2.2.2.2.1.length:Int))=true by simpa using h1];cases((a.2.2.2.2.2.2.2.1.any fun y=>y.1==x.1) != (x.2.2.2.2==1))<;>rfl) (by simp[Vw]) n (by unfold PD at hn;omega)
 unfold Yj;grind
theorem eA(t:List (Int×Int×Int×Int))(h:t.length≤1048576)(o:B2)(n:Nat)(hn:PD≤n):iter n (UC t o) (false,0)=some (t.any fun x=>x.1==o.1,(t.length:Int)):=by
 have hc:=PQ (σ:=Bool) (UC t o) (fun i s=>(s,(i:Int))) t (fun l s=>(s||l.any fun x=>x.1==o.1,(t.length:Int))) (fun _ _=>True)
  (fun s hs=>by simp[UC])
  (fun i x l s h1 h2 h3 h4 h5=>by
   left;have hx:t[i]=x:=by rw[AAF h1]at h2;exact Option.some.inj h2
   refine⟨s||x.1==o.1,?_,trivial,by simp[Bool.or_assoc]⟩;simp only[UC,O6 h1,hx,ABT,O5 h1 (by omega)];rw[show decide ((i:Int)<(t.length:Int))=true by simpa using h1];cases s<;>rfl)
  n (by unfold PD at hn;omega) false trivial
 grind
theorem eB(a:mI)(h:WY a)(n:Nat)(hn:PD≤n):XM n a.1 a.2.1 a.2.2.1 a.2.2.2.1 a.2.2.2.2.1 a.2.2.2.2.2.1 a.2.2.2.2.2.2.1 a.2.2.2.2.2.2.2.1 a.2.2.2.2.2.2.2.2.1 a.2.2.2.2.2.2.2.2.2.1 a.2.2.2.2.2.2.2.2.2.2=some (a.2.2.2.2.2.1.all (bT a.2.2.2.2.2.2.2.1)):=by
 have hl:a.2.2.2.2.2.1.length≤1048576:=h.2.2.1.1;have ht:a.2.2.2.2.2.2.2.1.length≤1048576:=h.2.2.2.2.1
 have:=Q4 (Vm n a.2.2.2.2.2.1 a.2.2.2.2.2.2.2.1) a.2.2.2.2.2.1 (bT a.2.2.2.2.2.2.2.1) (fun i x h1 h2=>by
  have hx:a.2.2.2.2.2.1[i]=x:=by rw[AAF h1]at h2;exact Option.some.inj h2
  simp only[Vm,O6 h1,hx,ABT,O5 h1 (by omega),eA _ ht x n hn,bT];rw[show decide ((i:Int)<(a.2.2.2.2.2.1.length:Int))=true by simpa using h1];cases((a.2.2.2.2.2.2.2.1.any fun y=>y.1==x.1) != (x.2.2.2.2==1))<;>rfl) (by simp[Vm]) n (by unfold PD at hn;omega)
 unfold XM;grind
theorem Uf:PY=PE:=rfl
theorem lA(a b c:Int):PE a b c=some (decide (b≤a)&&decide (a≤c)):=by unfold PE;grind
theorem gH(n:Nat)(a:List (Int×Int)):Ro n a=Qh n a:=by
 have h:Vg a=P3 a:=by
  funext i;unfold Vg P3;rw[Uf];cases decide (i<(a.length:Int))with
  |false=>rfl
  |true=>
   cases hg:M8 a i with
   |none=>simp[hg]
   |some x=>simp[hg]
 unfold Ro Qh;rw[h]
theorem P0{α:Type}(f:α→Option (α⊕(α⊕Bool)))(st:Nat→α)(m:Nat)(P:Nat→Bool)(hs:∀i,i<m→f (st i)=some (bif P i then .inl (st (i+1))else .inr (.inr false)))(he:f (st m)=some (.inr (.inl (st m)))):
  ∀n,m<n→iter n f (st 0)=some (bif(List.range m).all P then .inl (st m)else .inr false):=by
 have key:∀d i n,i+d=m→d<n→iter n f (st i)=some (bif(List.range' i d).all P then .inl (st m)else .inr false):=by
  intro d
  induction d with
  |zero=>
   intro i n hi hn;obtain⟨n,rfl⟩:∃k,n=k+1:=⟨n-1,by omega⟩;have:i=m:=by omega
   subst this;rw[Pj he n];rfl
  |succ d ih=>
   intro i n hi hn;obtain⟨n,rfl⟩:∃k,n=k+1:=⟨n-1,by omega⟩;have hf:=hs i (by omega);rw[List.range'_succ,List.all_cons];cases hp:P i with
   |true=>rw[hp,ABU]at hf;rw[Rp hf n,ih (i+1) n (by omega) (by omega)];rfl
   |false=>rw[hp,ABV]at hf;rw[Pj hf n];rfl
 grind
theorem cf(f:Int→Option (Int⊕Int))(m:Nat)(P:Nat→Bool)(hs:∀i,i<m→f (i:Int)=some (bif P i then .inl ((i+1:Nat):Int)else .inr (i:Int)))(he:f (m:Int)=some (.inr (m:Int))):
  ∀n,m<n→∃j,j≤m∧iter n f 0=some (j:Int)∧(∀i,i<j→P i=true)∧(j<m→P j=false):=by
 have key:∀d i n,i+d=m→d<n→∃j,i≤j∧j≤m∧iter n f (i:Int)=some (j:Int)∧(∀q,i≤q→q<j→P q=true)∧(j<m→P j=false):=by
  intro d
  induction d with
  |zero=>
   intro i n hi hn;obtain⟨n,rfl⟩:∃k,n=k+1:=⟨n-1,by omega⟩;have:i=m:=by omega
   subst this;exact⟨i,AAd _,AAd _,Pj he n,fun q h1 h2=>by omega,fun h=>by omega⟩
  |succ d ih=>
   intro i n hi hn;obtain⟨n,rfl⟩:∃k,n=k+1:=⟨n-1,by omega⟩;have hf:=hs i (by omega);cases hp:P i with
   |true=>
    rw[hp,ABU]at hf;obtain⟨j,h1,h2,h3,h4,h5⟩:=ih (i+1) n (by omega) (by omega);refine⟨j,by omega,h2,by rw[Rp hf n];exact h3,fun q q1 q2=>?_,h5⟩;by_cases e:q=i
    ·subst e;exact hp
    ·exact h4 q (by omega) q2
   |false=>rw[hp,ABV]at hf;exact⟨i,AAd _,by omega,Pj hf n,fun q h1 h2=>by omega,fun _=>hp⟩
 intro n hn;obtain⟨j,_,h2,h3,h4,h5⟩:=key m 0 n (by omega) hn;grind
theorem Zk{β:Type}{a:List β}{i j:Nat}{y:β}(h:j<(a.take i).length)(hy:(a.take i)[j]?=some y):j<i∧∃h:j<a.length,a[j]=y:=by grind
def QS{β:Type}(key:β→Int)(a:List β)(i:Nat)(x:β):Bool:=match i with
 |0=>true
 |j+1=>match a[j]? with
  |some y => !decide (key y≥key x)
  |none=>true
theorem XD{β γ:Type}(key:β→Int)(a:List β)(x:β)(i:Nat)(hi:i<a.length)(hl:a.length≤1048576)(F:Bool→Option γ):
  (bif decide ((i:Int)>0)then(M8 a (O9 ((i:Int)-1))).bind (fun y=>F (decide (key y≥key x)))else F false)=F (!QS key a i x):=by
 cases i with
 |zero=>rfl
 |succ j=>
  have hw:O9 (((j+1:Nat):Int)-1)=(j:Int):=by rw[PC (by omega) (by omega)];omega
  rw[show decide (((j+1:Nat):Int)>0)=true by grind,ABU,hw,O6 (by omega),ABT];simp only[QS,AAF (show j<a.length by omega),Bool.not_not]
def Ps(a b c:Int):Bool:=decide (b≤a)&&decide (a≤c)
theorem P8(a b c:Int):PE a b c=some (Ps a b c):=lA a b c
def PS(w h:Int)(c:List Int):Bool:=Ps w 1 10&&Ps h 1 10&&((c.length:Int)==O9 (w*h))&&c.all fun k=>Ps k 0 4
theorem Pp(w h:Int)(c:List Int)(hl:c.length≤1048576)(n:Nat)(hn:PD≤n):Qg n w h c=some (PS w h c):=by
 have:=Q4 (Tb c) c (fun k=>Ps k 0 4) (fun i x h1 h2=>by
  have hx:c[i]=x:=by rw[AAF h1]at h2;exact Option.some.inj h2
  simp only[Tb,O6 h1,hx,ABT,O5 h1 (by omega),P8];grind) (by simp[Tb]) n (by unfold PD at hn;omega)
 unfold Qg PS;rw[this];simp only[P8,ABT,bne];cases Ps w 1 10<;>cases Ps h 1 10<;>cases((c.length:Int)==O9 (w*h))<;>cases(c.all fun k=>Ps k 0 4)<;>rfl
theorem X8:Sq=Qg:=rfl
def QC(c:List Int)(i:Int):Bool:=Ps i 0 ((c.length:Int)-1)&&(c.getD i.toNat 0 != 0)
theorem YF{c:List Int}{i:Int}(h:Ps i 0 ((c.length:Int)-1)=true):∃m:Nat,i=(m:Int)∧m<c.length:=by unfold Ps at h;simp only[AAG,AAb]at h;exact⟨i.toNat,by omega,by omega⟩
theorem cR(w h:Int)(c:List Int)(hl:c.length≤1048576)(i:Int):VY w h c i=some (QC c i):=by
 unfold VY QC;rw[show O9 ((c.length:Int)-1)=(c.length:Int)-1 from PC (by omega) (by omega)];simp only[P8,ABT];cases hb:Ps i 0 ((c.length:Int)-1)with
 |false=>rfl
 |true=>
  obtain⟨m,rfl,hm⟩:=YF hb;simp[O6 hm,hm]
theorem SU(w h:Int)(c:List Int)(hl:c.length≤1048576)(hf:PS w h c=true)(i:Int)(n:Nat)(hn:PD≤n):∃k,Ql n w h c i=some k∧(k != 0)=QC c i:=by
 unfold Ql SW QC;rw[X8,Pp w h c hl n hn,hf,show O9 ((c.length:Int)-1)=(c.length:Int)-1 from PC (by omega) (by omega)];simp only[Uf,P8,ABT];cases hb:Ps i 0 ((c.length:Int)-1)with
 |false=>grind
 |true=>
  obtain⟨m,rfl,hm⟩:=YF hb;exact⟨c[m],by simp[O6 hm],by simp[hm]⟩
theorem XQ(w h:Int)(c:List Int)(hl:c.length≤1048576)(hf:PS w h c=true)(x:C2)(n:Nat)(hn:PD≤n):RK n w h c x.1 x.2.1 x.2.2.1 x.2.2.2.1 x.2.2.2.2=some (QC c x.2.1&&(x.2.2.1 == -1||QC c x.2.2.1)):=by unfold RK;obtain⟨k1,e1,q1⟩:=SU w h c hl hf x.2.1 n hn;obtain⟨k2,e2,q2⟩:=SU w h c hl hf x.2.2.1 n hn;grind
def kO(c:List Int)(crew:List (Int×Int×Int×Bool×Int))(i:Nat):Bool:=match crew[i]? with
 |none=>false
 |some x=>Ps x.1 1 99&&QC c x.2.1&&(x.2.2.1 == -1||QC c x.2.2.1)&&Ps x.2.2.2.2 0 1000000&&QS (·.1) crew i x&&(crew.take i).all fun y => !(y.2.1==x.2.1)
def SQ(w h:Int)(c:List Int)(crew:List (Int×Int×Int×Bool×Int)):Bool:=PS w h c&&decide (crew.length≤20)&&(List.range crew.length).all (kO c crew)
theorem cJ(crew:List (Int×Int×Int×Bool×Int))(hl:crew.length≤1048576)(i:Nat)(hi:i<crew.length)(x:Int×Int×Int×Bool×Int)(n:Nat)(hn:PD≤n):
  iter n (RU crew (i:Int) x) 0=some (bif(crew.take i).all fun y => !(y.2.1==x.2.1)then .inl (i:Int)else .inr false):=by
 have hlen:(crew.take i).length=i:=by simp;omega
 have:=Q4 (RU crew (i:Int) x) (crew.take i) (fun y => !(y.2.1==x.2.1)) (fun j y h1 h2=>by
  obtain⟨hj,hj2,hy⟩:=Zk h1 h2;simp only[RU,O6 hj2,hy,ABT,O5 hj2 (by omega)];rw[show decide ((j:Int)<(i:Int))=true by rw[AAb];omega];cases(y.2.1==x.2.1)<;>rfl) (by first|(simp[RU,hlen];done)|(simp[RU,hlen];omega)) n (by unfold PD at hn;omega)
 grind
theorem UP(w h:Int)(c:List Int)(hc:c.length≤1048576)(crew:List (Int×Int×Int×Bool×Int))(hl:crew.length≤1048576)(n:Nat)(hn:PD≤n):Sb n w h c crew=some (SQ w h c crew):=by
 have:=P0 (UO n w h c crew) (fun i=>(i:Int)) crew.length (kO c crew) (fun i hi=>by
  have hp:(bif decide ((i:Int)>0)then(M8 crew (O9 ((i:Int)-1))).bind (fun y=>some (decide (y.1≥crew[i].1)))else some false)=some (!QS (·.1) crew i crew[i]):=XD (·.1) crew crew[i] i hi hl some;simp only[UO,kO,O6 hi,AAF hi,ABT,P8,cR w h c hc,O5 hi (by omega),hp,cJ crew hl i hi crew[i] n hn,bne];grind) (by simp[UO]) n (by unfold PD at hn;omega)
 unfold Sb SQ;rw[show((0:Nat):Int)=0 from rfl]at this;rw[this,Pp w h c hc n hn];rw[show decide ((crew.length:Int)>20) = !decide (crew.length≤20) by by_cases q:crew.length≤20<;>simp[q]<;>omega];cases PS w h c<;>cases decide (crew.length≤20)<;>cases(List.range crew.length).all (kO c crew)<;>rfl
theorem bX(crew:List (Int×Int×Int×Bool×Int))(hl:crew.length≤1048576)(i:Nat)(hi:i<crew.length)(x:Int×Int×Int×Bool×Int)(n:Nat)(hn:PD≤n):
  iter n (SS crew (i:Int) x) 0=some (bif(crew.take i).all fun y => !(y.2.1==x.2.1)then .inl (i:Int)else .inr false):=by
 have uX:sub crew (Int.toNat (0:Int)) (Int.toNat (i:Int))=crew.take i:=by simp[sub]
 have hlen:(crew.take i).length=i:=by simp;omega
 have:=Q4 (SS crew (i:Int) x) (crew.take i) (fun y => !(y.2.1==x.2.1)) (fun j y h1 h2=>by
  obtain⟨hj,hj2,hy⟩:=Zk h1 h2;simp only[SS,uX,TA,h2,ABT,O5 hj2 (by omega),hlen];rw[show decide ((j:Int)<(i:Int))=true by rw[AAb];omega];cases(y.2.1==x.2.1)<;>rfl) (by simp only[SS,uX,hlen];simp) n (by unfold PD at hn;omega)
 grind
theorem UB(w h:Int)(c:List Int)(hc:c.length≤1048576)(crew:List (Int×Int×Int×Bool×Int))(hl:crew.length≤1048576)(n:Nat)(hn:PD≤n):SR n w h c crew=some (SQ w h c crew):=by
 unfold SR SQ;rw[X8,Pp w h c hc n hn];rw[show decide ((crew.length:Int)>20) = !decide (crew.length≤20) by by_cases q:crew.length≤20<;>simp[q]<;>omega];cases hf:PS w h c with
 |false=>rfl
 |true=>
  have:=P0 (UA n w h c crew) (fun i=>(i:Int)) crew.length (kO c crew) (fun i hi=>by
   have hp:∀C:Option Bool,(bif decide ((i:Int)>0)then(M8 crew (O9 ((i:Int)-1))).bind (fun y=>bif decide (y.1≥crew[i].1)then some true else C)else C)=bif !QS (·.1) crew i crew[i]then some true else C:=fun C=>XD (·.1) crew crew[i] i hi hl fun b=>bif b then some true else C;have hr:(decide (0≤(0:Int))&&decide ((0:Int)≤(i:Int))&&decide ((i:Int)≤(crew.length:Int)))=true:=by simp;omega
   simp only[UA,kO,O6 hi,AAF hi,ABT,Uf,P8,XQ w h c hc hf _ n hn,O5 hi (by omega),hp,bX crew hl i hi crew[i] n hn,hr];grind) (by simp[UA]) n (by unfold PD at hn;omega)
  rw[show((0:Nat):Int)=0 from rfl]at this;rw[this];cases decide (crew.length≤20)<;>cases(List.range crew.length).all (kO c crew)<;>rfl
def Sn(t:List (Int×Int×Int×Int))(x:Int×Int×Int×Bool×Int):Bool:=t.any fun y=>y.2.2.1==x.1&&Ps y.2.2.2 3 4
def YR(a:mI):Bool:=SQ a.1 a.2.1 a.2.2.1 a.2.2.2.2.2.2.1&&a.2.2.2.2.2.2.1.all fun x => !(x.2.2.2.1 && !Sn a.2.2.2.2.2.2.2.1 x)
theorem cM(crew:List (Int×Int×Int×Bool×Int))(t:List (Int×Int×Int×Int))(h:t.length≤1048576)(i:Nat)(hi:i<crew.length)(n:Nat)(hn:PD≤n):iter n (Sd crew t (i:Int)) (false,0)=some (Sn t crew[i],(t.length:Int)):=by
 have hc:=PQ (σ:=Bool) (Sd crew t (i:Int)) (fun i s=>(s,(i:Int))) t (fun l s=>(s||Sn l crew[i],(t.length:Int))) (fun _ _=>True)
  (fun s hs=>by simp[Sd,Sn])
  (fun j x l s h1 h2 h3 h4 h5=>by
   left;have hx:t[j]=x:=by rw[AAF h1]at h2;exact Option.some.inj h2
   refine⟨s||(x.2.2.1==crew[i].1&&Ps x.2.2.2 3 4),?_,trivial,by simp[Sn,Bool.or_assoc]⟩;simp only[Sd,O6 h1,O6 hi,hx,ABT,O5 h1 (by omega),P8];rw[show decide ((j:Int)<(t.length:Int))=true by simpa using h1];cases s<;>cases(x.2.2.1==crew[i].1)<;>cases Ps x.2.2.2 3 4<;>rfl)
  n (by unfold PD at hn;omega) false trivial
 grind
theorem cN(a:mI)(h:WY a)(n:Nat)(hn:PD≤n):Wv n a.1 a.2.1 a.2.2.1 a.2.2.2.1 a.2.2.2.2.1 a.2.2.2.2.2.1 a.2.2.2.2.2.2.1 a.2.2.2.2.2.2.2.1 a.2.2.2.2.2.2.2.2.1 a.2.2.2.2.2.2.2.2.2.1 a.2.2.2.2.2.2.2.2.2.2=some (YR a):=by
 have hf:a.2.2.1.length≤1048576:=h.1;have hl:a.2.2.2.2.2.2.1.length≤1048576:=h.2.2.2.1;have ht:a.2.2.2.2.2.2.2.1.length≤1048576:=h.2.2.2.2.1
 have:=Q4 (UR n a.2.2.2.2.2.2.1 a.2.2.2.2.2.2.2.1) a.2.2.2.2.2.2.1 (fun x => !(x.2.2.2.1 && !Sn a.2.2.2.2.2.2.2.1 x)) (fun i x h1 h2=>by
  have hx:a.2.2.2.2.2.2.1[i]=x:=by rw[AAF h1]at h2;exact Option.some.inj h2
  have hc:=cM a.2.2.2.2.2.2.1 _ ht i h1 n hn;rw[hx]at hc;simp only[UR,O6 h1,hx,ABT,O5 h1 (by omega),hc];rw[show decide ((i:Int)<(a.2.2.2.2.2.2.1.length:Int))=true by simpa using h1];cases x.2.2.2.1<;>cases Sn a.2.2.2.2.2.2.2.1 x<;>rfl) (by simp[UR]) n (by unfold PD at hn;omega)
 unfold Wv YR;rw[UP _ _ _ hf _ hl n hn,this];grind
theorem ba(t:List (Int×Int×Int×Int))(h:t.length≤1048576)(r:Int×Int×Int×Bool×Int)(n:Nat)(hn:PD≤n):iter n (SV t r) (false,0)=some (Sn t r,(t.length:Int)):=by
 have hc:=PQ (σ:=Bool) (SV t r) (fun i s=>(s,(i:Int))) t (fun l s=>(s||Sn l r,(t.length:Int))) (fun _ _=>True)
  (fun s hs=>by simp[SV,Sn])
  (fun j x l s h1 h2 h3 h4 h5=>by
   left;have hx:t[j]=x:=by rw[AAF h1]at h2;exact Option.some.inj h2
   refine⟨s||(x.2.2.1==r.1&&Ps x.2.2.2 3 4),?_,trivial,by simp[Sn,Bool.or_assoc]⟩;have tS:Ps x.2.2.2 3 4=(x.2.2.2==3||x.2.2.2==4):=by unfold Ps;rw[ABw];simp;omega
   simp only[SV,O6 h1,hx,ABT,O5 h1 (by omega),tS];rw[show decide ((j:Int)<(t.length:Int))=true by simpa using h1];cases s<;>cases(x.2.2.1==r.1)<;>cases(x.2.2.2==3)<;>cases(x.2.2.2==4)<;>rfl)
  n (by unfold PD at hn;omega) false trivial
 grind
theorem bc(a:mI)(h:WY a)(n:Nat)(hn:PD≤n):VS n a.1 a.2.1 a.2.2.1 a.2.2.2.1 a.2.2.2.2.1 a.2.2.2.2.2.1 a.2.2.2.2.2.2.1 a.2.2.2.2.2.2.2.1 a.2.2.2.2.2.2.2.2.1 a.2.2.2.2.2.2.2.2.2.1 a.2.2.2.2.2.2.2.2.2.2=some (YR a):=by
 have hf:a.2.2.1.length≤1048576:=h.1;have hl:a.2.2.2.2.2.2.1.length≤1048576:=h.2.2.2.1;have ht:a.2.2.2.2.2.2.2.1.length≤1048576:=h.2.2.2.2.1
 have:=Q4 (UE n a.2.2.2.2.2.2.1 a.2.2.2.2.2.2.2.1) a.2.2.2.2.2.2.1 (fun x => !(x.2.2.2.1 && !Sn a.2.2.2.2.2.2.2.1 x)) (fun i x h1 h2=>by
  have hx:a.2.2.2.2.2.2.1[i]=x:=by rw[AAF h1]at h2;exact Option.some.inj h2
  simp only[UE,O6 h1,hx,ABT,O5 h1 (by omega),ba _ ht x n hn];rw[show decide ((i:Int)<(a.2.2.2.2.2.2.1.length:Int))=true by simpa using h1];cases x.2.2.2.1<;>cases Sn a.2.2.2.2.2.2.2.1 x<;>rfl) (by simp[UE]) n (by unfold PD at hn;omega)
 unfold VS YR;rw[UB _ _ _ hf _ hl n hn,this];grind
def VO(l:List D2)(i:Nat):Bool:=match l[i]? with
 |none=>false
 |some x=>Ps x.1 1 50&&Ps x.2.1 1 1000&&Ps x.2.2 0 x.2.1&&QS (·.1) l i x
def QP(l:List D2):Bool:=(List.range l.length).all (VO l)&&decide (l.length≤8)
abbrev PF:=Int×Int×List D2
def aa(a:List PF)(i:Nat):Bool:=match a[i]? with
 |none=>false
 |some x=>Ps x.1 1 999&&Ps x.2.1 0 99&&QP x.2.2&&QS (·.1) a i x&&(a.take i).all fun y => !(y.2.1==x.2.1)
def Pl(a:List PF):Bool:=decide (a.length≤12)&&(List.range a.length).all (aa a)
theorem aM(l:List D2)(hl:l.length≤1048576)(n:Nat)(hn:PD≤n):VL n l=some (QP l):=by
 have:=P0 (S6 l) (fun i=>(i:Int)) l.length (VO l) (fun i hi=>by
  have hp:(bif decide ((i:Int)>0)then(M8 l (O9 ((i:Int)-1))).bind (fun y=>some (decide (y.1≥l[i].1)))else some false)=some (!QS (·.1) l i l[i]):=XD (·.1) l l[i] i hi hl some;simp only[S6,VO,O6 hi,AAF hi,ABT,P8,O5 hi (by omega),hp];rw[show decide ((i:Int)<(l.length:Int))=true by simpa using hi];generalize l[i]=x;generalize QS (·.1) l i x=b4;cases Ps x.1 1 50<;>cases Ps x.2.1 1 1000<;>cases Ps x.2.2 0 x.2.1<;>cases b4<;>rfl) (by simp[S6]) n (by unfold PD at hn;omega)
 unfold VL QP;rw[show((0:Nat):Int)=0 from rfl]at this;rw[this];rw[show decide ((l.length:Int)≤8)=decide (l.length≤8) by rw[ABw];simp;omega];grind
theorem a8(a:List PF)(hl:a.length≤1048576)(i:Nat)(hi:i<a.length)(x:PF)(n:Nat)(hn:PD≤n):
  iter n (Qx a (i:Int) x) 0=some (bif(a.take i).all fun y => !(y.2.1==x.2.1)then .inl (i:Int)else .inr false):=by
 have hlen:(a.take i).length=i:=by simp;omega
 have:=Q4 (Qx a (i:Int) x) (a.take i) (fun y => !(y.2.1==x.2.1)) (fun j y h1 h2=>by
  obtain⟨hj,hj2,hy⟩:=Zk h1 h2;simp only[Qx,O6 hj2,hy,ABT,O5 hj2 (by omega)];rw[show decide ((j:Int)<(i:Int))=true by rw[AAb];omega];cases(y.2.1==x.2.1)<;>rfl) (by first|(simp[Qx,hlen];done)|(simp[Qx,hlen];omega)) n (by unfold PD at hn;omega)
 grind
theorem Pq(a:List PF)(hs:PU a)(n:Nat)(hn:PD≤n):QG n a=some (Pl a):=by
 have hl:a.length≤1048576:=hs.1
 have:=P0 (Td n a) (fun i=>(i:Int)) a.length (aa a) (fun i hi=>by
  have hp:(bif decide ((i:Int)>0)then(M8 a (O9 ((i:Int)-1))).bind (fun y=>some (decide (y.1≥a[i].1)))else some false)=some (!QS (·.1) a i a[i]):=XD (·.1) a a[i] i hi hl some;have v7:a[i].2.2.length≤1048576:=hs.2 _ (ABW hi);simp only[Td,aa,O6 hi,AAF hi,ABT,P8,O5 hi (by omega),hp,aM _ v7 n hn,a8 a hl i hi a[i] n hn];rw[show decide ((i:Int)<(a.length:Int))=true by simpa using hi];generalize a[i]=x;generalize ((a.take i).all fun y => !(y.2.1==x.2.1))=b5;generalize QS (·.1) a i x=b4;cases Ps x.1 1 999<;>cases Ps x.2.1 0 99<;>cases QP x.2.2<;>cases b4<;>cases b5<;>rfl) (by simp[Td]) n (by unfold PD at hn;omega)
 unfold QG Pl;grind
theorem dD(p:PF)(hl:p.2.2.length≤1048576)(n:Nat)(hn:PD≤n):Xj n p.1 p.2.1 p.2.2=some (Ps p.1 1 999&&Ps p.2.1 0 99&&QP p.2.2):=by
 have:=P0 (U5 p.2.2) (fun i=>(i:Int)) p.2.2.length (VO p.2.2) (fun i hi=>by
  have hp:(bif decide ((i:Int)>0)then(M8 p.2.2 (O9 ((i:Int)-1))).bind (fun y=>some (decide (y.1≥p.2.2[i].1)))else some false)=some (!QS (·.1) p.2.2 i p.2.2[i]):=XD (·.1) p.2.2 p.2.2[i] i hi hl some;simp only[U5,VO,O6 hi,AAF hi,ABT,Uf,P8,O5 hi (by omega),hp];grind) (by simp[U5]) n (by unfold PD at hn;omega)
 unfold Xj QP;rw[show((0:Nat):Int)=0 from rfl]at this;rw[this,show decide ((p.2.2.length:Int)>8) = !decide (p.2.2.length≤8) by by_cases q:p.2.2.length≤8<;>simp[q]<;>omega];simp only[Uf,P8,ABT];cases Ps p.1 1 999<;>cases Ps p.2.1 0 99<;>cases decide (p.2.2.length≤8)<;>cases(List.range p.2.2.length).all (VO p.2.2)<;>rfl
theorem ak(a:List PF)(hl:a.length≤1048576)(i:Nat)(hi:i<a.length)(x:PF)(n:Nat)(hn:PD≤n):
  iter n (R0 a (i:Int) x) 0=some (bif(a.take i).all fun y => !(y.2.1==x.2.1)then .inl (i:Int)else .inr false):=by
 have uX:sub a (Int.toNat (0:Int)) (Int.toNat (i:Int))=a.take i:=by simp[sub]
 have hlen:(a.take i).length=i:=by simp;omega
 have:=Q4 (R0 a (i:Int) x) (a.take i) (fun y => !(y.2.1==x.2.1)) (fun j y h1 h2=>by
  obtain⟨hj,hj2,hy⟩:=Zk h1 h2;simp only[R0,uX,TA,h2,ABT,O5 hj2 (by omega),hlen];rw[show decide ((j:Int)<(i:Int))=true by rw[AAb];omega];cases(y.2.1==x.2.1)<;>rfl) (by simp only[R0,uX,hlen];simp) n (by unfold PD at hn;omega)
 grind
theorem QL(a:List PF)(hs:PU a)(n:Nat)(hn:PD≤n):Q8 n a=some (Pl a):=by
 have hl:a.length≤1048576:=hs.1
 have:=P0 (TU n a) (fun i=>(i:Int)) a.length (aa a) (fun i hi=>by
  have hp:(bif decide ((i:Int)>0)then(M8 a (O9 ((i:Int)-1))).bind (fun y=>some (decide (y.1≥a[i].1)))else some false)=some (!QS (·.1) a i a[i]):=XD (·.1) a a[i] i hi hl some;have v7:a[i].2.2.length≤1048576:=hs.2 _ (ABW hi);have hr:(decide (0≤(0:Int))&&decide ((0:Int)≤(i:Int))&&decide ((i:Int)≤(a.length:Int)))=true:=by simp;omega
  simp only[TU,aa,O6 hi,AAF hi,ABT,O5 hi (by omega),hp,dD _ v7 n hn,ak a hl i hi a[i] n hn,hr];rw[show decide ((i:Int)<(a.length:Int))=true by simpa using hi];generalize a[i]=x;generalize ((a.take i).all fun y => !(y.2.1==x.2.1))=b5;generalize QS (·.1) a i x=b4;cases Ps x.1 1 999<;>cases Ps x.2.1 0 99<;>cases QP x.2.2<;>cases b4<;>cases b5<;>rfl) (by simp[TU]) n (by unfold PD at hn;omega)
 unfold Q8 Pl;rw[show((0:Nat):Int)=0 from rfl]at this;rw[this];rw[show decide ((a.length:Int)≤12)=decide (a.length≤12) by rw[ABw];simp;omega];grind
def S9(l:List D2)(k:Int):Int:=match l.find? fun x=>x.1==k with
 |some x=>x.2.1
 |none=>0
theorem cS{l:List D2}(h:QP l=true):∀(i j:Nat)(hj:j<l.length)(xM:i<j),(l[i]'(by omega)).1<l[j].1:=by
 unfold QP at h;simp only[AAG,AAU,AAR]at h
 have step:∀j (hj:j+1<l.length),(l[j]'(by omega)).1<l[j+1].1:=by intro j hj;have:=h.1 (j+1) hj;simp only[VO,AAF hj,AAG,QS,AAF (show j<l.length by omega)]at this;have:=this.2;simpa using this
 grind
theorem aN{l:List D2}(h:QP l=true)(k:Int):0≤S9 l k∧S9 l k≤1000:=by
 unfold S9;cases hf:l.find? fun x=>x.1==k with
 |none=>simp
 |some x=>
  have hm:=ABl hf;obtain⟨i,hi,rfl⟩:=AB2 hm;unfold QP at h;simp only[AAG,AAU,AAR]at h;have:=h.1 i hi;simp only[VO,AAF hi,AAG,Ps,AAb]at this;grind
theorem mQ{l:List D2}(h:QP l=true){j:Nat}(hj:j<l.length){k:Int}(hk:l[j].1=k):S9 l k=l[j].2.1:=by
 unfold S9;cases hf:l.find? fun x=>x.1==k with
 |none=>
  grind
 |some x=>
  obtain⟨i,hi,rfl⟩:=AB2 (ABl hf);have hki:l[i].1=k:=by have:=ACH hf;simpa using this
  rcases ABf i j with q|q|q
  ·have:=cS h i j hj q;omega
  ·subst q;rfl
  ·have:=cS h j i hi q;omega
theorem jm{l:List D2}{k:Int}(h:∀x∈l,x.1≠k):S9 l k=0:=by unfold S9;grind
def T5(a:List PF)(k:Int):Int:=bif Pl a then(a.map fun p=>S9 p.2.2 k).foldl (· + ·) 0 else 0
theorem eJ{a:List PF}(h:Pl a=true):a.length≤12∧∀i (hi:i<a.length),QP a[i].2.2=true:=by unfold Pl at h;simp only[AAG,AAU,AAR,AAb]at h;refine⟨h.1,fun i hi=>?_⟩;have:=h.2 i hi;simp only[aa,AAF hi,AAG]at this;grind
theorem bC(p:PF)(hl:p.2.2.length≤1048576)(k:Int)(n:Nat)(hn:PD≤n):∃s,Qj n p.1 p.2.1 p.2.2 k=some s∧s.2.1=S9 p.2.2 k:=by
 have hc:=PQ (σ:=Unit) (P4 p.2.2 k) (fun i _=>((i:Int),(0:Int),(0:Int),(0:Int))) p.2.2 (fun l _=>match l.find? (fun x=>x.1==k)with|some x=>.inr x|none=>.inl ((p.2.2.length:Int),0,0,0)) (fun _ _=>True)
  (fun s hs=>by simp[P4])
  (fun i x l s h1 h2 h3 h4 h5=>by
   have hx:p.2.2[i]=x:=by rw[AAF h1]at h2;exact Option.some.inj h2
   cases hq:(x.1==k)with
   |true=>right;simp[P4,h1,O6 h1,hx,hq]
   |false=>left;exact⟨(),by simp[P4,h1,O6 h1,hx,hq,O5 h1 (by omega)],trivial,by simp[hq]⟩)
  n (by unfold PD at hn;omega) () trivial
 unfold Qj;rw[show((0:Nat):Int)=0 from rfl]at hc;rw[hc];unfold S9;cases p.2.2.find? fun x=>x.1==k with
 |none=>exact⟨(k,0,0),rfl,rfl⟩
 |some x=>grind
theorem XE(a:List PF)(hs:PU a)(k:Int)(n:Nat)(hn:PD≤n):WZ n a k=some (T5 a k):=by
 have hl:a.length≤1048576:=hs.1;have v7:=Pq a hs n hn;unfold WZ T5;cases hk:Pl a with
 |false=>
  obtain⟨m,rfl⟩:∃m,n=m+1:=⟨n-1,by unfold PD at hn;omega⟩
  have:SG (m+1) a k ((0:Int),(0:Int))=some (.inr (0,0)):=by unfold SG;rw[v7,hk];grind
  rw[Pj this m];rfl
 |true=>
  obtain⟨h12,hp⟩:=eJ hk
  have hc:=PQ (σ:=Int) (SG n a k) (fun i s=>(s,(i:Int))) a (fun l s=>((l.map fun p=>S9 p.2.2 k).foldl (· + ·) s,(a.length:Int))) (fun i s=>0≤s∧s≤1000*(i:Int)∧i≤12)
   (fun s hs=>by simp[SG])
   (fun i x l s h1 h2 h3 h4 h5=>by
    left;have hx:a[i]=x:=by rw[AAF h1]at h2;exact Option.some.inj h2
    have hlen:x.2.2.length≤1048576:=by rw[←hx];exact hs.2 _ (ABW h1)
    obtain⟨q,e,he⟩:=bC x hlen k n hn;have hb:=aN (hx▸hp i h1) k;refine⟨s+S9 x.2.2 k,?_,by omega,rfl⟩;unfold SG;rw[v7,hk,show decide ((i:Int)<(a.length:Int))=true by simpa using h1];simp only[ABU,ABT,O6 h1,hx,e,he,O5 h1 (by omega)];rw[PC (by omega) (by omega)])
   n (by unfold PD at hn;omega) 0 ⟨by omega,by omega,by omega⟩
  grind
theorem ar(p:PF)(hl:p.2.2.length≤1048576)(hs:QP p.2.2=true)(k:Int)(n:Nat)(hn:PD≤n):
  ∃(j:Nat) (b:Bool),Qf n p.1 p.2.1 p.2.2 k=some ((j:Int),b)∧(b=true→∃h:j<p.2.2.length,S9 p.2.2 k=p.2.2[j].2.1)∧(b=false→S9 p.2.2 k=0):=by
 obtain⟨j,h1,h2,h3,h4⟩:=cf (Qb p.2.2 k) p.2.2.length (fun i=>decide ((p.2.2.getD i (0,0,0)).1<k)) (fun i hi=>by
  simp only[Qb,O6 hi,ABT,O5 hi (by omega)];grind) (by simp[Qb]) n (by unfold PD at hn;omega)
 have hlow:∀i (hi:i<p.2.2.length),i<j→p.2.2[i].1<k:=by intro i hi xM;have:=h3 i xM;simpa[hi]using this
 unfold Qf;rw[h2];by_cases hj:j<p.2.2.length
 ·have uh:=h4 hj;have uh:k≤p.2.2[j].1:=by simpa[hj]using uh
  refine⟨j,p.2.2[j].1==k,?_,fun hb=>⟨hj,mQ hs hj (by grind)⟩,fun hb=>jm fun x hx=>?_⟩
  ·simp[hj,O6 hj]
  ·obtain⟨i,hi,rfl⟩:=AB2 hx;have tj:p.2.2[j].1≠k:=by simpa using hb
   rcases ABf i j with q|q|q
   ·grind
   ·grind
   ·have:=cS hs j i hi q;omega
 ·refine⟨j,false,?_,fun hb=>(by cases hb),fun _=>jm fun x hx=>?_⟩
  ·grind
  ·obtain⟨i,hi,rfl⟩:=AB2 hx;grind
theorem ct(a:List PF)(hs:PU a)(k:Int)(n:Nat)(hn:PD≤n):Xf n a k=some (T5 a k):=by
 have hl:a.length≤1048576:=hs.1;unfold Xf T5;rw[QL a hs n hn];cases hk:Pl a with
 |false=>rfl
 |true=>
  obtain⟨h12,hp⟩:=eJ hk
  have hc:=PQ (σ:=Int) (Ux n a k) (fun i s=>(s,(i:Int))) a (fun l s=>((l.map fun p=>S9 p.2.2 k).foldl (· + ·) s,(a.length:Int))) (fun i s=>0≤s∧s≤1000*(i:Int)∧i≤12)
   (fun s hs=>by simp[Ux])
   (fun i x l s h1 h2 h3 h4 h5=>by
    left;have hx:a[i]=x:=by rw[AAF h1]at h2;exact Option.some.inj h2
    have hlen:x.2.2.length≤1048576:=by rw[←hx];exact hs.2 _ (ABW h1)
    obtain⟨j,b,e,vC,wA⟩:=ar x hlen (hx▸hp i h1) k n hn;have hb:=aN (hx▸hp i h1) k;refine⟨s+S9 x.2.2 k,?_,by omega,rfl⟩;unfold Ux;rw[show decide ((i:Int)<(a.length:Int))=true by simpa using h1];simp only[ABU,ABT,O6 h1,hx,e,O5 h1 (by omega)];cases b with
    |false=>simp[wA rfl]
    |true=>
     obtain⟨hj,hc⟩:=vC rfl;simp only[ABU,O6 hj,ABT,←hc];rw[PC (by omega) (by omega)])
   n (by unfold PD at hn;omega) 0 ⟨by omega,by omega,by omega⟩
  grind
theorem cL(a:mI)(h:WY a)(n:Nat)(hn:PD≤n):∃b,Tv n a.1 a.2.1 a.2.2.1 a.2.2.2.1 a.2.2.2.2.1 a.2.2.2.2.2.1 a.2.2.2.2.2.2.1 a.2.2.2.2.2.2.2.1 a.2.2.2.2.2.2.2.2.1 a.2.2.2.2.2.2.2.2.2.1 a.2.2.2.2.2.2.2.2.2.2=some b:=by
 have hp:PU a.2.2.2.1:=h.2.1
 have key:∀i:Nat,∃q,∀i':Nat,i'=i→i'<50→QX n a.2.2.2.1 a.2.2.2.2.2.2.2.2.1 a.2.2.2.2.2.2.2.2.2.1 (((i'+1:Nat)):Int)=some (bif q then .inl ((i'+1+1:Nat):Int)else .inr (.inr false)):=by
  intro i;by_cases hi:i<50
  case neg=>exact⟨true,fun i' e h=>by omega⟩
  have hw:O9 (((i+1:Nat):Int)+1)=((i+1+1:Nat):Int):=by rw[PC (by omega) (by omega)];omega
  have gen:∀X:Option Bool,(∃b,X=some b)→∃q,(X.bind fun x7=>bif x7 then some (.inr (.inr false))else some (.inl (O9 (((i+1:Nat):Int)+1))))=(some (bif q then .inl ((i+1+1:Nat):Int)else .inr (.inr false)):Option (Int⊕(Int⊕Bool))):=by
   rintro X ⟨b,rfl⟩
   exact⟨!b,by grind⟩
  have:∃q,QX n a.2.2.2.1 a.2.2.2.2.2.2.2.2.1 a.2.2.2.2.2.2.2.2.2.1 (((i+1:Nat)):Int)=some (bif q then .inl ((i+1+1:Nat):Int)else .inr (.inr false)):=by
   unfold QX;rw[show decide (((i+1:Nat):Int)≤50)=true by grind,ABU];refine gen _ ?_;by_cases h8:i+1<a.2.2.2.2.2.2.2.2.1.length
   case neg=>rw[show decide (((i+1:Nat):Int)≥(a.2.2.2.2.2.2.2.2.1.length:Int))=true by rw[AAb];omega];grind
   rw[show decide (((i+1:Nat):Int)≥(a.2.2.2.2.2.2.2.2.1.length:Int))=false by grind,ABV];by_cases h9:i+1<a.2.2.2.2.2.2.2.2.2.1.length
   case neg=>rw[show decide (((i+1:Nat):Int)≥(a.2.2.2.2.2.2.2.2.2.1.length:Int))=true by rw[AAb];omega];grind
   rw[show decide (((i+1:Nat):Int)≥(a.2.2.2.2.2.2.2.2.2.1.length:Int))=false by grind,ABV];simp only[O6 h9,O6 h8,ABT,P8,XE _ hp _ n hn];cases Ps a.2.2.2.2.2.2.2.2.2.1[i+1] 0 1000000
   ·exact⟨_,rfl⟩
   ·exact⟨_,rfl⟩
  obtain⟨q,hq⟩:=this;exact⟨q,fun i' e _=>by grind⟩
 have:=P0 (QX n a.2.2.2.1 a.2.2.2.2.2.2.2.2.1 a.2.2.2.2.2.2.2.2.2.1) (fun i=>((i+1:Nat):Int)) 50 (fun i=>(key i).choose) (fun i hi=>(key i).choose_spec i rfl hi) (by simp[QX]) n (by unfold PD at hn;omega);unfold Tv;rw[show((0+1:Nat):Int)=1 from rfl]at this;rw[this];cases(List.range 50).all fun i=>(key i).choose
 ·exact⟨_,rfl⟩
 ·exact⟨_,rfl⟩
theorem bZ(a:mI)(h:WY a)(n:Nat)(hn:PD≤n):VR n a.1 a.2.1 a.2.2.1 a.2.2.2.1 a.2.2.2.2.1 a.2.2.2.2.2.1 a.2.2.2.2.2.2.1 a.2.2.2.2.2.2.2.1 a.2.2.2.2.2.2.2.2.1 a.2.2.2.2.2.2.2.2.2.1 a.2.2.2.2.2.2.2.2.2.2=Tv n a.1 a.2.1 a.2.2.1 a.2.2.2.1 a.2.2.2.2.1 a.2.2.2.2.2.1 a.2.2.2.2.2.2.1 a.2.2.2.2.2.2.2.1 a.2.2.2.2.2.2.2.2.1 a.2.2.2.2.2.2.2.2.2.1 a.2.2.2.2.2.2.2.2.2.2:=by
 have hp:PU a.2.2.2.1:=h.2.1
 have:WQ n a.2.2.2.1=QX n a.2.2.2.1:=by funext s o x;unfold WQ QX;simp only[ct _ hp _ n hn,XE _ hp _ n hn,Uf]
 unfold VR Tv;rw[this]
theorem dQ{α γ:Type}(f:α→Option (α⊕(α⊕γ)))(st:Nat→α)(m:Nat)(P:Nat→Bool)(r:γ)(hs:∀i,i<m→f (st i)=some (bif P i then .inl (st (i+1))else .inr (.inr r)))(he:f (st m)=some (.inr (.inl (st m)))):
  ∀n,m<n→iter n f (st 0)=some (bif(List.range m).all P then .inl (st m)else .inr r):=by
 have key:∀d i n,i+d=m→d<n→iter n f (st i)=some (bif(List.range' i d).all P then .inl (st m)else .inr r):=by
  intro d
  induction d with
  |zero=>
   intro i n hi hn;obtain⟨n,rfl⟩:∃k,n=k+1:=⟨n-1,by omega⟩;have:i=m:=by omega
   subst this;rw[Pj he n];rfl
  |succ d ih=>
   intro i n hi hn;obtain⟨n,rfl⟩:∃k,n=k+1:=⟨n-1,by omega⟩;have hf:=hs i (by omega);rw[List.range'_succ,List.all_cons];cases hp:P i with
   |true=>rw[hp,ABU]at hf;rw[Rp hf n,ih (i+1) n (by omega) (by omega)];rfl
   |false=>rw[hp,ABV]at hf;rw[Pj hf n];rfl
 grind
theorem YW(w h:Int)(c:List Int)(hl:c.length≤1048576):VW w h c=some (w,h,c):=by unfold VW;simp[UL hl]
theorem ZQ(w h:Int)(c:List Int)(hl:c.length≤1048576):WS w h c=some (w,h,c):=by unfold WS TE;simp[UL hl]
theorem PL(a:List PF)(hs:PU a)(n:Nat)(hn:PD≤n):Pe n a=some a:=by
 have hl:a.length≤1048576:=hs.1
 have hc:=PQ (σ:=List PF) (UZ a) (fun i s=>((i:Int),s)) a (fun l s=>((a.length:Int),s++l)) (fun i s=>s.length=i)
  (fun s hs=>by simp[UZ])
  (fun i x l s h1 h2 h3 h4 h5=>by
   left;have hx:a[i]=x:=by rw[AAF h1]at h2;exact Option.some.inj h2
   have v7:x.2.2.length≤1048576:=by rw[←hx];exact hs.2 _ (ABW h1)
   have hr:decide (s.length+1≤Dh)=true:=R3 (by omega);exact⟨s++[x],by simp[UZ,h1,O6 h1,hx,UL v7,hr,O5 h1 (by omega)],by simp[h5],by simp⟩)
  n (by unfold PD at hn;omega) [] rfl
 unfold Pe;grind
theorem Pz(a:List PF)(hs:PU a)(n:Nat)(hn:PD≤n):QF n a=some a:=by
 have hl:a.length≤1048576:=hs.1
 have hc:=PQ (σ:=List PF) (SJ a) (fun i s=>((i:Int),s)) a (fun l s=>((a.length:Int),s++l)) (fun i s=>s.length=i)
  (fun s hs=>by simp[SJ])
  (fun i x l s h1 h2 h3 h4 h5=>by
   left;have hx:a[i]=x:=by rw[AAF h1]at h2;exact Option.some.inj h2
   have v7:x.2.2.length≤1048576:=by rw[←hx];exact hs.2 _ (ABW h1)
   have hr:decide (s.length+1≤Dh)=true:=R3 (by omega);exact⟨s++[x],by simp[SJ,h1,O6 h1,hx,UL v7,hr,O5 h1 (by omega)],by simp[h5],by simp⟩)
  n (by unfold PD at hn;omega) [] rfl
 unfold QF;grind
abbrev Dn:=Int×Int×(List Int)×(List (Int×Int×(List D2)))×Int×(List B2)×(List (Int×Int×Int×Bool×Int))×(List (Int×Int×Int×Int))×(List Int)×(List Int)×Int
def Zo:Dn:=(0,0,[],[],0,[],[],[],[],[],0)
def iR(x:Dn×Bool):Int×Int×(List Int)×(List (Int×Int×(List D2)))×Int×(List B2)×(List (Int×Int×Int×Bool×Int))×(List (Int×Int×Int×Int))×(List Int)×(List Int)×Int×Bool:=
 (x.1.1,x.1.2.1,x.1.2.2.1,x.1.2.2.2.1,x.1.2.2.2.2.1,x.1.2.2.2.2.2.1,x.1.2.2.2.2.2.2.1,x.1.2.2.2.2.2.2.2.1,x.1.2.2.2.2.2.2.2.2.1,x.1.2.2.2.2.2.2.2.2.2.1,x.1.2.2.2.2.2.2.2.2.2.2,x.2)
def Y5(c:List Int)(a:List PF)(i:Nat):Bool:=match a[i]? with
 |some p=>Ps p.2.1 0 ((c.length:Int)-1)&&(c.getD p.2.1.toNat 0==2)
 |none=>false
def Xd(a:List PF)(i:Nat):Bool:=match a[i]? with
 |some p=>(List.range p.2.2.length).all fun k => !decide ((p.2.2.getD k (0,0,0)).2.2>0)
 |none=>false
def Rn(Po:List Int):Nat→List (Int×Int×Int×Bool×Int)
 |0=>[]
 |i+1=>Rn Po i++[(((i+1:Nat):Int),Po.getD i 0, -1,false,0)]
theorem Tm(Po:List Int):∀i,(Rn Po i).length=i
 |0=>rfl
 |i+1=>by simp[Rn,Tm Po i]
def RO(a:List PF):Nat→List Int
 |0=>List.replicate 51 0
 |i+1=>(RO a i).set (i+1) (T5 a ((i+1:Nat):Int))
theorem W9(a:List PF):∀i,(RO a i).length=51
 |0=>rfl
 |i+1=>by simp[RO,W9 a i]
theorem aA(a:List PF)(i:Nat)(hi:i<a.length)(v7:a[i].2.2.length≤1048576)(y:Int×Dn)(hy:y.1=(i:Int))(z:Dn)(n:Nat)(hn:PD≤n):
  iter n (RW a y) (0,z)=some (bif Xd a i then .inl ((a[i].2.2.length:Int),z)else .inr (iR (Zo,false))):=by
 have:=dQ (RW a y) (fun k=>((k:Int),z)) a[i].2.2.length (fun k => !decide ((a[i].2.2.getD k (0,0,0)).2.2>0)) (iR (Zo,false)) (fun k hk=>by
  unfold RW;rw[hy];simp only[O6 hi,ABT,O6 hk,O5 hk (by omega)];rw[show decide ((k:Int)<(a[i].2.2.length:Int))=true by simpa using hk];rw[show a[i].2.2.getD k (0,0,0)=a[i].2.2[k] by simp[hk]];cases decide (a[i].2.2[k].2.2>0)<;>rfl) (by
  unfold RW;rw[hy];simp[O6 hi]) n (by unfold PD at hn;omega)
 rw[show((0:Nat):Int)=0 from rfl]at this;rw[this];simp only[Xd,AAF hi]
theorem Ze(c:List Int)(hc:c.length≤1048576)(a:List PF)(hs:PU a)(z:Dn)(n:Nat)(hn:PD≤n):
  iter n (RV n c a) (0,z)=some (bif(List.range a.length).all (fun i=>Y5 c a i&&Xd a i)then .inl ((a.length:Int),z)else .inr (iR (Zo,false))):=by
 have hl:a.length≤1048576:=hs.1
 have:=dQ (RV n c a) (fun k=>((k:Int),z)) a.length (fun i=>Y5 c a i&&Xd a i) (iR (Zo,false)) (fun i hi=>by
  have v7:a[i].2.2.length≤1048576:=hs.2 _ (ABW hi);have tS:=aA a i hi v7 ((i:Int),z) rfl z n hn;unfold RV;dsimp only;rw[show decide ((i:Int)<(a.length:Int))=true by simpa using hi];simp only[ABU,O6 hi,ABT,P8,O5 hi (by omega)];rw[show O9 ((c.length:Int)-1)=(c.length:Int)-1 from PC (by omega) (by omega)];rw[show((0:Int),z.1,z.2.1,z.2.2.1,z.2.2.2.1,z.2.2.2.2.1,z.2.2.2.2.2.1,z.2.2.2.2.2.2.1,z.2.2.2.2.2.2.2.1,z.2.2.2.2.2.2.2.2.1,z.2.2.2.2.2.2.2.2.2.1,z.2.2.2.2.2.2.2.2.2.2)=((0:Int),z)from rfl,tS];simp only[Y5,AAF hi];cases hb:Ps a[i].2.1 0 ((c.length:Int)-1)with
  |false=>rfl
  |true=>
   obtain⟨m,hm,hmlt⟩:=YF hb;rw[hm];simp only[O6 hmlt,ABT,ABc,ABV];rw[show c.getD (m:Int).toNat 0=c[m] by simp[hmlt]];cases hq:(c[m]==2)with
   |false=>simp only[bne,hq,ABp,ABU];rfl
   |true=>
    simp only[bne,hq,ABc,ABV];cases Xd a i<;>rfl) (by
  unfold RV;simp) n (by unfold PD at hn;omega)
 omega
theorem ai(w h:Int)(c:List Int)(hl:c.length≤1048576)(hf:PS w h c=true)(i:Int)(n:Nat)(hn:PD≤n):Ql n w h c i=some (bif Ps i 0 ((c.length:Int)-1)then c.getD i.toNat 0 else 0):=by
 unfold Ql SW;rw[X8,Pp w h c hl n hn,hf,show O9 ((c.length:Int)-1)=(c.length:Int)-1 from PC (by omega) (by omega)];simp only[Uf,P8,ABT];cases hb:Ps i 0 ((c.length:Int)-1)with
 |false=>rfl
 |true=>
  obtain⟨m,rfl,hm⟩:=YF hb;simp[O6 hm,hm]
theorem Yn(a:List PF)(hs:PU a)(f0 f1:Int)(c:List Int)(p:List PF)(bn:Int)(os:List B2)(cr:List (Int×Int×Int×Bool×Int))(ts:List (Int×Int×Int×Int))(ou:List Int)(tk:Int)(n:Nat)(hn:PD≤n):
  iter n (RX n a) (1,f0,f1,c,p,bn,os,cr,ts,List.replicate 51 0,ou,tk)=some (51,f0,f1,c,p,bn,os,cr,ts,RO a 50,ou,tk):=by
 have:=Ph (γ:=Int×Dn) (RX n a) (fun i=>(((i+1:Nat):Int),f0,f1,c,p,bn,os,cr,ts,RO a i,ou,tk)) 50 (51,f0,f1,c,p,bn,os,cr,ts,RO a 50,ou,tk) (fun i hi=>by
  unfold RX;dsimp only;have tS:Ob (RO a i) (((i+1:Nat):Int))=true:=PA (by rw[W9];omega);rw[show decide (((i+1:Nat):Int)≤50)=true by grind,ABU,XE a hs _ n hn,ABT,tS,ABU,show O9 (((i+1:Nat):Int)+1)=((i+1+1:Nat):Int) by rw[PC (by omega) (by omega)];omega];rw[show Int.toNat ((i+1:Nat):Int)=i+1 by omega,Pw];rfl) (by unfold RX;simp) n (by unfold PD at hn;omega)
 exact this
theorem ZG(Po:List Int)(hd:Po.length≤1048576)(f0 f1:Int)(c:List Int)(p:List PF)(bn:Int)(os:List B2)(ts:List (Int×Int×Int×Int))(sr ou:List Int)(tk:Int)(n:Nat)(hn:PD≤n):
  iter n (RY Po) (0,f0,f1,c,p,bn,os,[],ts,sr,ou,tk)=some (((min Po.length 20:Nat):Int),f0,f1,c,p,bn,os,Rn Po (min Po.length 20),ts,sr,ou,tk):=by
 have:=Ph (γ:=Int×Dn) (RY Po) (fun i=>((i:Int),f0,f1,c,p,bn,os,Rn Po i,ts,sr,ou,tk)) (min Po.length 20) (((min Po.length 20:Nat):Int),f0,f1,c,p,bn,os,Rn Po (min Po.length 20),ts,sr,ou,tk) (fun i hi=>by
  unfold RY;dsimp only;have tX:i<Po.length:=by omega
  have hr:decide ((Rn Po i).length+1≤Dh)=true:=R3 (by rw[Tm];omega);have hgo:Po[Int.toNat (i:Int)]?=some Po[i]:=by simp[tX]
  rw[show decide ((i:Int)<(Po.length:Int))=true by rw[AAb];omega,show decide ((i:Int)<20)=true by rw[AAb];omega];simp only[ABU,ABT,PA tX,hgo,ABb,hr,O5 tX (by omega)];simp only[Rn];grind) (by
  unfold RY;grind) n (by unfold PD at hn;omega)
 exact this
def Va(l:List D2):Prop:=l.Pairwise (fun a b=>a.1<b.1)∧(∀x∈l,1≤x.1∧x.1≤50∧1≤x.2.1∧x.2.1≤1000∧0≤x.2.2∧x.2.2≤x.2.1)∧l.length≤8
def PO(a:List PF):Prop:=a.length≤12∧a.Pairwise (fun x y=>x.1<y.1∧x.2.1≠y.2.1)∧∀p∈a,(1≤p.1∧p.1≤999)∧(0≤p.2.1∧p.2.1≤99)∧Va p.2.2
theorem YS{β:Type}{key:β→Int}{a:List β}{R:β→β→Prop}(h:a.Pairwise R)(hR:∀x y,R x y→key x<key y)(i:Nat)(hi:i<a.length):QS key a i a[i]=true:=by
 cases i with
 |zero=>rfl
 |succ j=>
  have:=hR _ _ (ABQ.1 h j (j+1) (by omega) hi (by omega));simp only[QS,AAF (show j<a.length by omega)];grind
theorem Va.ok{l:List D2}(h:Va l):QP l=true:=by obtain⟨h1,h2,h3⟩:=h;unfold QP;simp only[AAG,AAU,AAR,AAb];refine⟨fun i hi=>?_,h3⟩;obtain⟨a1,a2,a3,a4,a5,a6⟩:=h2 _ (ABW hi);simp only[VO,AAF hi,YS h1 (fun x y h=>h) i hi,Ps,AAG,AAb];grind
theorem PO.ok{a:List PF}(h:PO a):Pl a=true:=by
 obtain⟨h1,h2,h3⟩:=h;unfold Pl;simp only[AAG,AAU,AAR,AAb];refine⟨h1,fun i hi=>?_⟩;obtain⟨⟨a1,a2⟩,⟨a3,a4⟩,a5⟩:=h3 _ (ABW hi);have hp:=YS (key:=(·.1)) h2 (fun x y h=>h.1) i hi
 have hh:((a.take i).all fun y => !(y.2.1==a[i].2.1))=true:=AAU.2 fun y hy=>by
  obtain⟨j,hj,rfl⟩:=AB2 hy;have yf:j<i:=by rw[List.length_take]at hj;omega
  have:=(ABQ.1 h2 j i (by omega) hi yf).2;rw[List.getElem_take];simpa using this
 simp only[aa,AAF hi,hp,hh,a5.ok,Ps,AAG,AAb];grind
theorem PO.sm{a:List PF}(h:PO a):PU a:=⟨by have:=h.1;omega,fun y hy=>by show y.2.2.length≤_;have:=(h.2.2 y hy).2.2.2.2;omega⟩
def PR(l:List D2)(k:Int):D2:=match l.find? (fun x=>x.1==k)with
 |some x=>x
 |none=>(k,0,0)
theorem YI(p:PF)(hl:p.2.2.length≤1048576)(k:Int)(n:Nat)(hn:PD≤n):Qj n p.1 p.2.1 p.2.2 k=some (PR p.2.2 k):=by
 unfold PR
 have hc:=PQ (σ:=Unit) (P4 p.2.2 k) (fun i _=>((i:Int),(0:Int),(0:Int),(0:Int))) p.2.2 (fun l _=>match l.find? (fun x=>x.1==k)with|some x=>.inr x|none=>.inl ((p.2.2.length:Int),0,0,0)) (fun _ _=>True)
  (fun s hs=>by simp[P4])
  (fun i x l s h1 h2 h3 h4 h5=>by
   have hx:p.2.2[i]=x:=by rw[AAF h1]at h2;exact Option.some.inj h2
   cases hq:(x.1==k)with
   |true=>right;simp[P4,h1,O6 h1,hx,hq]
   |false=>left;exact⟨(),by simp[P4,h1,O6 h1,hx,hq,O5 h1 (by omega)],trivial,by simp[hq]⟩)
  n (by unfold PD at hn;omega) () trivial
 unfold Qj;grind
def dG(x:D2)(l:List D2):List D2:=l.map fun y=>bif y.1==x.1 then x else y
theorem jA(l:List D2)(h:Va l)(x:D2)(hx:∃z∈l,z.1=x.1)(h0:(x.2.1==0)=false)(n:Nat)(hn:PD≤n):Tx n l x.1 x.2.1 x.2.2=some (dG x l):=by
 obtain⟨x0,x1,x2⟩:=x;dsimp only at h0 hx ⊢;have h8:=h.2.2
 have hc:=PQ (σ:=List D2×Bool) (Qo l x0 x1 x2) (fun i s=>(s.1,s.2,(i:Int))) l (fun r s=>(s.1++dG (x0,x1,x2) r,s.2||r.any (fun z=>z.1==x0),(l.length:Int)))
  (fun i s=>s.1.length≤i∧((s.2=false∧∃z∈l.drop i,z.1=x0)∨(s.2=true∧∀z∈l.drop i,z.1≠x0)))
  (fun s hs=>by simp[Qo,dG])
  (fun i y r s h1 h2 h3 h4 h5=>by
   left;have hy:l[i]=y:=by rw[AAF h1]at h2;exact Option.some.inj h2
   obtain⟨hlen,hs⟩:=h5;obtain⟨out,put⟩:=s;dsimp only at hlen hs ⊢;rw[h3]at hs;have hpw:(y::r).Pairwise (fun a b=>a.1<b.1):=h3▸h.1.drop;have hyr:=(ABm.1 hpw).1;unfold Qo;dsimp only;rw[show decide ((i:Int)<(l.length:Int))=true by simpa using h1,ABU,O6 h1,hy,O5 h1 (by omega)];simp only[ABT];have r1:∀(o:List D2)(w:D2),o.length≤i+1→decide (o.length+[w].length≤Dh)=true:=fun o w ho=>R3 (by omega);rcases hs with⟨rfl,z,hz,hzx⟩|⟨rfl,hs⟩
   ·simp only[ABp,ABU,ABT];by_cases he:y.1=x0
    ·rw[show decide (y.1≥x0)=true by simp;omega,ABU,r1 out _ (by omega),ABU,ABT];rw[show(y.1 != x0)=false by simp[he],ABV,ABT];refine⟨(out++[(x0,x1,x2)],true),rfl,⟨by show(out++[_]).length≤i+1;rw[AA2,ABb];omega,.inr ⟨rfl,fun w hw=>?_⟩⟩,?_⟩
     ·have:=hyr w (by rwa[h4]at hw);omega
     ·have:∀w∈r,(w.1==x0)=false:=fun w hw=>by have:=hyr w hw;rw[←ABj];simp;omega
      have e1:dG (x0,x1,x2) r=r:=by unfold dG;rw[AB1 (g:=id) fun w hw=>by dsimp only;rw[this w hw];rfl];simp
      simp only[dG,ABK,he,AB6,ABU,List.any_cons,Bool.true_or,Bool.or_true,ABo,AB5]
    ·have hzr:z∈r:=by
      rcases AAZ.1 hz with e|e
      ·subst e;exact absurd hzx he
      ·exact e
     have tX:=hyr z hzr;rw[show decide (y.1≥x0)=false by simp;omega,ABV,ABT];rw[show(y.1 != x0)=true by simpa using he,ABU,r1 out _ (by omega),ABU,ABT];refine⟨(out++[y],false),rfl,⟨by show(out++[_]).length≤i+1;rw[AA2,ABb];omega,.inl ⟨rfl,z,by rw[h4];exact hzr,hzx⟩⟩,?_⟩;have hb:(y.1==x0)=false:=by simpa using he
     simp only[dG,ABK,hb,ABV,List.any_cons,Bool.false_or,ABo,AB5]
   ·simp only[ABc,ABV,ABT];have he:y.1≠x0:=hs y AAe;rw[show(y.1 != x0)=true by simpa using he,ABU,r1 out _ (by omega),ABU,ABT];refine⟨(out++[y],true),rfl,⟨by show(out++[_]).length≤i+1;rw[AA2,ABb];omega,.inr ⟨rfl,fun w hw=>hs w (AAJ _ (by rwa[h4]at hw))⟩⟩,?_⟩;have hb:(y.1==x0)=false:=by simpa using he
    simp only[dG,ABK,hb,ABV,Bool.true_or,ABo,AB5])
  n (by unfold PD at hn;omega) (([]:List D2),false) ⟨by simp,.inl ⟨rfl,by simpa using hx⟩⟩
 unfold Tx;grind
section
variable {α β γ δ:Type}
theorem YH{f:α→Option (α⊕γ)}{g:β→Option (β⊕δ)}(R:α→β→Prop)(S:γ→δ→Prop)(μ:α→Nat)
  (h:∀x y,R x y→(∃z w,f x=some (.inr z)∧g y=some (.inr w)∧S z w)∨(∃x' y',f x=some (.inl x')∧g y=some (.inl y')∧R x' y'∧μ x'<μ x)):
  ∀n x y,R x y→μ x<n→∃z w,S z w∧iter n f x=some z∧iter n g y=some w:=by
 intro n
 induction n with
 |zero=>omega
 |succ n ih=>
  intro x y hR hn;rcases h x y hR with⟨z,w,h1,h2,h3⟩|⟨x',y',h1,h2,h3,h4⟩
  ·exact⟨z,w,h3,Pj h1 n,Pj h2 n⟩
  ·obtain⟨z,w,h5,h6,h7⟩:=ih x' y' h3 (by omega);exact⟨z,w,h5,(Rp h1 n).trans h6,(Rp h2 n).trans h7⟩
theorem dg{f:α→Option (α⊕γ)}{g:β→Option (β⊕δ)}(R:α→β→Prop)(S:γ→δ→Prop)(μ:α→Nat)
  (h:∀x y,R x y→(∃z w,f x=some (.inr z)∧g y=some (.inr w)∧S z w)∨(∃x' y',f x=some (.inl x')∧g y=some (.inl y')∧R x' y'∧μ x'<μ x)):
  ∀n n' x y,R x y→μ x<n→μ x<n'→∃z w,S z w∧iter n f x=some z∧iter n' g y=some w:=by
 intro n
 induction n with
 |zero=>omega
 |succ n ih=>
  intro n' x y hR hn yJ;obtain⟨n',rfl⟩:∃k,n'=k+1:=⟨n'-1,by omega⟩;rcases h x y hR with⟨z,w,h1,h2,h3⟩|⟨x',y',h1,h2,h3,h4⟩
  ·exact⟨z,w,h3,Pj h1 n,Pj h2 n'⟩
  ·obtain⟨z,w,h5,h6,h7⟩:=ih n' x' y' h3 (by omega) (by omega);exact⟨z,w,h5,(Rp h1 n).trans h6,(Rp h2 n').trans h7⟩
theorem XR{f:α→Option (α⊕γ)}(R:α→Prop)(S:γ→Prop)(μ:α→Nat)
  (h:∀x,R x→(∃z,f x=some (.inr z)∧S z)∨(∃x',f x=some (.inl x')∧R x'∧μ x'<μ x)):
  ∀n x,R x→μ x<n→∃z,S z∧iter n f x=some z:=by
 intro n
 induction n with
 |zero=>omega
 |succ n ih=>
  intro x hR hn;rcases h x hR with⟨z,h1,h3⟩|⟨x',h1,h3,h4⟩
  ·exact⟨z,h3,Pj h1 n⟩
  ·obtain⟨z,h5,h6⟩:=ih x' h3 (by omega);exact⟨z,h5,(Rp h1 n).trans h6⟩
end
section
variable {α:Type}{l:List α}{k:Nat}{y z:α}
def hole(l:List α)(k:Nat)(z:α):List α:=l.take k++z::l.drop k
theorem Rx(h:k≤l.length):(hole l k z).length=l.length+1:=by simp[hole];omega
theorem bH(h:l[k]?=some y):(hole l (k+1) z)[k]?=some y:=by obtain⟨hk,e⟩:=AAH.1 h;unfold hole;grind
theorem bU(h:l[k]?=some y):(hole l (k+1) z).set (k+1) y=hole l k y:=by obtain⟨hk,e⟩:=AAH.1 h;unfold hole;rw[ACC _ _ (by simp;omega)];rw[show k+1-(l.take (k+1)).length=0 by simp;omega,List.set_cons_zero,ABe hk,e,ABo,ABh hk,e];rfl
theorem Zs(h:k≤l.length)(x:α):(hole l k z).set k x=hole l k x:=by
 unfold hole;rw[ACC _ _ (by simp;omega),show k-(l.take k).length=0 by simp;omega,List.set_cons_zero]
theorem db(x:α):(hole l k x).Perm (x::l):=by unfold hole;have:=List.perm_middle (a:=x) (l₁:=l.take k) (l₂:=l.drop k);rwa[List.take_append_drop]at this
theorem aW{R:α→α→Prop}(htr:∀a b c,R a b→R b c→R a c)(hl:l.Pairwise R)(hk:k≤l.length){x:α}(h1:∀y∈l.drop k,R x y)(h2:∀y,l[k-1]?=some y→0<k→R y x):(hole l k x).Pairwise R:=by
 have yg:=hl;rw[←List.take_append_drop k l,ABk]at yg;obtain⟨p1,p2,p3⟩:=yg;unfold hole;rw[ABk]
 have hx:∀a∈l.take k,R a x:=by
  intro a ha;obtain⟨j,hj,e⟩:=ABY.1 ha;have hj2:j<k∧j<l.length:=by simp at hj;omega
  have e2:l[j]=a:=by rw[←e];simp
  have y7:k-1<l.length:=by omega
  have wH:=h2 l[k-1] (AAF y7) (by omega);by_cases hjk:j=k-1
  ·subst hjk;rw[←e2];exact wH
  ·have:=ABQ.1 hl j (k-1) hj2.2 y7 (by omega);rw[←e2];exact htr _ _ _ this wH
 refine⟨p1,ABm.2 ⟨h1,p2⟩,fun a ha b hb=>?_⟩;grind
end
theorem fB(L:Int×List Int→Option ((Int×List Int)⊕(Int×List Int)))(lt:Int→Bool)(l:List Int)
  (hgo:∀k y z,l[k]?=some y→lt y=true→L (((k+1:Nat):Int),hole l (k+1) z)=some (.inl ((k:Int),hole l k y)))
  (hstop:∀k y z,l[k]?=some y→lt y=false→L (((k+1:Nat):Int),hole l (k+1) z)=some (.inr (((k+1:Nat):Int),hole l (k+1) z)))
  (hend:∀z,L (0,hole l 0 z)=some (.inr (0,hole l 0 z))) (n:Nat) (hn:l.length<n) (x:Int):
  ∃(k:Nat) (z:Int),iter n L ((l.length:Int),l++[x])=some ((k:Int),hole l k z)∧k≤l.length∧(∀y∈l.drop k,lt y=true)∧(∀y,l[k-1]?=some y→0<k→lt y=false):=by
 have:=XR (f:=L) (fun s=>∃(k:Nat) (z:Int),s=((k:Int),hole l k z)∧k≤l.length∧∀y∈l.drop k,lt y=true)
  (fun s=>∃(k:Nat) (z:Int),s=((k:Int),hole l k z)∧k≤l.length∧(∀y∈l.drop k,lt y=true)∧(∀y,l[k-1]?=some y→0<k→lt y=false)) (fun s=>s.1.toNat) (fun s hs=>by
   obtain⟨k,z,rfl,hk,hd⟩:=hs;cases k with
   |zero=>exact .inl ⟨_,hend z,0,z,rfl,hk,hd,fun _ _ h=>absurd h (by simp)⟩
   |succ k=>
    have u7:k<l.length:=by omega
    have hg:l[k]?=some l[k]:=AAF u7;cases tX:lt l[k]with
    |true=>
     refine .inr ⟨_,hgo k l[k] z hg tX,⟨k,l[k],rfl,by omega,fun y hy=>?_⟩,by simp⟩;rw[ABh u7]at hy;rcases AAZ.1 hy with rfl|hy
     ·exact tX
     ·exact hd y hy
    |false=>
     refine .inl ⟨_,hstop k l[k] z hg tX,k+1,z,rfl,hk,hd,fun y hy _=>?_⟩;rw[Nat.add_sub_cancel,hg]at hy;injection hy with hy
     subst hy;exact tX) n ((l.length:Int),l++[x]) ⟨l.length,x,by simp[hole],AAd _,by simp⟩ (by simpa using hn)
 grind
structure Ord(lt:Int→Int→Bool)(xs:List Int):Prop where
 re:∀x,lt x x=false
 tr:∀x y z,lt x y=true→lt y z=true→lt x z=true
 RM:∀x∈xs,∀y∈xs,x≠y→lt x y=true∨lt y x=true
theorem ZF{lt:Int→Int→Bool}{xs a b:List Int}(ho:Ord lt xs)(ha:a.Pairwise fun x y=>lt x y=true)(hb:b.Pairwise fun x y=>lt x y=true)(pa:a.Perm xs)(pb:b.Perm xs):a=b:=
 List.Perm.eq_of_pairwise (le:=fun x y=>lt x y=true) (fun x y _ _ h1 h2=>by
  have:=ho.tr x y x h1 h2;rw[ho.re]at this;cases this) ha hb (pa.trans pb.symm)
theorem bq(L:List Int×Int→Option ((List Int×Int)⊕(List Int×Int)))(lt:Int→Int→Bool)(xs:List Int)(ur:xs.Nodup)(ho:Ord lt xs)
  (hstep:∀(i:Nat)(x:Int)(l:List Int),xs[i]?=some x→l.length=i→l.length<xs.length→(∀y∈l,y∈xs)→∃k≤l.length,L (l,(i:Int))=some (.inl (hole l k x,((i+1:Nat):Int)))∧(∀y∈l.drop k,lt x y=true)∧(∀y,l[k-1]?=some y→0<k→lt x y=false))
  (hend:∀l,L (l,(xs.length:Int))=some (.inr (l,(xs.length:Int)))) (n:Nat) (hn:xs.length<n):
  ∃l,iter n L ([],0)=some (l,(xs.length:Int))∧l.Perm xs∧l.Pairwise fun x y=>lt x y=true:=by
 have:=XR (f:=L) (fun s=>∃(i:Nat),s.2=(i:Int)∧i≤xs.length∧s.1.Perm (xs.take i)∧s.1.Pairwise fun x y=>lt x y=true)
  (fun s=>s.2=(xs.length:Int)∧s.1.Perm xs∧s.1.Pairwise fun x y=>lt x y=true) (fun s=>xs.length-s.2.toNat) (fun s hs=>by
   obtain⟨i,h1,h2,h3,h4⟩:=hs;obtain⟨l,j⟩:=s;dsimp only at h1 h3 h4;subst h1;by_cases hi:i=xs.length
   ·subst hi;rw[List.take_length]at h3;exact .inl ⟨_,hend l,rfl,h3,h4⟩
   ·have vF:i<xs.length:=by omega
    have hx:xs[i]?=some xs[i]:=AAF vF;have hlen:l.length=i:=by rw[h3.length_eq];simp;omega
    have wJ:∀y∈l,y∈xs:=fun y hy=>ACG (h3.mem_iff.1 hy);obtain⟨k,hk,e,q1,q2⟩:=hstep i xs[i] l hx hlen (by omega) wJ
    have hnx:xs[i]∉xs.take i:=fun hm=>by
     obtain⟨j,hj,e⟩:=ABY.1 hm;have hj2:j<i:=by simp at hj;omega
     have:=ABQ.1 ur j i (by omega) vF hj2;exact this (by rw[←e];simp)
    refine .inr ⟨_,e,⟨i+1,rfl,by omega,?_,?_⟩,by show xs.length-((i+1:Nat):Int).toNat<xs.length-(i:Int).toNat;omega⟩
    ·rw[ABe vF];exact(db _).trans ((h3.cons _).trans (List.perm_append_singleton _ _).symm)
    ·refine aW (R:=fun x y=>lt x y=true) (fun a b c=>ho.tr a b c) h4 hk q1 fun y hy xy=>?_;have hm:y∈l:=AAN hy;have tj:y≠xs[i]:=fun e=>hnx (e▸h3.mem_iff.1 hm);rcases ho.RM y (wJ y hm) xs[i] (ABW vF) tj with h|h
     ·exact h
     ·have:=q2 y hy xy;rw[h]at this;cases this) n ([],0) ⟨0,rfl,by omega,by simp,List.Pairwise.nil⟩ (by simpa using hn)
 grind
section
open Go.Sort
theorem bF(l:List Int)(k:Nat)(x:Int)(h:l[k]?=some x):l.toArray[k]! = x:=by grind
theorem kZ{l r:List Int}{k:Nat}{x:Int}(hk:k<l.length):swp (hole l (k+1) x++r).toArray (k+1) k=(hole l k x++r).toArray:=by
 have hg:=AAF hk;have e1:(hole l (k+1) x++r).toArray[k]! = l[k]:=bF _ _ _ (by rw[AAu (by rw[Rx (by omega)];omega),bH hg])
 have e2:(hole l (k+1) x++r).toArray[k+1]! = x:=bF _ _ _ (by
  rw[AAu (by rw[Rx (by omega)];omega)];unfold hole;grind)
 unfold swp;rw[e1,e2,List.setIfInBounds_toArray,List.setIfInBounds_toArray];rw[List.set_append_left _ _ (by rw[Rx (by omega)];omega),bU hg,List.set_append_left _ _ (by rw[Rx (by omega)];omega),Zs (by omega)]
theorem bp(lt:Int→Int→Bool)(l r:List Int)(x:Int):∀k,k≤l.length→(∀y∈l.drop k,lt x y=true)→
  ∃k'≤l.length,insInner lt 0 k (hole l k x++r).toArray=(hole l k' x++r).toArray∧(∀y∈l.drop k',lt x y=true)∧(∀y,l[k'-1]?=some y→0<k'→lt x y=false)
 |0,h,hd=>⟨0,h,rfl,hd,fun _ _ h=>absurd h (by omega)⟩
 |k+1,h,hd=>by
  have hk:k<l.length:=by omega
  have hg:=AAF hk;have e1:(hole l (k+1) x++r).toArray[k]! = l[k]:=bF _ _ _ (by rw[AAu (by rw[Rx (by omega)];omega),bH hg])
  have e2:(hole l (k+1) x++r).toArray[k+1]! = x:=bF _ _ _ (by
   rw[AAu (by rw[Rx (by omega)];omega)];unfold hole;grind)
  unfold insInner;rw[e1,e2];cases tX:lt x l[k]with
  |false=>
   grind
  |true=>
   rw[AAK (by simp),kZ hk];refine bp lt l r x k (by omega) fun y hy=>?_;rw[ABh hk]at hy;grind
theorem aZ(lt:Int→Int→Bool)(xs:List Int)(ur:xs.Nodup)(ho:Ord lt xs):∀d i l,i+d=xs.length→l.Perm (xs.take i)→(l.Pairwise fun x y=>lt x y=true)→
  ∃m:List Int,insOuter lt 0 xs.length i (l++xs.drop i).toArray=m.toArray∧m.Perm xs∧m.Pairwise fun x y=>lt x y=true
 |0,i,l,h,hp,hs=>by
  have:i=xs.length:=by omega
  subst this;rw[insOuter,AAM (by omega),List.drop_length,ABy];grind
 |d+1,i,l,h,h3,h4=>by
  have vF:i<xs.length:=by omega
  have hlen:l.length=i:=by rw[h3.length_eq];simp;omega
  have wJ:∀y∈l,y∈xs:=fun y hy=>ACG (h3.mem_iff.1 hy);rw[insOuter,AAK vF,ABh vF];obtain⟨k,hk,e,q1,q2⟩:=bp lt l (xs.drop (i+1)) xs[i] l.length (AAd _) (by simp);rw[show hole l l.length xs[i]++xs.drop (i+1)=l++xs[i]::xs.drop (i+1) by simp[hole],hlen]at e;rw[e]
  have hnx:xs[i]∉xs.take i:=fun hm=>by
   obtain⟨j,hj,e⟩:=ABY.1 hm;have hj2:j<i:=by simp at hj;omega
   have:=ABQ.1 ur j i (by omega) vF hj2;grind
  refine aZ lt xs ur ho d (i+1) _ (by omega) ?_ ?_
  ·rw[ABe vF];exact(db _).trans ((h3.cons _).trans (List.perm_append_singleton _ _).symm)
  ·refine aW (R:=fun x y=>lt x y=true) (fun a b c=>ho.tr a b c) h4 hk q1 fun y hy xy=>?_;have hm:y∈l:=AAN hy;have tj:y≠xs[i]:=fun e=>hnx (e▸h3.mem_iff.1 hm);rcases ho.RM y (wJ y hm) xs[i] (ABW vF) tj with h|h
   all_goals grind
end
theorem kX{lt:Int→Int→Option Bool}{xs:List Int}(hx:∀x∈xs,∀y∈xs,(lt x y).isSome=true)(h20:xs.length≤20)(ur:xs.Nodup)(ho:Ord (OS lt) xs):
  ∃l,Mj lt xs=some l∧l.Perm xs∧l.Pairwise fun x y=>OS lt x y=true:=by
 unfold Mj;by_cases h1:xs.length≤1
 ·rw[ABZ h1];refine⟨xs,rfl,.refl _,?_⟩
  match xs,h1 with
  | [],_=>exact .nil
  | [x],_=>simp
 ·rw[ABd h1,ABZ h20]
  have uZ:(xs.all fun x=>xs.all fun y=>(lt x y).isSome)=true:=by rw[AAU];intro x hx';rw[AAU];intro y wN;exact hx x hx' y wN
  rw[uZ]
  match xs,h1,ur,ho with
  |x::r,h1,ur,ho=>
   obtain⟨m,e,p,q⟩:=aZ (OS lt) (x::r) ur ho r.length 1 [x] (by simp;omega) (by simp) (by simp);refine⟨m,?_,p,q⟩;show some (Go.Sort.insertionSort (OS lt) (x::r).toArray 0 (x::r).length).toList=some m;unfold Go.Sort.insertionSort;grind
theorem X7(L:List Int×Int→Option ((List Int×Int)⊕(List Int×Int)))(xs:List Int)(P:Int→Bool)
  (hstep:∀(i:Nat)(x:Int)(out:List Int),xs[i]?=some x→i<xs.length→out.length≤i→L (out,(i:Int))=some (.inl ((bif P x then out++[x]else out),((i+1:Nat):Int))))
  (hend:∀out,L (out,(xs.length:Int))=some (.inr (out,(xs.length:Int)))) (n:Nat) (hn:xs.length<n):iter n L ([],0)=some (xs.filter P,(xs.length:Int)):=by
 obtain⟨z,h1,h2⟩:=XR (f:=L) (fun s=>∃i≤xs.length,s=((xs.take i).filter P,(i:Int))) (fun s=>s=(xs.filter P,(xs.length:Int))) (fun s=>xs.length-s.2.toNat) (fun s hs=>by
  obtain⟨i,hi,rfl⟩:=hs;by_cases hi2:i=xs.length
  ·grind
  ·have vF:i<xs.length:=by omega
   have hx:xs[i]?=some xs[i]:=AAF vF;have hlen:((xs.take i).filter P).length≤i:=AAw (ABs _ _) (by simp;omega);refine .inr ⟨_,hstep i _ _ hx vF hlen,⟨i+1,by omega,?_⟩,by show xs.length-((i+1:Nat):Int).toNat<xs.length-(i:Int).toNat;omega⟩;rw[ABe vF,List.filter_append];grind) n ([],0) ⟨0,by omega,by simp⟩ (by omega)
 rw[h2,h1]
def QN(w h i:Int):List Int:=(bif decide (i.tdiv w>0)then [i-w]else [])++(bif decide (i.tmod w>0)then [i-1]else [])++(bif decide (i.tmod w<w-1)then [i+1]else [])++(bif decide (i.tdiv w<h-1)then [i+w]else [])
structure Cell(w h i:Int):Prop where
 w1:1≤w
 w2:w≤10
 h1:1≤h
 h2:h≤10
 i1:0≤i
 i2:i<w*h
theorem ko{w h:Int}(h1:1≤w)(h2:w≤10)(h3:1≤h)(h4:h≤10):w*h≤100:=by have:=Int.mul_le_mul h2 h4 (by omega) (by omega:(0:Int)≤10);omega
theorem eh{w h i:Int}(c:Cell w h i):∃q r,i=w*q+r∧0≤r∧r<w∧0≤q∧q≤h-1∧i.tdiv w=q∧i.tmod w=r∧0≤w*q∧w*q+w≤w*h:=by obtain⟨w1,w2,h1,h2,i1,i2⟩:=c;have e1:i.tdiv w=i / w:=Int.tdiv_eq_ediv_of_nonneg i1;have e2:i.tmod w=i%w:=Int.tmod_eq_emod_of_nonneg i1;have e3:=Int.mul_ediv_add_emod i w;have r1:=Int.emod_nonneg i (show w≠0 by omega);have r2:=Int.emod_lt_of_pos i (show 0<w by omega);have q1:0≤i / w:=Int.ediv_nonneg i1 (by omega);have q2:i / w<h:=Int.ediv_lt_of_lt_mul (by omega) (by rw[Int.mul_comm];exact i2);refine⟨i / w,i%w,e3.symm,r1,r2,q1,by omega,e1,e2,Int.mul_nonneg (by omega) q1,?_⟩;have:=Int.mul_le_mul_of_nonneg_left (show i / w+1≤h by omega) (show(0:Int)≤w by omega);grind
theorem XG{w h i:Int}(c:Cell w h i):(∀y∈QN w h i,0≤y∧y<w*h∧y≠i)∧(QN w h i).Nodup∧(QN w h i).length≤4:=by
 obtain⟨q,r,e,r1,r2,q1,q2,e1,e2,m1,m2⟩:=eh c;obtain⟨w1,w2,h1,h2,i1,i2⟩:=c;unfold QN;rw[e1,e2]
 have g1:0<q→w≤w*q:=fun h=>by have:=Int.mul_le_mul_of_nonneg_left (show(1:Int)≤q by omega) (show(0:Int)≤w by omega);omega
 have g2:q<h-1→w*q+w+w≤w*h:=fun hq=>by have:=Int.mul_le_mul_of_nonneg_left (show q+1+1≤h by omega) (show(0:Int)≤w by omega);grind
 have G1:q≤0∨w≤w*q:=by
  by_cases hq:0<q
  ·omega
  ·omega
 have G2:h-1≤q∨w*q+w+w≤w*h:=by
  by_cases hq:q<h-1
  ·omega
  ·omega
 clear g1 g2;generalize w*q=m at *;generalize w*h=t at *;subst e;by_cases a1:q>0<;>by_cases a2:r>0<;>by_cases a3:r<w-1<;>by_cases a4:q<h-1<;>simp[a1,a2,a3,a4]<;>omega
theorem Zm{w h i:Int}(c:Cell w h i)(cs:List Int):TQ w h cs i=some (QN w h i):=by
 obtain⟨q,r,e,r1,r2,q1,q2,e1,e2,m1,m2⟩:=eh c;obtain⟨w1,w2,h1,h2,i1,i2⟩:=c;have hb:=ko w1 w2 h1 h2;unfold TQ QN;rw[e1,e2];rw[show(w==0)=false by rw[ABa];omega];simp only[ABV,PC (show -9223372036854775808≤q by omega) (by omega),PC (show -9223372036854775808≤i-w by omega) (by omega),PC (show -9223372036854775808≤i-1 by omega) (by omega),PC (show -9223372036854775808≤i+1 by omega) (by omega),PC (show -9223372036854775808≤i+w by omega) (by omega),PC (show -9223372036854775808≤w-1 by omega) (by omega),PC (show -9223372036854775808≤h-1 by omega) (by omega)];generalize decide (q>0)=b1;generalize decide (r>0)=b2;generalize decide (r<w-1)=b3;generalize decide (q<h-1)=b4;cases b1<;>cases b2<;>cases b3<;>cases b4<;>rfl
theorem dR:YB=TQ:=rfl
def O8(c:List Int)(i:Int):Int:=c.getD i.toNat 0
theorem WV{c:List Int}{i:Int}(h:0≤i∧i<(c.length:Int)):M8 c i=some (O8 c i):=by obtain⟨m,rfl⟩:∃m:Nat,i=m:=⟨i.toNat,by omega⟩;rw[O6 (by omega)];simp[O8,List.getD,AAF (show m<c.length by omega)]
structure iT(w h:Int)(c:List Int):Prop where
 w1:1≤w
 w2:w≤10
 h1:1≤h
 h2:h≤10
 len:(c.length:Int)=w*h
theorem iT.cell{w h:Int}{c:List Int}(f:iT w h c){i:Int}(hi:0≤i∧i<(c.length:Int)):Cell w h i:=⟨f.w1,f.w2,f.h1,f.h2,hi.1,f.len▸hi.2⟩
theorem iT.le{w h:Int}{c:List Int}(f:iT w h c):c.length≤100:=by have:=ko f.w1 f.w2 f.h1 f.h2;have:=f.len;omega
theorem Ve{w h:Int}{c:List Int}(hf:PS w h c=true):iT w h c:=by unfold PS Ps at hf;simp only[AAG,AAb,AAS]at hf;obtain⟨⟨⟨⟨a,b⟩,⟨d,e⟩⟩,g⟩,_⟩:=hf;have h1:=ko a b d e;have h2:0≤w*h:=Int.mul_nonneg (by omega) (by omega);rw[PC (by omega) (by omega)]at g;exact⟨a,b,d,e,g⟩
def RR(w h:Int)(c:List Int)(i:Int)(a:Bool):List Int:=(QN w h i).filter fun k=>O8 c k != 0 && !(a&&O8 c k==2)
theorem ZU{w h:Int}{c:List Int}(f:iT w h c){i:Int}(hi:0≤i∧i<(c.length:Int))(a:Bool):(∀y∈RR w h c i a,(0≤y∧y<(c.length:Int))∧y≠i)∧(RR w h c i a).Nodup∧(RR w h c i a).length≤4:=by obtain⟨h1,h2,h3⟩:=XG (f.cell hi);refine⟨fun y hy=>?_,h2.filter _,AAw (ABs _ _) h3⟩;have:=h1 y (ABq.1 hy).1;rw[f.len];omega
theorem Zi{w h:Int}{c:List Int}(f:iT w h c){i:Int}(hi:0≤i∧i<(c.length:Int))(a:Bool)(n:Nat)(hn:PD≤n):VX n w h c i a=some (RR w h c i a):=by
 obtain⟨h1,h2,h3⟩:=XG (f.cell hi)
 have:=X7 (UX c a (QN w h i)) (QN w h i) (fun k=>O8 c k != 0 && !(a&&O8 c k==2)) (fun j x out hx hj ho=>by
  have hxm:=h1 x (AAN hx);have hm:decide (out.length+[x].length≤Dh)=true:=by rw[AAb];simp[Dh];omega
  simp only[UX,PA hj,ABX,hx,ABT,WV (c:=c) (i:=x) (by rw[f.len];exact⟨hxm.1,hxm.2.1⟩),O5 hj (by omega),ABU,hm];grind) (fun out=>by simp[UX]) n (by unfold PD at hn;omega)
 unfold VX;rw[Zm (f.cell hi),ABT,this];rfl
theorem ZR{w h:Int}{c:List Int}(f:iT w h c){i:Int}(hi:0≤i∧i<(c.length:Int))(a:Bool)(n:Nat)(hn:PD≤n):Yf n w h c i a=some (RR w h c i a):=by
 obtain⟨h1,h2,h3⟩:=XG (f.cell hi)
 have:=X7 (Vr c a (QN w h i)) (QN w h i) (fun k=>O8 c k != 0 && !(a&&O8 c k==2)) (fun j x out hx hj ho=>by
  have hxm:=h1 x (AAN hx);have hm:decide (out.length+[x].length≤Dh)=true:=by rw[AAb];simp[Dh];omega
  simp only[Vr,PA hj,ABX,hx,ABT,WV (c:=c) (i:=x) (by rw[f.len];exact⟨hxm.1,hxm.2.1⟩),O5 hj (by omega),ABU,hm];grind) (fun out=>by simp[Vr]) n (by unfold PD at hn;omega)
 unfold Yf;rw[dR,Zm (f.cell hi),ABT,this];rfl
structure FJ(N:Nat)(q out:List Int):Prop where
 len:out.length=N
 rf:∀y∈q,0≤y∧y<(N:Int)
 Mp:∀x∈out, -1≤x∧x<(q.length:Int)
 O1:q.length+out.countP (fun x=>decide (x<0))=N
theorem S8{out:List Int}{v:Int}(h:0≤v∧v<(out.length:Int)):Ob out v=true∧out[v.toNat]?=some (O8 out v)∧O8 out v∈out:=by
 obtain⟨m,rfl⟩:∃m:Nat,v=m:=⟨v.toNat,by omega⟩;have hm:m<out.length:=by omega
 have e:O8 out (m:Int)=out[m]:=by simp[O8,List.getD,AAF hm]
 refine⟨PA hm,?_,?_⟩
 all_goals grind
theorem FJ.oP{N:Nat}{q out:List Int}(h:FJ N q out){v a:Int}(hv:0≤v∧v<(N:Int))(ha:0≤a∧a<(N:Int))(hneg:O8 out v<0):FJ N (q++[v]) (out.set v.toNat (O8 out a+1)):=by
 obtain⟨_,e1,_⟩:=S8 (out:=out) (v:=v) (by rw[h.len];exact hv);obtain⟨_,_,m2⟩:=S8 (out:=out) (v:=a) (by rw[h.len];exact ha);have hb:=h.Mp _ m2;obtain⟨ug,e2⟩:=AAH.1 e1;refine⟨by simp[h.len],fun y hy=>?_,fun x hx=>?_,?_⟩
 ·rcases AAy.1 hy with hy|hy
  ·exact h.rf y hy
  grind
 ·rcases ABA hx with hx|rfl
  ·have:=h.Mp x hx;simp;omega
  grind
 ·have hc:=h.O1;grind
theorem jr(w h:Int)(c:List Int)(N:Nat)(hN:N≤100)(a:Int)(ha:0≤a∧a<(N:Int))(nl:List Int)(vT:∀y∈nl,0≤y∧y<(N:Int))(hl4:nl.length≤4)(k:Nat)(n n':Nat)(hn:PD≤n)(yJ:PD≤n')(q out:List Int)(hk:k≤q.length)(hJ:FJ N q out):
  ∃q' out',iter n (Q2 a nl) (q,0,out)=some (q',(nl.length:Int),out')∧iter n' (SF a nl) (q.drop k,0,out)=some (q'.drop k,(nl.length:Int),out')∧k≤q'.length∧FJ N q' out':=by
 obtain⟨z,w',⟨q',out',rfl,rfl,h1,h2⟩,h3,h4⟩:=dg (f:=Q2 a nl) (g:=SF a nl)
  (fun x y=>∃(i:Nat) (q out:List Int),x=(q,(i:Int),out)∧y=(q.drop k,(i:Int),out)∧i≤nl.length∧k≤q.length∧FJ N q out)
  (fun z w=>∃(q out:List Int),z=(q,(nl.length:Int),out)∧w=(q.drop k,(nl.length:Int),out)∧k≤q.length∧FJ N q out)
  (fun x=>nl.length-x.2.1.toNat) (fun x y hR=>by
   obtain⟨i,q,out,rfl,rfl,hi,hk,hJ⟩:=hR;by_cases hi2:i=nl.length
   ·subst hi2;exact .inl ⟨(q,(nl.length:Int),out),(q.drop k,(nl.length:Int),out),by simp[Q2],by simp[SF],q,out,rfl,rfl,hk,hJ⟩
   ·right;have vF:i<nl.length:=by omega
    have hv:=vT nl[i] (ABW vF);have hx:nl[i]?=some nl[i]:=AAF vF;generalize nl[i]=v at hv hx;obtain⟨v1,v2,v3⟩:=S8 (out:=out) (v:=v) (by rw[hJ.len];exact hv);obtain⟨a1,a2,a3⟩:=S8 (out:=out) (v:=a) (by rw[hJ.len];exact ha);have hd:decide ((i:Int)<(nl.length:Int))=true:=by simpa using vF
    have hq:q.length≤100:=by have:=hJ.O1;omega
    have hw:O9 (O8 out a+1)=O8 out a+1:=by have:=hJ.Mp _ a3;exact PC (by omega) (by omega)
    by_cases hneg:O8 out v<0
    ·refine⟨(q++[v],((i+1:Nat):Int),out.set v.toNat (O8 out a+1)),((q++[v]).drop k,((i+1:Nat):Int),out.set v.toNat (O8 out a+1)),?_,?_,⟨i+1,_,_,rfl,rfl,by omega,by simp;omega,hJ.oP hv ha hneg⟩,by show nl.length-((i+1:Nat):Int).toNat<nl.length-(i:Int).toNat;omega⟩
     ·have hm:decide (q.length+[v].length≤Dh)=true:=by rw[AAb];simp[Dh];omega
      simp only[Q2,hd,PA vF,ABX,hx,ABT,v1,v2,a1,a2,ABZ hneg,ABU,hm,hw,O5 vF (by omega),Pw]
     ·have hm:decide ((q.drop k).length+[v].length≤Dh)=true:=by rw[AAb];simp[Dh];omega
      simp only[SF,hd,PA vF,ABX,hx,ABT,v1,v2,a1,a2,ABZ hneg,ABU,hm,hw,O5 vF (by omega),Pw];rw[List.drop_append_of_le_length hk]
    ·refine⟨(q,((i+1:Nat):Int),out),(q.drop k,((i+1:Nat):Int),out),?_,?_,⟨i+1,_,_,rfl,rfl,by omega,hk,hJ⟩,by show nl.length-((i+1:Nat):Int).toNat<nl.length-(i:Int).toNat;omega⟩
     ·simp only[Q2,hd,PA vF,ABX,hx,ABT,v1,v2,ABd hneg,ABU,ABV,O5 vF (by omega)]
     ·simp only[SF,hd,PA vF,ABX,hx,ABT,v1,v2,ABd hneg,ABU,ABV,O5 vF (by omega)]) n n' (q,0,out) (q.drop k,0,out) ⟨0,q,out,rfl,rfl,by omega,hk,hJ⟩ (by show nl.length-(0:Int).toNat<n;unfold PD at hn;omega) (by show nl.length-(0:Int).toNat<n';unfold PD at yJ;omega)
 grind
theorem gD(c:List Int)(hl:c.length≤100)(n:Nat)(hn:PD≤n):iter n (SC c) ([],0)=some (List.replicate c.length (-1),(c.length:Int)):=by
 have:=Ph (SC c) (fun i=>(List.replicate i (-1),(i:Int))) c.length (List.replicate c.length (-1),(c.length:Int)) (fun i hi=>by
  have hm:decide ((List.replicate i (-1:Int)).length+[(-1:Int)].length≤Dh)=true:=by rw[AAb];simp[Dh];omega
  simp only[SC,hm,O5 hi (by omega)];rw[show decide ((i:Int)<(c.length:Int))=true by simpa using hi];simp[ACF]) (by simp[SC]) n (by unfold PD at hn;omega)
 grind
theorem fW(L:Int×List Int→Option ((Int×List Int)⊕(Int×List Int)))(N:Nat)(x:Int)(hL:∀(i:Nat)(out:List Int),i<N→out.length=N→L ((i:Int),out)=some (.inl (((i+1:Nat):Int),out.set i x)))(he:∀out,out.length=N→L ((N:Int),out)=some (.inr ((N:Int),out)))(n:Nat)(hn:N<n):
  iter n L (0,List.replicate N 0)=some ((N:Int),List.replicate N x):=by
 have:=Ph L (fun i=>((i:Int),List.replicate i x++List.replicate (N-i) 0)) N ((N:Int),List.replicate N x) (fun i hi=>by
  rw[hL i _ hi (by simp;omega)];congr 3;rw[ACC _ _ (by simp),List.length_replicate,Nat.sub_self,ACF];rw[show N-i=(N-(i+1))+1 by omega,List.replicate_succ,List.set_cons_zero,ABo];rfl) (by rw[he _ (by simp)];simp) n hn
 grind
theorem aq(c:List Int)(hl:c.length≤100)(n:Nat)(hn:PD≤n):iter n (U4 c) (0,List.replicate (Int.toNat (c.length:Int)) 0)=some ((c.length:Int),List.replicate c.length (-1)):=by rw[ABX];refine fW _ c.length (-1) (fun i out hi ho=>?_) (fun out ho=>by simp[U4]) n (by unfold PD at hn;omega);simp only[U4,PA (ho▸hi),O5 hi (by omega),Pw,ABX,ABU,List.length_replicate];grind
theorem Zq{w h:Int}{c:List Int}(f:iT w h c){t:Int}(ht:0≤t∧t<(c.length:Int))(b:Bool)(n n':Nat)(hn:PD≤n)(yJ:PD≤n'):
  ∃F,S5 n w h c t b=some F∧Uk n' w h c t b=some F∧F.length=c.length∧∀x∈F, -1≤x∧x<(c.length:Int):=by
 have hN:=f.le;have hB:1048576≤n:=AAw (by decide) hn;have hB':1048576≤n':=AAw (by decide) yJ
 have hJ0:FJ c.length [t] ((List.replicate c.length (-1)).set t.toNat 0):=by
  have hr:∀x∈List.replicate c.length (-1:Int),x = -1:=fun x hx=>(List.mem_replicate.1 hx).2;have htl:t.toNat<(List.replicate c.length (-1:Int)).length:=by simp;omega
  refine⟨by simp,fun y hy=>by grind,fun x hx=>?_,?_⟩
  ·grind
  ·rw[List.countP_set htl];have:(List.replicate c.length (-1:Int)).countP (fun x=>decide (x<0))=c.length:=by rw[List.countP_replicate];simp
   grind
 obtain⟨z,w',⟨F,hz,hw,h1,h2⟩,h3,h4⟩:=dg (f:=SD n w h c t b) (g:=TG n' w h c t b)
  (fun x y=>∃(k:Nat) (q out:List Int),x=(q,(k:Int),out)∧y=(q.drop k,out)∧k≤q.length∧FJ c.length q out)
  (fun z w=>∃F,z.2.2=F∧w.2=F∧F.length=c.length∧∀x∈F, -1≤x∧x<(c.length:Int))
  (fun x=>c.length-x.2.1.toNat) (fun x y hR=>by
   obtain⟨k,q,out,rfl,rfl,hk,hJ⟩:=hR;have hq:q.length≤c.length:=by have:=hJ.O1;omega
   by_cases hk2:k=q.length
   ·subst hk2;refine .inl ⟨(q,(q.length:Int),out),([],out),by simp[SD],by simp[TG],out,rfl,rfl,hJ.len,fun x hx=>?_⟩;have:=hJ.Mp x hx;omega
   ·right;have u7:k<q.length:=by omega
    have hx:q[k]?=some q[k]:=AAF u7;have hv:=hJ.rf q[k] (ABW u7);have hdc:q.drop k=q[k]::q.drop (k+1):=ABh u7;generalize q[k]=v at hx hv hdc;have hd:decide ((k:Int)<(q.length:Int))=true:=by simpa using u7
    have wI:decide (((q.drop k).length:Int)>0)=true:=by rw[AAb];simp;omega
    have uX:sub (q.drop k) (Int.toNat 1) (Int.toNat ((q.drop k).length:Int))=q.drop (k+1):=by rw[hdc];simp[sub,ACB]
    have hrng:(decide ((0:Nat)≤1)&&decide ((1:Int)≤((q.drop k).length:Int))&&decide (((q.drop k).length:Int)≤((q.drop k).length:Int)))=true:=by simp;omega
    have h0:(q.drop k)[Int.toNat 0]?=some v:=by rw[hdc];rfl
    have xu:Ob (q.drop k) 0=true:=by rw[hdc];exact PA (i:=0) (by simp)
    have hwk:=O5 u7 (by omega);have hkc:=WV (c:=c) (i:=v) (by exact hv);by_cases hskip:(b&&v != t&&O8 c v==2)=true
    ·refine⟨(q,((k+1:Nat):Int),out),(q.drop (k+1),out),?_,?_,⟨k+1,q,out,rfl,rfl,by omega,hJ⟩,by grind⟩
     ·simp only[SD,hd,PA u7,ABX,hx,ABT,ABU,hkc,hwk];grind
     ·simp only[TG,wI,xu,h0,ABT,ABU,hrng,hkc,uX];grind
    ·obtain⟨n1,n2,n3⟩:=ZU f hv false;obtain⟨q',out',e1,e2,e3,e4⟩:=jr w h c c.length hN v hv (RR w h c v false) (fun y hy=>(n1 y hy).1) n3 (k+1) n n' hn yJ q out (by omega) hJ;refine⟨(q',((k+1:Nat):Int),out'),(q'.drop (k+1),out'),?_,?_,⟨k+1,q',out',rfl,rfl,e3,e4⟩,by grind⟩
     ·simp only[SD,hd,PA u7,ABX,hx,ABT,ABU,hkc,hwk,Zi f hv false n hn,e1];grind
     ·simp only[TG,wI,xu,h0,ABT,ABU,hrng,hkc,uX,ZR f hv false n' yJ,e2];grind) n n' ([t],0,(List.replicate c.length (-1)).set t.toNat 0) ([t],(List.replicate c.length (-1)).set t.toNat 0) ⟨0,[t],_,rfl,rfl,by simp,hJ0⟩ (by omega) (by omega)
 have tS:Ob (List.replicate c.length (-1:Int)) t=true:=(S8 (by grind)).1
 have hmr:(decide ((0:Int)≤(c.length:Int))&&decide ((c.length:Int)≤(Dh:Int))&&decide ((c.length:Int)=(c.length:Int)))=true:=by
  have hm:(c.length:Int)≤(Dh:Int):=by unfold Dh;omega
  rw[ABZ hm];simp
 refine⟨F,?_,?_,h1,h2⟩
 ·unfold S5;rw[gD c hN n hn,ABT];dsimp only;rw[tS,Pw,h3,←hz];rfl
 ·unfold Uk;rw[hmr,aq c hN n' yJ,ABU,ABT];dsimp only;rw[tS,Pw,h4,←hw];rfl
theorem eu{w h:Int}{c:List Int}(f:iT w h c){t:Int}(ht:0≤t∧t<(c.length:Int))(b:Bool):
  ∃F,(∀n,PD≤n→S5 n w h c t b=some F∧Uk n w h c t b=some F)∧F.length=c.length∧∀x∈F, -1≤x∧x<(c.length:Int):=by
 obtain⟨F,h1,h2,h3,h4⟩:=Zq f ht b PD PD (AAd _) (AAd _);refine⟨F,fun n hn=>⟨?_,?_⟩,h3,h4⟩
 ·obtain⟨G,g1,g2,_⟩:=Zq f ht b n PD hn (AAd _);grind
 ·obtain⟨G,g1,g2,_⟩:=Zq f ht b PD n (AAd _) hn;grind
theorem eQ(a b c:Int):PE a b c=some (decide (b≤a)&&decide (a≤c)):=by unfold PE;grind
theorem bj(a b c:Int):PY a b c=some (decide (b≤a)&&decide (a≤c)):=by unfold PY;grind
def Pv(t:Int×Int×Int×Int):Bool:=
 decide (1≤t.1)&&decide (t.1≤1000000)&&decide (1≤t.2.1)&&decide (t.2.1≤999)&&decide (1≤t.2.2.2)&&decide (t.2.2.2≤4)&&decide (0≤t.2.2.1)&&decide (t.2.2.1≤99)&&((t.2.2.1==0)==(t.2.2.2==1))
def Pd(t u:Int×Int×Int×Int):Bool:=
 (t.1==u.1&&t.2.1==u.2.1)||(!(t.2.2.2==1)&&(t.2.2.1==u.2.2.1||(t.2.1==u.2.1 && !(u.2.2.2==1))))
def RI:List (Int×Int×Int×Int)→List (Int×Int×Int×Int)→Bool
 |_,[]=>true
 |p,x::l=>Pv x&&p.all (fun u => !Pd x u)&&RI (p++[x]) l
def SO(l:List (Int×Int×Int×Int)):Bool:=decide (l.length≤60)&&RI [] l
theorem sub_zero{α:Type}(xs:List α)(i:Nat):sub xs (Int.toNat (0:Int)) (Int.toNat (i:Int))=xs.take i:=by simp[sub]
theorem gF(x u:Int×Int×Int×Int)(i:Nat)(a:List (Int×Int×Int×Int))(k:Nat)(hk:k<(a.take i).length)(hu:(a.take i)[k]?=some u)(hm:a.length≤1048576):
  Qu a i x k=some (bif Pd x u then .inr (.inr false)else .inl ((k+1:Nat):Int)):=by
 unfold Qu;rw[sub_zero,TA,hu];have u7:decide ((k:Int)<((a.take i).length:Int))=true:=by simp only[AAb];omega
 rw[u7,ABU,O5 hk (by simp;omega)];simp only[ABT,Pd];grind
theorem gj(x u:Int×Int×Int×Int)(i:Nat)(a:List (Int×Int×Int×Int))(k:Nat)(hk:k<i)(hu:a[k]?=some u)(hi:i≤a.length)(hm:a.length≤1048576):
  Q0 a i x k=some (bif Pd x u then .inr (.inr false)else .inl ((k+1:Nat):Int)):=by
 unfold Q0;rw[TA,hu];have u7:decide ((k:Int)<(i:Int))=true:=by simp only[AAb];omega
 rw[u7,ABU,O5 hk (by omega)];simp only[ABT,Pd];grind
theorem gG(x:Int×Int×Int×Int)(i:Nat)(a:List (Int×Int×Int×Int))(hi:i≤a.length)(hm:a.length≤1048576)(n:Nat)(hn:PD≤n):
  iter n (Qu a i x) 0=some (bif(a.take i).all (fun u => !Pd x u)then .inl (i:Int)else .inr false):=by
 have hl:(a.take i).length=i:=by simp;omega
 refine(WG (Qu a i x) (a.take i) (fun p l=>bif l.all (fun u => !Pd x u)then .inl (i:Int)else .inr false) ?_ ?_ n (by unfold PD at hn;omega))
 ·unfold Qu;rw[sub_zero,hl];simp[hl]
 ·intro k u l p h1 h2 h3 h4 h5;rw[gF x u i a k h1 h2 hm];grind
theorem gl(x:Int×Int×Int×Int)(i:Nat)(a:List (Int×Int×Int×Int))(hi:i≤a.length)(hm:a.length≤1048576)(n:Nat)(hn:PD≤n):
  iter n (Q0 a i x) 0=some (bif(a.take i).all (fun u => !Pd x u)then .inl (i:Int)else .inr false):=by
 have hl:(a.take i).length=i:=by simp;omega
 refine(WG (Q0 a i x) (a.take i) (fun p l=>bif l.all (fun u => !Pd x u)then .inl (i:Int)else .inr false) ?_ ?_ n (by unfold PD at hn;omega))
 ·unfold Q0;rw[hl];simp
 ·intro k u l p h1 h2 h3 h4 h5;have hk:k<i:=by omega
  rw[gj x u i a k hk (by rw[List.getElem?_take_of_lt hk]at h2;exact h2) hi hm];grind
theorem iv(x:Int×Int×Int×Int):
  ((PY x.1 1 1000000).bind fun(x3:Bool)=>bif(!x3)then some true else(PY x.2.1 1 999).bind fun(x4:Bool)=>bif(!x4)then some true else(PY x.2.2.2 1 4).bind fun(x5:Bool)=>bif(!x5)then some true else
   bif((x.2.2.2==1) != (x.2.2.1==0))then some true else(PY x.2.2.1 0 99).bind fun(x6:Bool)=>some (!x6))=some (!Pv x):=by
 simp only[bj,ABT,Pv];grind
theorem jW(x:Int×Int×Int×Int):
  ((PE x.1 1 1000000).bind fun(x3:Bool)=>bif(!x3)then some true else(PE x.2.1 1 999).bind fun(x4:Bool)=>bif(!x4)then some true else(PE x.2.2.2 1 4).bind fun(x5:Bool)=>bif(!x5)then some true else
   (PE x.2.2.1 0 99).bind fun(x6:Bool)=>bif(!x6)then some true else some ((x.2.2.1==0) != (x.2.2.2==1)))=some (!Pv x):=by
 simp only[eQ,ABT,Pv]
 cases decide (1≤x.1)<;>cases decide (x.1≤1000000)<;>cases decide (1≤x.2.1)<;>cases decide (x.2.1≤999)<;>cases decide (1≤x.2.2.2)<;>cases decide (x.2.2.2≤4)<;>simp <;>
  cases(x.2.2.2==1)<;>cases(x.2.2.1==0)<;>cases decide (0≤x.2.2.1)<;>cases decide (x.2.2.1≤99)<;>simp
theorem ao(a:List (Int×Int×Int×Int))(hm:a.length≤1048576)(n:Nat)(hn:PD≤n):Vp n a=some (SO a):=by
 have key:iter n (Qt n a) 0=some (bif RI [] a then .inl (a.length:Int)else .inr false):=by
  refine WG (Qt n a) a (fun p l=>bif RI p l then .inl (a.length:Int)else .inr false) ?_ ?_ n (by unfold PD at hn;omega)
  ·unfold Qt;simp[RI]
  ·intro i x l p h1 h2 h3 h4 h5
   have e:Qt n a i=some (bif Pv x&&p.all (fun u => !Pd x u)then .inl ((i+1:Nat):Int)else .inr (.inr false)):=by
    unfold Qt;rw[show decide ((i:Int)<(a.length:Int))=true by grind,ABU,TA,h2];simp only[ABT,iv,O5 h1 (by omega)];cases hg:Pv x with
    |false=>simp
    |true=>
     rw[show(decide ((0:Int)≤(0:Int))&&decide ((0:Int)≤(i:Int))&&decide ((i:Int)≤(a.length:Int)))=true by simp;omega];rw[gG x i a (by omega) hm n hn,←h5];grind
   rw[e];cases hg:(Pv x&&p.all fun u => !Pd x u)with
   |true=>exact .inl ⟨by simp,by simp[RI,hg]⟩
   |false=>exact .inr (by simp[RI,hg])
 unfold Vp;rw[key];cases h:RI [] a with
 |true=>simp[SO,h];omega
 |false=>simp[SO,h]
theorem Xy(a:List (Int×Int×Int×Int))(hm:a.length≤1048576)(n:Nat)(hn:PD≤n):UT n a=some (SO a):=by
 have key:iter n (Qz n a) 0=some (bif RI [] a then .inl (a.length:Int)else .inr false):=by
  refine WG (Qz n a) a (fun p l=>bif RI p l then .inl (a.length:Int)else .inr false) ?_ ?_ n (by unfold PD at hn;omega)
  ·unfold Qz;simp[RI]
  ·intro i x l p h1 h2 h3 h4 h5
   have e:Qz n a i=some (bif Pv x&&p.all (fun u => !Pd x u)then .inl ((i+1:Nat):Int)else .inr (.inr false)):=by
    unfold Qz;rw[show decide ((i:Int)<(a.length:Int))=true by grind,ABU,TA,h2];simp only[ABT,jW,O5 h1 (by omega)];cases hg:Pv x with
    |false=>simp
    |true=>
     rw[gl x i a (by omega) hm n hn,←h5];grind
   rw[e];cases hg:(Pv x&&p.all fun u => !Pd x u)with
   |true=>exact .inl ⟨by simp,by simp[RI,hg]⟩
   |false=>exact .inr (by simp[RI,hg])
 unfold UT;rw[key];by_cases hl:a.length≤60
 ·rw[show decide ((a.length:Int)>60)=false by simp;omega];cases h:RI [] a with
  |true=>simp[SO,h,hl]
  |false=>simp[SO,h]
 ·rw[show decide ((a.length:Int)>60)=true by simp;omega];simp[SO,hl]
def AS:List (Nat→Int)→List Nat→Int→Prop
 | [],_,x=>x=0
 |r::rs,S,x=>∃k∈S,∃y,AS rs (S.erase k) y∧x=r k+y
def mK(R:List (Nat→Int))(S:List Nat)(x:Int):Prop:=AS R S x∧∀y,AS R S y→x≤y
theorem mK.uniq{R:List (Nat→Int)}{S:List Nat}{x y:Int}(h1:mK R S x)(h2:mK R S y):x=y:=
 Int.le_antisymm (h1.2 y h2.1) (h2.2 x h1.1)
def Qc:List Int→Int
 | []=>0
 |x::l=>x+Qc l
theorem cV:∀a b:List Int,Qc (a++b)=Qc a+Qc b
 | [],b=>by simp[Qc]
 |x::a,b=>by simp only[ABH,Qc,cV a b];omega
theorem ZH(v:Nat→Int):∀(S:List Nat)(k:Nat),k∈S→Qc (S.map v)=v k+Qc ((S.erase k).map v)
 | [],k,h=>by cases h
 |a::S,k,h=>by
  by_cases e:a=k
  ·subst e;simp[Qc]
  ·have hk:k∈S:=by
    rcases AAZ.1 h with h|h
    ·omega
    ·exact h
   have e2:(a==k)=false:=by simpa using e
   rw[List.erase_cons,e2];simp only[ABC,if_false,ABK,Qc,ZH v S k hk];omega
theorem fi(v:Nat→Int):∀(S:List Nat),(∀k∈S,v k≤0)→Qc (S.map v)≤0
 | [],_=>by simp[Qc]
 |a::S,h=>by simp only[ABK,Qc];have:=fi v S (fun k hk=>h k (AAJ _ hk));grind
theorem AS.ge(v:Nat→Int):∀(R:List (Nat→Int)) (u:List Int) (S:List Nat) (x:Int),u.length=R.length→(∀i (hi:i<R.length) (hu:i<u.length),∀k∈S,u[i]+v k≤R[i] k)→(∀k∈S,v k≤0)→AS R S x→Qc u+Qc (S.map v)≤x
 | [],u,S,x,hl,_,hv,hx=>by obtain rfl:u=[]:=AAP hl;have:=fi v S hv;simp only[AS]at hx;simp only[Qc];omega
 |r::R,[],S,x,hl,_,_,_=>by simp at hl
 |r::R,u0::u,S,x,hl,hc,hv,hx=>by
  obtain⟨k,hk,y,hy,rfl⟩:=hx
  have ih:=AS.ge v R u (S.erase k) y (by grind) (fun i hi hu q hq=>by
   have:=hc (i+1) (by simp;omega) (by simp;omega) q (ABn hq);simpa using this) (fun q hq=>hv q (ABn hq)) hy
  have h0:=hc 0 (by simp) (by simp) k hk;simp only[List.getElem_cons_zero]at h0;rw[ZH v S k hk];simp only[Qc];omega
theorem dr(f:Nat→Int):∀(S:List Nat),(∀k∈S,f k=0)→Qc (S.map f)=0
 | [],_=>rfl
 |a::S,h=>by simp only[ABK,Qc,dr f S (fun k hk=>h k (AAJ _ hk)),h a AAe];omega
theorem gr(f:Nat→Int):∀(cs S:List Nat),cs.Nodup→S.Nodup→(∀k∈cs,k∈S)→(∀k∈S,k∉cs→f k=0)→Qc (S.map f)=Qc (cs.map f)
 | [],S,_,_,_,h=>by rw[dr f S (fun k hk=>h k hk (by simp))];rfl
 |k::cs,S,hn,hS,hs,h=>by
  obtain⟨h1,h2⟩:=AAY.1 hn;rw[ZH f S k (hs k AAe),gr f cs (S.erase k) h2 (hS.erase k) (fun q hq=>?_) (fun q hq hc=>?_)]
  ·rfl
  all_goals grind
theorem ZW:∀(a b:List Nat),a.Nodup→(∀x∈a,x∈b)→a.length≤b.length
 | [],_,_,_=>by simp
 |x::a,b,hn,hs=>by obtain⟨h1,h2⟩:=AAY.1 hn;have hx:=hs x AAe;have:=ZW a (b.erase x) h2 (fun q hq=>(List.mem_erase_of_ne (fun e:q=x=>h1 (e▸hq))).2 (hs q (AAJ _ hq)));grind
def jK:List (Nat→Int)→List Nat→Int
 |r::rs,k::ks=>r k+jK rs ks
 |_,_=>0
theorem AS.of:∀(R:List (Nat→Int)) (cs:List Nat) (S:List Nat),cs.length=R.length→cs.Nodup→(∀k∈cs,k∈S)→AS R S (jK R cs)
 | [],[],S,_,_,_=>rfl
 | [],c::cs,S,hl,_,_=>by simp at hl
 |r::R,[],S,hl,_,_=>by simp at hl
 |r::R,k::cs,S,hl,hn,hs=>by obtain⟨h1,h2⟩:=AAY.1 hn;refine⟨k,hs k AAe,jK R cs,AS.of R cs (S.erase k) (by simpa using hl) h2 (fun q hq=>?_),rfl⟩;grind
def eH:Option Int→Option Int→Option Int
 |none,b=>b
 |some x,none=>some x
 |some x,some y=>some (if y<x then y else x)
theorem lI{a b:Option Int}{x:Int}(h:eH a b=some x):a=some x∨b=some x:=by
 cases a with
 |none=>exact .inr h
 |some y=>cases b with
  |none=>exact .inl h
  |some z=>
   simp only[eH,Option.some.injEq]at h;grind
theorem mZ{a b:Option Int}{y:Int}(h:a=some y):∃z,eH a b=some z∧z≤y:=by
 subst h;cases b with
 |none=>exact⟨y,rfl,ACJ _⟩
 |some z=>exact⟨_,rfl,by omega⟩
theorem ma{a b:Option Int}{y:Int}(h:b=some y):∃z,eH a b=some z∧z≤y:=by
 subst h;cases a with
 |none=>exact⟨y,rfl,ACJ _⟩
 |some z=>exact⟨_,rfl,by omega⟩
theorem Z2(g:Nat→Option Int):∀(l:List Nat)(b:Option Int),
  (∀x,l.foldl (fun b k=>eH b (g k)) b=some x→b=some x∨∃k∈l,g k=some x)∧
  (∀y,b=some y→∃x,l.foldl (fun b k=>eH b (g k)) b=some x∧x≤y)∧
  (∀k∈l,∀y,g k=some y→∃x,l.foldl (fun b k=>eH b (g k)) b=some x∧x≤y)
 | [],b=>⟨fun x h=>.inl h,fun y h=>⟨y,h,ACJ _⟩,fun k hk=>by cases hk⟩
 |k::l,b=>by
  obtain⟨i1,i2,i3⟩:=Z2 g l (eH b (g k));simp only[List.foldl_cons];refine⟨fun x hx=>?_,fun y hy=>?_,fun q hq y hy=>?_⟩
  ·rcases i1 x hx with h|⟨q,hq,e⟩
   ·rcases lI h with h|h
    ·exact .inl h
    ·exact .inr ⟨k,AAe,h⟩
   grind
  ·obtain⟨z,h1,h2⟩:=mZ (b:=g k) hy;grind
  ·rcases AAZ.1 hq with rfl|hq
   ·obtain⟨z,h1,h2⟩:=ma (a:=b) hy;obtain⟨x,h3,h4⟩:=i2 z h1;exact⟨x,h3,by omega⟩
   grind
def aS:List (Nat→Int)→List Nat→Option Int
 | [],_=>some 0
 |r::rs,S=>S.foldl (fun b k=>eH b ((aS rs (S.erase k)).map fun y=>r k+y)) none
theorem SP:∀(R:List (Nat→Int)) (S:List Nat),(∀x,aS R S=some x→mK R S x)∧(∀y,AS R S y→∃x,aS R S=some x∧x≤y)
 | [],S=>⟨fun x h=>by
   simp only[aS,Option.some.injEq]at h;subst h;exact⟨rfl,fun y hy=>by simp only[AS]at hy;omega⟩,fun y hy=>⟨0,rfl,by simp only[AS]at hy;omega⟩⟩
 |r::R,S=>by
  obtain⟨f1,_,f3⟩:=Z2 (fun k=>(aS R (S.erase k)).map fun y=>r k+y) S none
  have up:∀y,AS (r::R) S y→∃x,aS (r::R) S=some x∧x≤y:=by
   rintro _ ⟨k,hk,y,hy,rfl⟩
   obtain⟨x,h1,h2⟩:=(SP R (S.erase k)).2 y hy;obtain⟨z,h3,h4⟩:=f3 k hk (r k+x) (by rw[h1];rfl);exact⟨z,h3,by omega⟩
  refine⟨fun x hx=>⟨?_,fun y hy=>?_⟩,up⟩
  ·rcases f1 x hx with h|⟨k,hk,e⟩
   ·cases h
   ·cases hb:aS R (S.erase k)with
    |none=>rw[hb]at e;cases e
    |some y=>
     rw[hb]at e;simp only[AA9,Option.some.injEq]at e;exact⟨k,hk,y,((SP R (S.erase k)).1 y hb).1,e.symm⟩
  grind
theorem gx{R:List (Nat→Int)}{S:List Nat}{x:Int}(h:mK R S x):aS R S=some x:=by obtain⟨y,h1,h2⟩:=(SP R S).2 x h.1;rw[h1,((SP R S).1 y h1).uniq h]
theorem mO(R:List (Nat→Int))(S:List Nat)(hn:S.Nodup)(hl:R.length≤S.length):∃x,aS R S=some x:=by obtain⟨x,h,_⟩:=(SP R S).2 _ (AS.of R (S.take R.length) S (by simp;omega) (hn.sublist (List.take_sublist _ _)) (fun k hk=>ACG hk));grind
theorem fx{R:List (Nat→Int)}{S:List Nat}{x:Int}(h:aS R S=some x)(hc:∀r∈R,∀k∈S,0≤r k):0≤x:=by
 induction R generalizing S x with
 |nil=>simp only[aS,Option.some.injEq]at h;omega
 |cons r R ih=>
  obtain⟨⟨k,hk,y,hy,rfl⟩,_⟩:=(SP _ _).1 x h;obtain⟨z,h1,h2⟩:=(SP R (S.erase k)).2 y hy;have:=ih h1 (fun r hr q hq=>hc r (AAJ _ hr) q (ABn hq));have:=hc r AAe k hk;omega
theorem mP{R:List (Nat→Int)}{S:List Nat}{x:Int}{M:Int}(h:aS R S=some x)(hM:0≤M)(hc:∀r∈R,∀k∈S,r k≤M):x≤M*R.length:=by
 induction R generalizing S x with
 |nil=>simp only[aS,Option.some.injEq]at h;simp;omega
 |cons r R ih=>
  obtain⟨⟨k,hk,y,hy,rfl⟩,_⟩:=(SP _ _).1 x h;obtain⟨z,h1,h2⟩:=(SP R (S.erase k)).2 y hy;have hl:=((SP _ _).1 _ h).2 (r k+z) ⟨k,hk,z,((SP _ _).1 z h1).1,rfl⟩;have i:=ih h1 (fun r hr q hq=>hc r (AAJ _ hr) q (ABn hq));have:=hc r AAe k hk;rw[ABG,Int.natCast_add,Int.mul_add];omega
def pk:List (Nat→Int)→List Nat→List Nat
 | [],_=>[]
 |r::rs,S=>match S.find? fun k=>(aS rs (S.erase k)).map (fun y=>r k+y)==aS (r::rs) S with
  |some k=>k::pk rs (S.erase k)
  |none=>[]
theorem iD{r:Nat→Int}{R:List (Nat→Int)}{S:List Nat}{x:Int}(h:aS (r::R) S=some x):∃k∈S,(S.find? fun k=>(aS R (S.erase k)).map (fun y=>r k+y)==aS (r::R) S)=some k∧∃y,aS R (S.erase k)=some y∧x=r k+y:=by
 obtain⟨f1,_,_⟩:=Z2 (fun k=>(aS R (S.erase k)).map fun y=>r k+y) S none;rcases f1 x h with h2|⟨k,hk,e⟩
 ·cases h2
 cases hf:S.find? fun k=>(aS R (S.erase k)).map (fun y=>r k+y)==aS (r::R) S with
 |none=>
  grind
 |some q=>
  have hq:=ACH hf;refine⟨q,ABl hf,rfl,?_⟩;rw[h]at hq;cases hb:aS R (S.erase q)with
  |none=>grind
  |some y=>
   grind
theorem mE:∀(R:List (Nat→Int)) (S:List Nat),S.Nodup→R.length≤S.length→(pk R S).length=R.length∧(pk R S).Nodup∧∀k∈pk R S,k∈S
 | [],S,_,_=>by simp[pk]
 |r::R,S,hn,hl=>by
  obtain⟨x,hx⟩:=mO (r::R) S hn hl;obtain⟨k,hk,hf,_⟩:=iD hx;have hle:(S.erase k).length=S.length-1:=List.length_erase_of_mem hk;obtain⟨i1,i2,i3⟩:=mE R (S.erase k) (hn.erase k) (by simp at hl;omega);have e:pk (r::R) S=k::pk R (S.erase k):=by simp only[pk,hf]
  grind
structure HF(C:Nat→Nat→Int)(n m:Nat)(u v:Nat→Int):Prop where
 jq:∀r j,1≤r→r≤n→1≤j→j≤m→u r+v j≤C r j
 mf:∀j,1≤j→j≤m→v j≤0
 oZ:∀r,1≤r→r≤n→0≤u r
structure HM(m i:Nat)(w:Nat→Int):Prop where
 dH:∀j,1≤j→j≤m→0≤w j∧w j<(i:Int)
 inj:∀j k,1≤j→j≤m→1≤k→k≤m→w j=w k→0<w j→j=k
 mj:∀r:Nat,1≤r→r<i→∃j,1≤j∧j≤m∧w j=(r:Int)
structure HT(C:Nat→Nat→Int)(m:Nat)(u v w:Nat→Int):Prop where
 tight:∀j (r:Nat),1≤j→j≤m→1≤r→w j=(r:Int)→u r+v j=C r j
 free:∀j,1≤j→j≤m→w j=0→v j=0
theorem HM.open{m i:Nat}{w:Nat→Int}(h:HM m i w)(h1:1≤i)(hi:i≤m):∃j,1≤j∧j≤m∧w j=0:=by
 refine AAn fun xN=>?_
 have hp:∀j,1≤j→j≤m→0<w j:=fun j a b=>by have:=(h.dH j a b).1;grind
 have:=ZW ((List.range m).map fun k=>(w (k+1)).toNat) (List.range' 1 (i-1)) ?_ ?_
 ·grind
 ·unfold List.Nodup;rw[ABi];refine ACA (fun {a b} ha hb zF e=>?_) (List.pairwise_lt_range (n:=m));rw[AAR]at ha hb;have p1:=hp (a+1) (by omega) (by omega);have p2:=hp (b+1) (by omega) (by omega);have:=h.inj (a+1) (b+1) (by omega) (by omega) (by omega) (by omega) (by omega) p1;omega
 ·intro x hx;obtain⟨k,hk,rfl⟩:=AAs.1 hx;rw[AAR]at hk;have p1:=hp (k+1) (by omega) (by omega);have p2:=(h.dH (k+1) (by omega) (by omega)).2;grind
theorem HF.Mp{C:Nat→Nat→Int}{n m i:Nat}{u v w:Nat→Int}(hf:HF C n m u v)(ht:HT C m u v w)(hm:HM m i w)(h1:1≤i)(hi:i≤m)(tS:i≤n){M:Int}(hC:∀r j,1≤r→r≤n→1≤j→j≤m→0≤C r j∧C r j≤M):
  (∀r,1≤r→r≤n→0≤u r∧u r≤M)∧∀j,1≤j→j≤m → -M≤v j∧v j≤0:=by
 obtain⟨f,f1,f2,f3⟩:=hm.open h1 hi
 have hu:∀r,1≤r→r≤n→0≤u r∧u r≤M:=fun r a b=>by have:=hf.jq r f a b f1 f2;rw[ht.free f f1 f2 f3]at this;have:=(hC r f a b f1 f2).2;exact⟨hf.oZ r a b,by omega⟩
 refine⟨hu,fun j a b=>⟨?_,hf.mf j a b⟩⟩;obtain⟨q1,q2⟩:=hm.dH j a b;by_cases h0:w j=0
 ·rw[ht.free j a b h0];grind
 ·have:=ht.tight j (w j).toNat a b (by omega) (by omega);grind
def Ch(P:Nat→Nat→Prop):List Nat→Prop
 | []=>True
 |a::l=>(a=0∧l=[])∨(1≤a∧(∃x∈l,P a x)∧Ch P l)
theorem Ch.mono{P Q:Nat→Nat→Prop}:∀ {l:List Nat},(∀a x,a∈l→x∈l→P a x→Q a x)→Ch P l→Ch Q l
 | [],_,_=>trivial
 |a::l,h,hc=>by
  rcases hc with hc|⟨h1,⟨x,hx,hP⟩,h3⟩
  ·exact .inl hc
  ·exact .inr ⟨h1,⟨x,hx,h a x AAe (AAJ _ hx) hP⟩,Ch.mono (fun a x ha hx=>h a x (AAJ _ ha) (AAJ _ hx)) h3⟩
theorem Ch.tail{P:Nat→Nat→Prop}{a:Nat}{l:List Nat}(h:Ch P (a::l)):Ch P l:=by
 rcases h with⟨_,h⟩|⟨_,_,h⟩
 ·rw[h];trivial
 ·exact h
theorem Ch.drop{P:Nat→Nat→Prop}{l:List Nat}:∀ {p:List Nat},Ch P (p++l)→Ch P l
 | [],h=>h
 |a::p,h=>Ch.drop (p:=p) (Ch.tail h)
def Fr(C:Nat→Nat→Int)(u v w fr:Nat→Int)(a x:Nat):Prop:=fr a=(x:Int)∧∃r:Nat,1≤r∧w x=(r:Int)∧u r+v a=C r a
structure HG(C:Nat→Nat→Int)(n m:Nat)(u v w ls fr:Nat→Int)(Q:List Nat)(j0:Nat):Prop where
 hf:HF C n m u v
 ht:HT C m u v w
 oe:j0≤m
 nd:(j0::Q).Nodup
 qm:∀j∈Q,j≤m
 qp:∀j∈Q,1≤w j
 ch:Ch (Fr C u v w fr) (j0::Q)
 l1:∀j,1≤j→j≤m→j∉Q→∀b∈Q,∀r:Nat,w b=(r:Int)→ls j≤C r j-u r-v j
 l2:Q=[]∨∀j,1≤j→j≤m→j∉Q→∃b∈Q,fr j=(b:Int)∧∃r:Nat,1≤r∧w b=(r:Int)∧ls j=C r j-u r-v j
structure HS(C:Nat→Nat→Int)(n m:Nat)(u v w ls fr:Nat→Int)(Q:List Nat):Prop where
 hf:HF C n m u v
 ht:HT C m u v w
 nd:Q.Nodup
 qm:∀j∈Q,j≤m
 qp:∀j∈Q,1≤w j
 ch:Ch (Fr C u v w fr) Q
 l1:∀j,1≤j→j≤m→j∉Q→∀b∈Q,∀r:Nat,w b=(r:Int)→ls j≤C r j-u r-v j
 l2:∀j,1≤j→j≤m→j∉Q→∃b∈Q,fr j=(b:Int)∧∃r:Nat,1≤r∧w b=(r:Int)∧ls j=C r j-u r-v j
theorem HG.scan{C:Nat→Nat→Int}{n m:Nat}{u v w ls fr yN yQ:Nat→Int}{Q:List Nat}{j0:Nat}(h:HG C n m u v w ls fr Q j0){i0:Nat}(hi:1≤i0)(hw:w j0=(i0:Int))
  (hfar:Q=[]→∀j,1≤j→j≤m→C i0 j-u i0-v j<ls j)
  (hused:∀j,j≤m→j∈j0::Q→yQ j=fr j)
  (hnew:∀j,1≤j→j≤m→j∉j0::Q→(C i0 j-u i0-v j<ls j∧yN j=C i0 j-u i0-v j∧yQ j=(j0:Int))∨(¬C i0 j-u i0-v j<ls j∧yN j=ls j∧yQ j=fr j)):
  HS C n m u v w yN yQ (j0::Q):=by
 refine⟨h.hf,h.ht,h.nd,fun j hj=>?_,fun j hj=>?_,?_,fun j a b hj x hx r hr=>?_,fun j a b hj=>?_⟩
 ·rcases AAZ.1 hj with rfl|hj
  ·exact h.oe
  ·exact h.qm j hj
 ·rcases AAZ.1 hj with rfl|hj
  ·omega
  ·exact h.qp j hj
 ·refine h.ch.mono fun a x ha hx hP=>⟨?_,hP.2⟩;rw[hused a ?_ ha]
  ·exact hP.1
  ·rcases AAZ.1 ha with rfl|ha
   ·exact h.oe
   ·exact h.qm a ha
 ·have hjQ:j∉Q:=fun e=>hj (AAJ _ e);rcases hnew j a b hj with⟨h1,h2,h3⟩|⟨h1,h2,h3⟩
  ·rcases AAZ.1 hx with rfl|hx
   ·grind
   ·have:=h.l1 j a b hjQ x hx r hr;omega
  ·rcases AAZ.1 hx with rfl|hx
   ·grind
   ·rw[h2];exact h.l1 j a b hjQ x hx r hr
 ·have hjQ:j∉Q:=fun e=>hj (AAJ _ e);rcases hnew j a b hj with⟨h1,h2,h3⟩|⟨h1,h2,h3⟩
  ·grind
  ·rcases h.l2 with e|e
   all_goals grind
theorem HS.step{C:Nat→Nat→Int}{n m i:Nat}{u v w ls fr u' v' yN:Nat→Int}{Q:List Nat}(h:HS C n m u v w ls fr Q)(hm:HM m i w)(hw0:w 0=(i:Int))(tS:i≤n){d:Int}{j1:Nat}
  (a1:1≤j1) (a2:j1≤m) (a3:j1∉Q) (hd:ls j1=d) (hmin:∀j,1≤j→j≤m→j∉Q→d≤ls j)
  (hu1:∀r:Nat,1≤r→r≤n→(∃b∈Q,w b=(r:Int))→u' r=u r+d)
  (hu2:∀r:Nat,1≤r→r≤n→¬(∃b∈Q,w b=(r:Int))→u' r=u r)
  (hv1:∀j,1≤j→j≤m→j∈Q→v' j=v j-d) (hv2:∀j,1≤j→j≤m→j∉Q→v' j=v j)
  (hl:∀j,1≤j→j≤m→j∉Q→yN j=ls j-d):0≤d∧HG C n m u' v' w yN fr Q j1:=by
 have rn:∀b∈Q,∀r:Nat,w b=(r:Int)→1≤r∧r≤n:=fun b hb r hr=>by
  have h1:=h.qp b hb;refine⟨by omega,?_⟩;by_cases xr:b=0
  ·grind
  ·have:=hm.dH b (by omega) (h.qm b hb);omega
 have hd0:0≤d:=by obtain⟨b,hb,_,r,p2,p3,p4⟩:=h.l2 j1 a1 a2 a3;obtain⟨r1,r2⟩:=rn b hb r p3;have:=h.hf.jq r j1 r1 r2 a1 a2;omega
 have inQ:∀j (r:Nat),1≤j→j≤m→j∉Q→1≤r→w j=(r:Int)→¬ ∃b∈Q,w b=(r:Int):=fun j r c1 c2 c3 c4 c5=>by
  rintro ⟨b,hb,e⟩
  by_cases xr:b=0
  ·subst xr;have:=hm.dH j c1 c2;omega
  ·have:=hm.inj j b c1 c2 (by omega) (h.qm b hb) (by omega) (by omega);grind
 have tq:∀a x,a∈Q→1≤a→x∈Q→Fr C u v w fr a x→Fr C u' v' w fr a x:=fun a x ha ha1 hx hP=>by obtain⟨p1,r,p2,p3,p4⟩:=hP;obtain⟨r1,r2⟩:=rn x hx r p3;refine⟨p1,r,p2,p3,?_⟩;rw[hu1 r r1 r2 ⟨x,hx,p3⟩,hv1 a ha1 (h.qm a ha) ha];omega
 refine⟨hd0,⟨fun r j r1 r2 j1 j2=>?_,fun j c1 c2=>?_,fun r c1 c2=>?_⟩,⟨fun j r c1 c2 c3 c4=>?_,fun j c1 c2 c3=>?_⟩,a2,AAY.2 ⟨a3,h.nd⟩,h.qm,h.qp,?_,fun j c1 c2 hj b hb r hr=>?_,.inr fun j c1 c2 hj=>?_⟩
 ·have hf:=h.hf.jq r j r1 r2 j1 j2;by_cases hr:∃b∈Q,w b=(r:Int)
  ·rw[hu1 r r1 r2 hr];by_cases hj:j∈Q
   ·grind
   ·obtain⟨b,hb,e⟩:=hr;have:=h.l1 j j1 j2 hj b hb r e;grind
  ·rw[hu2 r r1 r2 hr];by_cases hj:j∈Q
   all_goals grind
 ·have:=h.hf.mf j c1 c2;by_cases hj:j∈Q
  all_goals grind
 ·have:=h.hf.oZ r c1 c2;by_cases hr:∃b∈Q,w b=(r:Int)
  ·grind
  ·rw[hu2 r c1 c2 hr];omega
 ·have ht:=h.ht.tight j r c1 c2 c3 c4;have:=hm.dH j c1 c2;have hrn:r≤n:=by omega
  by_cases hj:j∈Q
  ·grind
  ·rw[hv2 j c1 c2 hj,hu2 r c3 hrn (inQ j r c1 c2 hj c3 c4)];omega
 ·have hj:j∉Q:=fun hj=>by grind
  rw[hv2 j c1 c2 hj,h.ht.free j c1 c2 c3]
 ·refine .inr ⟨a1,?_,?_⟩
  ·obtain⟨b,hb,p1,r,p2,p3,p4⟩:=h.l2 j1 a1 a2 a3;obtain⟨r1,r2⟩:=rn b hb r p3;refine⟨b,hb,p1,r,p2,p3,?_⟩;grind
  ·have key:∀(l:List Nat),(∀a∈l,a∈Q)→Ch (Fr C u v w fr) l→Ch (Fr C u' v' w fr) l:=by
    intro l
    induction l with
    |nil=>intro _ _;trivial
    |cons a l ih=>
     intro hs hc;rcases hc with hc|⟨h1,⟨x,hx,hP⟩,h3⟩
     ·exact .inl hc
     ·exact .inr ⟨h1,⟨x,hx,tq a x (hs a AAe) h1 (hs x (AAJ _ hx)) hP⟩,ih (fun b hb=>hs b (AAJ _ hb)) h3⟩
   exact key Q (fun a ha=>ha) h.ch
 ·obtain⟨r1,r2⟩:=rn b hb r hr;have:=h.l1 j c1 c2 hj b hb r hr;rw[hl j c1 c2 hj,hu1 r r1 r2 ⟨b,hb,hr⟩,hv2 j c1 c2 hj];omega
 ·obtain⟨b,hb,p1,r,p2,p3,p4⟩:=h.l2 j c1 c2 hj;obtain⟨r1,r2⟩:=rn b hb r p3;refine⟨b,hb,p1,r,p2,p3,?_⟩;grind
structure HA(C:Nat→Nat→Int)(m i:Nat)(u v fr w:Nat→Int)(j0:Nat)(Q:List Nat):Prop where
 nd:(j0::Q).Nodup
 lm:∀j∈j0::Q,j≤m
 ch:Ch (Fr C u v w fr) (j0::Q)
 inj:∀j k,j≤m→k≤m→j≠j0→k≠j0→w j=w k→0<w j→j=k
 mj:∀r:Nat,1≤r→r≤i→∃j,j≤m∧j≠j0∧w j=(r:Int)
 dH:∀j,j≤m→j≠j0→0≤w j∧w j≤(i:Int)
 tight:∀j (r:Nat),1≤j→j≤m→j≠j0→1≤r→w j=(r:Int)→u r+v j=C r j
 free:∀j,1≤j→j≤m→j≠j0→w j=0→v j=0
theorem HG.ry{C:Nat→Nat→Int}{n m i:Nat}{u v w ls fr:Nat→Int}{Q:List Nat}{j0:Nat}(h:HG C n m u v w ls fr Q j0)(hm:HM m i w)(hw0:w 0=(i:Int))(h1:1≤i)(hj:w j0=0):HA C m i u v fr w j0 Q:=by
 have hj0:j0≠0:=fun e=>by grind
 refine⟨h.nd,fun j hj=>?_,h.ch,fun j k a b c d e f=>?_,fun r a b=>?_,fun j a b=>?_,fun j r a b _ c d=>h.ht.tight j r a b c d,fun j a b _ c=>h.ht.free j a b c⟩
 ·rcases AAZ.1 hj with rfl|hj
  ·exact h.oe
  ·exact h.qm j hj
 ·by_cases j00:j=0
  ·by_cases k00:k=0
   ·rw[j00,k00]
   ·subst j00;have:=hm.dH k (by omega) b;omega
  ·by_cases k00:k=0
   ·subst k00;have:=hm.dH j (by omega) a;omega
   ·exact hm.inj j k (by omega) a (by omega) b e f
 ·by_cases hr:r=i
  ·grind
  ·obtain⟨j,a1,a2,a3⟩:=hm.mj r a (by omega);grind
 ·by_cases j00:j=0
  ·grind
  ·have:=hm.dH j (by omega) a;omega
theorem HA.next{C:Nat→Nat→Int}{m i:Nat}{u v fr w:Nat→Int}{j0:Nat}{Q:List Nat}(h:HA C m i u v fr w j0 Q)(hj:1≤j0):∃x Q',fr j0=((x:Nat):Int)∧x≤m∧Q'.length<Q.length∧x≠j0∧
  ∀w':Nat→Int,(w' j0=w x)→(∀j,j≤m→j≠j0→w' j=w j)→HA C m i u v fr w' x Q':=by
 rcases h.ch with⟨h0,_⟩|⟨_,⟨x,hx,hP⟩,hc⟩
 ·omega
 obtain⟨p1,r,p2,p3,p4⟩:=hP;obtain⟨pre,Q',hQ⟩:=List.append_of_mem hx;obtain⟨n1,n2⟩:=AAY.1 h.nd;have hxj:x≠j0:=fun e=>n1 (e▸hx);have hxm:x≤m:=h.lm x (AAJ _ hx);have sub:∀j∈x::Q',j∈Q:=fun j hj=>by grind
 refine⟨x,Q',p1,hxm,by grind,hxj,fun w' e1 e2=>⟨?_,fun j hj=>h.lm j (AAJ _ (sub j hj)),?_,fun j k a b c d e f=>?_,fun s a b=>?_,fun j a b=>?_,fun j s a b c d e=>?_,fun j a b c d=>?_⟩⟩
 ·grind
 ·have hc2:Ch (Fr C u v w fr) (x::Q'):=by rw[hQ]at hc;exact Ch.drop hc
  refine hc2.mono fun a y ha hy hP=>?_;obtain⟨q1,s,q2,q3,q4⟩:=hP;have hyj:y≠j0:=fun e=>n1 (e▸sub y hy);exact⟨q1,s,q2,by rw[e2 y (h.lm y (AAJ _ (sub y hy))) hyj,q3],q4⟩
 ·by_cases hj0:j=j0
  ·by_cases xy:k=j0
   ·rw[hj0,xy]
   ·rw[hj0,e1,e2 k b xy]at e;rw[hj0,e1]at f;exact absurd (h.inj x k hxm b hxj xy e f).symm d
  ·by_cases xy:k=j0
   ·rw[xy,e1,e2 j a hj0]at e;rw[e2 j a hj0]at f;exact absurd (h.inj j x a hxm hj0 hxj e f) c
   ·rw[e2 j a hj0,e2 k b xy]at e;rw[e2 j a hj0]at f;exact h.inj j k a b hj0 xy e f
 ·obtain⟨j,a1,a2,a3⟩:=h.mj s a b;by_cases hjx:j=x
  ·exact⟨j0,h.lm j0 AAe,fun e=>hxj e.symm,by rw[e1,←hjx,a3]⟩
  grind
 ·by_cases hj0:j=j0
  ·rw[hj0,e1];exact h.dH x hxm hxj
  ·rw[e2 j a hj0];exact h.dH j a hj0
 ·by_cases hj0:j=j0
  ·grind
  ·rw[e2 j b hj0]at e;exact h.tight j s a b hj0 d e
 ·by_cases hj0:j=j0
  ·grind
  ·rw[e2 j b hj0]at d;exact h.free j a b hj0 d
theorem HA.done{C:Nat→Nat→Int}{m i:Nat}{u v fr w:Nat→Int}{Q:List Nat}(h:HA C m i u v fr w 0 Q):HM m (i+1) w∧HT C m u v w:=
 ⟨⟨fun j a b=>by have:=h.dH j b (by omega);omega,fun j k a b c d e f=>h.inj j k b d (by omega) (by omega) e f,fun r a b=>by
   obtain⟨j,a1,a2,a3⟩:=h.mj r a (by omega);grind⟩,⟨fun j r a b c d=>h.tight j r a b (by omega) c d,fun j a b c=>h.free j a b (by omega) c⟩⟩
def ga(l:List Int)(i:Nat):Int:=l.getD i 0
theorem T6{l:List Int}{i:Nat}(h:i<l.length):l[i]?=some (ga l i):=by unfold ga;grind
theorem T7{l:List Int}{i:Nat}(h:i<l.length)(x:Int)(j:Nat):ga (l.set i x) j=if j=i then x else ga l j:=by unfold ga;grind
theorem Xb(m:Nat)(x:Int)(j:Nat)(h:j<m):ga (List.replicate m x) j=x:=by unfold ga;grind
structure CM(a0:List (List Int))(m:Nat):Prop where
 row:∀r∈a0,r.length=m
 nm:a0.length≤m
 lC:m≤10
 Mp:∀r∈a0,∀x∈r,0≤x∧x≤100000
def cC(a0:List (List Int))(r j:Nat):Int:=ga (a0.getD (r-1) []) (j-1)
theorem CM.at{a0:List (List Int)}{m:Nat}(h:CM a0 m){r j:Nat}(r1:1≤r)(r2:r≤a0.length)(j1:1≤j)(j2:j≤m):
  ∃l,M8 a0 (O9 ((r:Int)-1))=some l∧M8 l (O9 ((j:Int)-1))=some (cC a0 r j)∧0≤cC a0 r j∧cC a0 r j≤100000:=by
 have hm:=h.lC;have hn:=h.nm;have hr:r-1<a0.length:=by omega
 have e1:O9 ((r:Int)-1)=((r-1:Nat):Int):=by rw[PC (by omega) (by omega)];omega
 have e2:O9 ((j:Int)-1)=((j-1:Nat):Int):=by rw[PC (by omega) (by omega)];omega
 have hl:=h.row _ (ABW hr);have hj:j-1<a0[r-1].length:=by omega
 have e3:cC a0 r j=a0[r-1][j-1]:=by unfold cC ga;rw[List.getD,List.getD,AAF hr,AA0,AAF hj];rfl
 refine⟨a0[r-1],by rw[e1,O6 hr],by rw[e2,O6 hj,e3],?_⟩;rw[e3];exact h.Mp _ (ABW hr) _ (ABW hj)
theorem HM.congr{m i:Nat}{w w':Nat→Int}(h:HM m i w)(e:∀j,1≤j→j≤m→w' j=w j):HM m i w':=
 ⟨fun j a b=>by rw[e j a b];exact h.dH j a b,fun j k a b c d=>by rw[e j a b,e k c d];exact h.inj j k a b c d,fun r a b=>by
  obtain⟨j,p,q,s⟩:=h.mj r a b;grind⟩
theorem HT.congr{C:Nat→Nat→Int}{m:Nat}{u v w w':Nat→Int}(h:HT C m u v w)(e:∀j,1≤j→j≤m→w' j=w j):HT C m u v w':=
 ⟨fun j r a b c d=>h.tight j r a b c (by grind),fun j a b c=>h.free j a b (by grind)⟩
theorem gP(m:Nat)(hm:m≤10)(n:Nat)(hn:PD≤n):iter n (Sj (m:Int)) (0,List.replicate (m+1) 0)=some (((m+1:Nat):Int),List.replicate (m+1) 1099511627776):=by
 have:=Ph (Sj (m:Int)) (fun i=>((i:Int),List.replicate i 1099511627776++List.replicate (m+1-i) 0)) (m+1) (((m+1:Nat):Int),List.replicate (m+1) 1099511627776) (fun i hi=>by
  have hd:decide ((i:Int)≤(m:Int))=true:=by rw[AAb];omega
  have hl:i<(List.replicate i (1099511627776:Int)++List.replicate (m+1-i) 0).length:=by simp;omega
  simp only[Sj,hd,ABU,PA hl,ABX,Pw,O5 hi (by omega)];congr 3;rw[ACC _ _ (by simp),List.length_replicate,Nat.sub_self,show m+1-i=(m+1-(i+1))+1 by omega,List.replicate_succ,List.set_cons_zero,ACF (n:=i)];simp) (by
  have hd:decide (((m+1:Nat):Int)≤(m:Int))=false:=by rw[AAf];omega
  simp only[Sj,hd,ABV];simp) n (by unfold PD at hn;omega)
 grind
theorem fG{a0:List (List Int)}{m i:Nat}(hc:CM a0 m){u v ls fr w:List Int}{us:List Bool}{Q:List Nat}{j0 i0:Nat}(hj0:j0≤m)
  (lu:u.length=a0.length+1) (lv:v.length=m+1) (ll:ls.length=m+1) (lf:fr.length=m+1)
  (zX:∀k,k≤m→(us.set j0 true)[k]?=some (decide (k∈j0::Q))) (hlu:us.length=m+1)
  (hi1:1≤i0) (hi2:i0≤a0.length) (hub:0≤ga u i0∧ga u i0≤100000) (hvb:∀j,1≤j→j≤m → -100000≤ga v j∧ga v j≤0)
  (n:Nat) (hn:PD≤n):
  ∃(d:Int) (j1:Nat) (yN yQ:List Int),iter n (QH a0 (m:Int) ((j0:Int),u,v,ls,fr,us) (i0:Int)) (1099511627776,0,1,ls,fr)=some (d,(j1:Int),((m+1:Nat):Int),yN,yQ)∧
   yN.length=m+1∧yQ.length=m+1∧(∀k,k≤m→k∈j0::Q→ga yQ k=ga fr k)∧
   (∀k,1≤k→k≤m→k∉j0::Q→(cC a0 i0 k-ga u i0-ga v k<ga ls k∧ga yN k=cC a0 i0 k-ga u i0-ga v k∧ga yQ k=(j0:Int))∨(¬cC a0 i0 k-ga u i0-ga v k<ga ls k∧ga yN k=ga ls k∧ga yQ k=ga fr k))∧
   (∀k,1≤k→k≤m→k∉j0::Q→d≤ga yN k)∧((∀k,1≤k→k≤m→k∈j0::Q)∨(1≤j1∧j1≤m∧j1∉j0::Q∧ga yN j1=d)):=by
 have hm:=hc.lC
 obtain⟨z,⟨d,j1,yN,yQ,e,h1⟩,h2⟩:=XR (f:=QH a0 (m:Int) ((j0:Int),u,v,ls,fr,us) (i0:Int))
  (fun x=>∃(d:Int) (j1 j:Nat) (yN yQ:List Int),x=(d,(j1:Int),(j:Int),yN,yQ)∧1≤j∧j≤m+1∧yN.length=m+1∧yQ.length=m+1∧
   (∀k,j≤k→k≤m→ga yN k=ga ls k∧ga yQ k=ga fr k)∧(∀k,k≤m→k∈j0::Q→ga yQ k=ga fr k)∧
   (∀k,1≤k→k<j→k∉j0::Q→(cC a0 i0 k-ga u i0-ga v k<ga ls k∧ga yN k=cC a0 i0 k-ga u i0-ga v k∧ga yQ k=(j0:Int))∨(¬cC a0 i0 k-ga u i0-ga v k<ga ls k∧ga yN k=ga ls k∧ga yQ k=ga fr k))∧
   (∀k,1≤k→k<j→k∉j0::Q→d≤ga yN k)∧((d=1099511627776∧∀k,1≤k→k<j→k∈j0::Q)∨(1≤j1∧j1<j∧j1∉j0::Q∧ga yN j1=d)))
  (fun z=>∃(d:Int) (j1:Nat) (yN yQ:List Int),z=(d,(j1:Int),((m+1:Nat):Int),yN,yQ)∧yN.length=m+1∧yQ.length=m+1∧(∀k,k≤m→k∈j0::Q→ga yQ k=ga fr k)∧
   (∀k,1≤k→k≤m→k∉j0::Q→(cC a0 i0 k-ga u i0-ga v k<ga ls k∧ga yN k=cC a0 i0 k-ga u i0-ga v k∧ga yQ k=(j0:Int))∨(¬cC a0 i0 k-ga u i0-ga v k<ga ls k∧ga yN k=ga ls k∧ga yQ k=ga fr k))∧
   (∀k,1≤k→k≤m→k∉j0::Q→d≤ga yN k)∧((∀k,1≤k→k≤m→k∈j0::Q)∨(1≤j1∧j1≤m∧j1∉j0::Q∧ga yN j1=d)))
  (fun x=>m+1-x.2.2.1.toNat) (fun x hx=>by
   obtain⟨d,j1,j,yN,yQ,rfl,b1,b2,l1,l2,g1,g2,g3,g4,g5⟩:=hx;by_cases hj:j=m+1
   ·left;have hd:decide ((j:Int)≤(m:Int))=false:=by rw[AAf];omega
    refine⟨(d,(j1:Int),(j:Int),yN,yQ),by simp only[QH,hd,ABV],d,j1,yN,yQ,by rw[hj],l1,l2,g2,fun k a b c=>g3 k a (by omega) c,fun k a b c=>g4 k a (by omega) c,?_⟩;rcases g5 with⟨_,g5⟩|⟨p1,p2,p3,p4⟩
    ·exact .inl fun k a b=>g5 k a (by omega)
    ·exact .inr ⟨p1,by omega,p3,p4⟩
   ·right;have hjm:j≤m:=by omega
    have hd:decide ((j:Int)≤(m:Int))=true:=by rw[AAb];omega
    have hu1:=zX j hjm;have hul:j<(us.set j0 true).length:=by simp;omega
    have hw:O9 ((j:Int)+1)=((j+1:Nat):Int):=O5 (show j<m+1 by omega) (by omega);have hmu:m+1-((j+1:Nat):Int).toNat<m+1-((j:Nat):Int).toNat:=by omega
    by_cases hQ:j∈j0::Q
    ·rw[ABZ hQ]at hu1;refine⟨(d,(j1:Int),((j+1:Nat):Int),yN,yQ),?_,⟨d,j1,j+1,yN,yQ,rfl,by omega,by omega,l1,l2,fun k a b=>g1 k (by omega) b,g2,fun k a b c=>g3 k a ?_ c,fun k a b c=>g4 k a ?_ c,?_⟩,hmu⟩
     ·simp only[QH,hd,ABU,ABX,Pw,PA hul,hu1,ABT,hw]
     ·by_cases e:k=j
      ·exact absurd (e▸hQ) c
      ·omega
     ·by_cases e:k=j
      ·exact absurd (e▸hQ) c
      ·omega
     ·rcases g5 with⟨p1,p2⟩|⟨p1,p2,p3,p4⟩
      ·refine .inl ⟨p1,fun k a b=>?_⟩;by_cases e:k=j
       ·rw[e];exact hQ
       ·exact p2 k a (by omega)
      ·exact .inr ⟨p1,by omega,p3,p4⟩
    ·rw[ABd hQ]at hu1;obtain⟨l,c1,c2,c3,c4⟩:=hc.at hi1 hi2 b1 hjm;have hvj:=hvb j b1 hjm
     have hcur:O9 (O9 (cC a0 i0 j-ga u i0)-ga v j)=cC a0 i0 j-ga u i0-ga v j:=by rw[PC (n:=cC a0 i0 j-ga u i0) (by omega) (by omega)];exact PC (by omega) (by omega)
     have i1:Ob u (i0:Int)=true:=PA (by omega);have i2:Ob v (j:Int)=true:=PA (by omega);have i3:Ob yN (j:Int)=true:=PA (by omega);have i4:Ob yQ (j:Int)=true:=PA (by omega);have e1:=T6 (l:=u) (i:=i0) (by omega);have e2:=T6 (l:=v) (i:=j) (by omega);have e3:=T6 (l:=yN) (i:=j) (by omega);obtain⟨g1a,g1b⟩:=g1 j (AAd _) hjm;generalize uJ:cC a0 i0 j-ga u i0-ga v j=cur at hcur;have hcb:cur≤200000:=by omega
     have key:∀(ls2 fr2:List Int),ls2.length=m+1→fr2.length=m+1→(∀k,k≠j→ga ls2 k=ga yN k∧ga fr2 k=ga yQ k)→
       ((cur<ga ls j∧ga ls2 j=cur∧ga fr2 j=(j0:Int))∨(¬cur<ga ls j∧ga ls2 j=ga ls j∧ga fr2 j=ga fr j))→(∀d2 j2,(ga ls2 j<d∧d2=ga ls2 j∧j2=j∨¬ga ls2 j<d∧d2=d∧j2=j1)→
       ∃(d':Int) (j1' j':Nat) (yN yQ:List Int),(d2,((j2:Nat):Int),((j+1:Nat):Int),ls2,fr2)=(d',(j1':Int),(j':Int),yN,yQ)∧1≤j'∧j'≤m+1∧yN.length=m+1∧yQ.length=m+1∧
   (∀k,j'≤k→k≤m→ga yN k=ga ls k∧ga yQ k=ga fr k)∧(∀k,k≤m→k∈j0::Q→ga yQ k=ga fr k)∧
   (∀k,1≤k→k<j'→k∉j0::Q→(cC a0 i0 k-ga u i0-ga v k<ga ls k∧ga yN k=cC a0 i0 k-ga u i0-ga v k∧ga yQ k=(j0:Int))∨(¬cC a0 i0 k-ga u i0-ga v k<ga ls k∧ga yN k=ga ls k∧ga yQ k=ga fr k))∧
   (∀k,1≤k→k<j'→k∉j0::Q→d'≤ga yN k)∧((d'=1099511627776∧∀k,1≤k→k<j'→k∈j0::Q)∨(1≤j1'∧j1'<j'∧j1'∉j0::Q∧ga yN j1'=d'))):=by
      intro ls2 fr2 q1 q2 q3 q4 d2 j2 q5;refine⟨d2,j2,j+1,ls2,fr2,rfl,by omega,by omega,q1,q2,fun k a b=>?_,fun k a b=>?_,fun k a b c=>?_,fun k a b c=>?_,?_⟩
      ·rw[(q3 k (by omega)).1,(q3 k (by omega)).2];exact g1 k (by omega) b
      ·have tj:k≠j:=fun e=>hQ (e▸b);rw[(q3 k tj).2];exact g2 k a b
      ·by_cases e:k=j
       ·subst e;rw[uJ];exact q4
       ·rw[(q3 k e).1,(q3 k e).2];exact g3 k a (by omega) c
      ·by_cases e:k=j
       ·subst e;rcases q5 with⟨p1,p2,p3⟩|⟨p1,p2,p3⟩<;>omega
       ·rw[(q3 k e).1];have:=g4 k a (by omega) c;rcases q5 with⟨p1,p2,p3⟩|⟨p1,p2,p3⟩<;>omega
      ·have tX:ga ls2 j≤200000:=by rcases q4 with⟨p1,p2,_⟩|⟨p1,p2,_⟩<;>omega
       rcases q5 with⟨p1,p2,p3⟩|⟨p1,p2,p3⟩
       ·exact .inr ⟨by omega,by omega,by rw[p3];exact hQ,by rw[p3,p2]⟩
       ·rcases g5 with⟨r1,r2⟩|⟨r1,r2,r3,r4⟩
        ·omega
        ·exact .inr ⟨by omega,by omega,by rw[p3];exact r3,by rw[p3,p2,(q3 j1 (by omega)).1,r4]⟩
     by_cases zG:cur<ga ls j
     ·have hcl':decide (cur<ga yN j)=true:=by rw[AAb,g1a];exact zG
      have il:Ob (yN.set j cur) (j:Int)=true:=PA (by simp;omega);have el:(yN.set j cur)[j]?=some cur:=by rw[List.getElem?_set_self (by omega)]
      have kk:=key (yN.set j cur) (yQ.set j (j0:Int)) (by simp[l1]) (by simp[l2]) (fun k hk=>⟨by rw[T7 (by omega),AAM hk],by rw[T7 (by omega),AAM hk]⟩) (.inl ⟨zG,by rw[T7 (by omega),AAK rfl],by rw[T7 (by omega),AAK rfl]⟩);rw[T7 (by omega),AAK rfl]at kk;by_cases hdl:cur<d
      ·refine⟨(cur,(j:Int),((j+1:Nat):Int),yN.set j cur,yQ.set j (j0:Int)),?_,kk cur j (.inl ⟨hdl,rfl,rfl⟩),hmu⟩;simp only[QH,hd,ABU,ABX,Pw,PA hul,hu1,ABT,hw,ABV,c1,c2,i1,i2,i3,i4,e1,e2,e3,hcur,hcl',il,el,ABZ hdl]
      ·refine⟨(d,(j1:Int),((j+1:Nat):Int),yN.set j cur,yQ.set j (j0:Int)),?_,kk d j1 (.inr ⟨hdl,rfl,rfl⟩),hmu⟩;simp only[QH,hd,ABU,ABX,Pw,PA hul,hu1,ABT,hw,ABV,c1,c2,i1,i2,i3,i4,e1,e2,e3,hcur,hcl',il,el,ABd hdl]
     ·have hcl':decide (cur<ga yN j)=false:=by rw[AAf,g1a];exact zG
      have kk:=key yN yQ l1 l2 (fun k hk=>⟨rfl,rfl⟩) (.inr ⟨zG,g1a,g1b⟩);by_cases hdl:ga yN j<d
      ·refine⟨(ga yN j,(j:Int),((j+1:Nat):Int),yN,yQ),?_,kk (ga yN j) j (.inl ⟨hdl,rfl,rfl⟩),hmu⟩;simp only[QH,hd,ABU,ABX,Pw,PA hul,hu1,ABT,hw,ABV,c1,c2,i1,i2,i3,i4,e1,e2,e3,hcur,hcl',ABZ hdl]
      ·refine⟨(d,(j1:Int),((j+1:Nat):Int),yN,yQ),?_,kk d j1 (.inr ⟨hdl,rfl,rfl⟩),hmu⟩;simp only[QH,hd,ABU,ABX,Pw,PA hul,hu1,ABT,hw,ABV,c1,c2,i1,i2,i3,i4,e1,e2,e3,hcur,hcl',ABd hdl])
  n (1099511627776,0,1,ls,fr) ⟨1099511627776,0,1,ls,fr,rfl,AAd _,by omega,ll,lf,fun k _ _=>⟨rfl,rfl⟩,fun k _ _=>rfl,fun k a b=>by omega,fun k a b=>by omega,.inl ⟨rfl,fun k a b=>by omega⟩⟩ (by show m+1-(1:Int).toNat<n;unfold PD at hn;omega)
 grind
theorem gR{N m i:Nat}{u v ls w:List Int}{us:List Bool}{Q:List Nat}{j0:Nat}(hm:m≤10)(fr0:List Int)(x16:Int×Int×Int×(List Int)×(List Int))
  (lu:u.length=N+1) (lv:v.length=m+1) (ll:ls.length=m+1) (lw:w.length=m+1)
  (zX:∀k,k≤m→(us.set j0 true)[k]?=some (decide (k∈j0::Q))) (hlu:us.length=m+1)
  (hw:∀k,k≤m→k∈j0::Q→1≤ga w k∧ga w k≤N) (hinj:∀k b,k≤m→b≤m→k∈j0::Q→b∈j0::Q→ga w k=ga w b→k=b)
  (hd:0≤x16.1∧x16.1≤200000) (hub:∀r,1≤r→r≤N→0≤ga u r∧ga u r≤100000) (hvb:∀j,1≤j→j≤m → -100000≤ga v j∧ga v j≤0)
  (hlb:∀k,1≤k→k≤m→k∉j0::Q→0≤ga ls k∧ga ls k≤200000) (ls0:List Int) (h0:0∈j0::Q)
  (n:Nat) (hn:PD≤n):
  ∃(u' v' yN:List Int),iter n (Rh w (m:Int) ((j0:Int),u,v,ls0,fr0,us) x16) (0,u,v,ls)=some (((m+1:Nat):Int),u',v',yN)∧
   u'.length=N+1∧v'.length=m+1∧yN.length=m+1∧
   (∀r:Nat,1≤r→r≤N→(∃b∈j0::Q,b≤m∧ga w b=(r:Int))→ga u' r=ga u r+x16.1)∧
   (∀r:Nat,1≤r→r≤N→¬(∃b∈j0::Q,b≤m∧ga w b=(r:Int))→ga u' r=ga u r)∧
   (∀j,1≤j→j≤m→j∈j0::Q→ga v' j=ga v j-x16.1)∧(∀j,1≤j→j≤m→j∉j0::Q→ga v' j=ga v j)∧
   (∀j,1≤j→j≤m→j∉j0::Q→ga yN j=ga ls j-x16.1):=by
 obtain⟨z,⟨j,u',v',yN,e,hje,h1⟩,h2⟩:=XR (f:=Rh w (m:Int) ((j0:Int),u,v,ls0,fr0,us) x16)
  (fun x=>∃(j:Nat) (u' v' yN:List Int),x=((j:Int),u',v',yN)∧j≤m+1∧u'.length=N+1∧v'.length=m+1∧yN.length=m+1∧
   (∀r:Nat,1≤r→r≤N→(∃b∈j0::Q,b<j∧ga w b=(r:Int))→ga u' r=ga u r+x16.1)∧
   (∀r:Nat,1≤r→r≤N→¬(∃b∈j0::Q,b<j∧ga w b=(r:Int))→ga u' r=ga u r)∧
   (∀k,1≤k→k≤m→k∈j0::Q→ga v' k=if k<j then ga v k-x16.1 else ga v k)∧(∀k,1≤k→k≤m→k∉j0::Q→ga v' k=ga v k)∧
   (∀k,1≤k→k≤m→k∉j0::Q→ga yN k=if k<j then ga ls k-x16.1 else ga ls k))
  (fun x=>∃(j:Nat) (u' v' yN:List Int),x=((j:Int),u',v',yN)∧j=m+1∧u'.length=N+1∧v'.length=m+1∧yN.length=m+1∧
   (∀r:Nat,1≤r→r≤N→(∃b∈j0::Q,b<j∧ga w b=(r:Int))→ga u' r=ga u r+x16.1)∧
   (∀r:Nat,1≤r→r≤N→¬(∃b∈j0::Q,b<j∧ga w b=(r:Int))→ga u' r=ga u r)∧
   (∀k,1≤k→k≤m→k∈j0::Q→ga v' k=if k<j then ga v k-x16.1 else ga v k)∧(∀k,1≤k→k≤m→k∉j0::Q→ga v' k=ga v k)∧
   (∀k,1≤k→k≤m→k∉j0::Q→ga yN k=if k<j then ga ls k-x16.1 else ga ls k))
  (fun x=>m+1-x.1.toNat) (fun x hx=>by
   obtain⟨j,u',v',yN,rfl,b,l1,l2,l3,g1,g2,g3,g4,g5⟩:=hx;by_cases hj:j=m+1
   ·left;have hdd:decide ((j:Int)≤(m:Int))=false:=by rw[AAf];omega
    exact⟨((j:Int),u',v',yN),by simp only[Rh,hdd,ABV],j,u',v',yN,rfl,hj,l1,l2,l3,g1,g2,g3,g4,g5⟩
   ·right;have hjm:j≤m:=by omega
    have hdd:decide ((j:Int)≤(m:Int))=true:=by rw[AAb];omega
    have hu1:=zX j hjm;have hul:j<(us.set j0 true).length:=by simp;omega
    have hw1:O9 ((j:Int)+1)=((j+1:Nat):Int):=O5 (show j<m+1 by omega) (by omega);have hmu:m+1-((j+1:Nat):Int).toNat<m+1-((j:Nat):Int).toNat:=by omega
    by_cases hQ:j∈j0::Q
    ·rw[ABZ hQ]at hu1;obtain⟨w1,w2⟩:=hw j hjm hQ;obtain⟨r,hr⟩:∃r:Nat,ga w j=(r:Int):=⟨(ga w j).toNat,by omega⟩;have i1:Ob w (j:Int)=true:=PA (by omega);have i2:Ob u' (r:Int)=true:=PA (by omega);have i3:Ob v' (j:Int)=true:=PA (by omega);have e1:=T6 (l:=w) (i:=j) (by omega);rw[hr]at e1;have e2:=T6 (l:=u') (i:=r) (by omega);have e3:=T6 (l:=v') (i:=j) (by omega)
     have xY:¬ ∃b∈j0::Q,b<j∧ga w b=(r:Int):=by
      rintro ⟨b,hb,tX,e⟩
      have:=hinj b j (by omega) hjm hb hQ (by omega);omega
     have tu:=g2 r (by omega) (by omega) xY;have hub':=hub r (by omega) (by omega);refine⟨(((j+1:Nat):Int),u'.set r (O9 (ga u' r+x16.1)),v'.set j (O9 (ga v' j-x16.1)),yN),?_,⟨j+1,u'.set r (O9 (ga u' r+x16.1)),v'.set j (O9 (ga v' j-x16.1)),yN,rfl,by omega,by simp[l1],by simp[l2],l3,fun s s1 s2 hs=>?_,fun s s1 s2 hs=>?_,fun k k1 k2 hk=>?_,fun k k1 k2 hk=>?_,fun k k1 k2 hk=>?_⟩,hmu⟩
     ·simp only[Rh,hdd,ABU,ABX,Pw,PA hul,hu1,ABT,hw1,i1,i2,i3,e1,e2,e3]
     ·rw[T7 (by omega)];by_cases e:s=r
      ·rw[AAK e,e,PC (by omega) (by omega)];omega
      ·rw[AAM e];obtain⟨b,hb,tX,eb⟩:=hs;have hbj:b≠j:=fun e2=>by rw[e2,hr]at eb;omega
       exact g1 s s1 s2 ⟨b,hb,by omega,eb⟩
     ·have e:s≠r:=fun e=>hs ⟨j,hQ,by omega,by rw[hr,e]⟩;rw[T7 (by omega),AAM e];exact g2 s s1 s2 fun⟨b,hb,tX,eb⟩=>hs ⟨b,hb,by omega,eb⟩
     ·rw[T7 (by omega)];by_cases e:k=j
      ·have h3:=g3 k k1 k2 hk;rw[AAM (by omega)]at h3;have:=hvb k k1 k2;rw[AAK e,AAK (by omega),←e,h3,PC (by omega) (by omega)]
      ·rw[AAM e,g3 k k1 k2 hk];by_cases e2:k<j
       ·rw[AAK e2,AAK (by omega)]
       ·rw[AAM e2,AAM (by omega)]
     ·have e:k≠j:=fun e=>hk (e▸hQ);rw[T7 (by omega),AAM e];exact g4 k k1 k2 hk
     ·have e:k≠j:=fun e=>hk (e▸hQ);rw[g5 k k1 k2 hk];by_cases e2:k<j
      ·rw[AAK e2,AAK (by omega)]
      ·rw[AAM e2,AAM (by omega)]
    ·rw[ABd hQ]at hu1
     have hj1:1≤j:=by
      rcases Nat.eq_zero_or_pos j with e|e
      ·exact absurd (e▸h0) hQ
      ·exact e
     have i3:Ob yN (j:Int)=true:=PA (by omega);have e3:=T6 (l:=yN) (i:=j) (by omega);have h5:=g5 j hj1 hjm hQ;rw[AAM (by omega)]at h5;have hlb':=hlb j hj1 hjm hQ
     have sm:∀r:Nat,(∃b∈j0::Q,b<j+1∧ga w b=(r:Int))↔∃b∈j0::Q,b<j∧ga w b=(r:Int):=fun r=>
      ⟨fun⟨b,hb,h1,h2⟩=>⟨b,hb,by
       have:b≠j:=fun e=>hQ (e▸hb);omega,h2⟩,fun⟨b,hb,h1,h2⟩=>⟨b,hb,by omega,h2⟩⟩
     refine⟨(((j+1:Nat):Int),u',v',yN.set j (O9 (ga yN j-x16.1))),?_,⟨j+1,u',v',yN.set j (O9 (ga yN j-x16.1)),rfl,by omega,l1,l2,by simp[l3],fun s s1 s2 hs=>g1 s s1 s2 ((sm s).1 hs),fun s s1 s2 hs=>g2 s s1 s2 fun h=>hs ((sm s).2 h),fun k k1 k2 hk=>?_,g4,fun k k1 k2 hk=>?_⟩,hmu⟩
     ·simp only[Rh,hdd,ABU,ABV,ABX,Pw,PA hul,hu1,ABT,hw1,i3,e3]
     ·have e:k≠j:=fun e=>hQ (e▸hk);rw[g3 k k1 k2 hk];by_cases e2:k<j
      ·rw[AAK e2,AAK (by omega)]
      ·rw[AAM e2,AAM (by omega)]
     ·rw[T7 (by omega)];by_cases e:k=j
      ·rw[AAK e,AAK (by omega),e,h5,PC (by omega) (by omega)]
      ·rw[AAM e,g5 k k1 k2 hk];by_cases e2:k<j
       ·rw[AAK e2,AAK (by omega)]
       ·rw[AAM e2,AAM (by omega)])
  n (0,u,v,ls) ⟨0,u,v,ls,rfl,by omega,lu,lv,ll,fun r _ _ h=>by obtain⟨b,_,hb,_⟩:=h;omega,fun r _ _ _=>rfl,fun k _ _ _=>by rw[AAM (by omega)],fun k _ _ _=>rfl,fun k _ _ _=>by rw[AAM (by omega)]⟩ (by show m+1-(0:Int).toNat<n;unfold PD at hn;omega)
 obtain⟨l1,l2,l3,g1,g2,g3,g4,g5⟩:=h1;subst hje;refine⟨u',v',yN,by rw[h2,e],l1,l2,l3,fun r r1 r2 ⟨b,hb,hbm,eb⟩=>g1 r r1 r2 ⟨b,hb,by omega,eb⟩,fun r r1 r2 h=>g2 r r1 r2 fun⟨b,hb,hbm,eb⟩=>h ⟨b,hb,by omega,eb⟩,fun j j1 j2 hj=>?_,g4,fun j j1 j2 hj=>?_⟩
 all_goals grind
theorem Uo{α γ:Type}{f:α→Option (α⊕γ)}(R:Nat→α→Prop)(S:γ→Prop)
  (h:∀k x,R k x→(∃z,f x=some (.inr z)∧S z)∨(∃x' k',f x=some (.inl x')∧R k' x'∧k'<k)):
  ∀n k x,R k x→k<n→∃z,S z∧iter n f x=some z:=by
 intro n
 induction n with
 |zero=>omega
 |succ n ih=>
  intro k x hR hn;rcases h k x hR with⟨z,h1,h3⟩|⟨x',k',h1,h3,h4⟩
  ·exact⟨z,h3,Pj h1 n⟩
  ·obtain⟨z,h5,h6⟩:=ih k' x' h3 (by omega);exact⟨z,h5,(Rp h1 n).trans h6⟩
theorem Ch.zero{P:Nat→Nat→Prop}:∀ {a:Nat} {l:List Nat},Ch P (a::l)→0∈a::l
 |a,[],h=>by
  rcases h with⟨h,_⟩|⟨_,⟨x,hx,_⟩,_⟩
  all_goals grind
 |a,b::l,h=>by
  rcases h with⟨_,h⟩|⟨_,_,h⟩
  ·cases h
  ·exact AAJ _ (Ch.zero h)
theorem fH{a0:List (List Int)}{m i:Nat}(hc:CM a0 m){w:List Int}(lw:w.length=m+1)(hm:HM m i (ga w))(hw0:ga w 0=(i:Int))(h1i:1≤i)(hiN:i≤a0.length)(n:Nat)(hn:PD≤n)
  {u v ls fr:List Int} {us:List Bool} {j0:Nat} {Q:List Nat} (lu:u.length=a0.length+1) (lv:v.length=m+1) (ll:ls.length=m+1) (lf:fr.length=m+1) (lj:us.length=m+1)
  (hG:HG (cC a0) a0.length m (ga u) (ga v) (ga w) (ga ls) (ga fr) Q j0) (hu:∀k,k≤m→us[k]?=some (decide (k∈Q))) (mw:1≤ga w j0) (hfar:Q=[]→∀k,k≤m→ga ls k=1099511627776):
  ∃(j1:Nat) (u' v' yN yQ:List Int),u'.length=a0.length+1∧v'.length=m+1∧yN.length=m+1∧yQ.length=m+1∧HG (cC a0) a0.length m (ga u') (ga v') (ga w) (ga yN) (ga yQ) (j0::Q) j1∧
   (∀k,k≤m→(us.set j0 true)[k]?=some (decide (k∈j0::Q)))∧0≤ga w j1∧(j0::Q).length≤m+1∧
   Rf n a0 w (m:Int) ((j0:Int),u,v,ls,fr,us)=bif ga w j1==0 then some (.inr ((j1:Int),u',v',yN,yQ,us.set j0 true))else some (.inl ((j1:Int),u',v',yN,yQ,us.set j0 true)):=by
 have hm10:=hc.lC;have hnm:=hc.nm;have hj0:=hG.oe
 obtain⟨bu,bv⟩:=hG.hf.Mp hG.ht hm h1i (by omega) hiN (M:=100000) (fun r j r1 r2 j1 j2=>by
  obtain⟨_,_,_,p,q⟩:=hc.at r1 r2 j1 j2;omega)
 have wle:∀k,k≤m→ga w k≤(a0.length:Int):=fun k hk=>by
  by_cases e:k=0
  ·grind
  ·have:=hm.dH k (by clear hn;omega) hk;omega
 obtain⟨i0,xu⟩:∃i0:Nat,ga w j0=(i0:Int):=⟨(ga w j0).toNat,by omega⟩;have hi01:1≤i0:=by clear hn;omega
 have hi02:i0≤a0.length:=by have:=wle j0 hj0;clear hn;omega
 have vq:∀k,k≤m→(us.set j0 true)[k]?=some (decide (k∈j0::Q)):=fun k hk=>by grind
 obtain⟨d,j1,yN,yQ,s1,l1,l2,s2,s3,s4,s5⟩:=fG (i:=i) hc (w:=w) hj0 lu lv ll lf vq lj hi01 hi02 (bu i0 hi01 hi02) bv n hn
 have hfar2:Q=[]→∀j,1≤j→j≤m→cC a0 i0 j-ga u i0-ga v j<ga ls j:=fun e j a b=>by rw[hfar e j b];obtain⟨_,_,_,p,q⟩:=hc.at hi01 hi02 a b;grind
 have hS:HS (cC a0) a0.length m (ga u) (ga v) (ga w) (ga yN) (ga yQ) (j0::Q):=hG.scan hi01 xu hfar2 s2 s3
 have rN:∀b∈j0::Q,∀r:Nat,ga w b=(r:Int)→1≤r∧r≤a0.length:=fun b hb r hr=>by have:=hS.qp b hb;have:=wle b (hS.qm b hb);omega
 have hlb:∀k,1≤k→k≤m→k∉j0::Q→0≤ga yN k∧ga yN k≤200000:=fun k a b c=>by obtain⟨q,hq,_,r,r1,r2,r3⟩:=hS.l2 k a b c;obtain⟨p1,p2⟩:=rN q hq r r2;have:=hS.hf.jq r k p1 p2 a b;obtain⟨_,_,_,p,q⟩:=hc.at p1 p2 a b;have:=bu r p1 p2;have:=bv k a b;omega
 rcases s5 with s5|⟨a1,a2,a3,a4⟩
 ·obtain⟨f,f1,f2,f3⟩:=hm.open h1i (by clear hn;omega);grind
 have zI:=hlb j1 a1 a2 a3;rw[a4]at zI
 have hinj:∀k b,k≤m→b≤m→k∈j0::Q→b∈j0::Q→ga w k=ga w b→k=b:=fun k b c1 c2 c3 c4 c5=>by
  have p1:=hS.qp k c3;by_cases k0:k=0
  ·by_cases b0:b=0
   ·omega
   ·have:=hm.dH b (by clear hn;omega) c2;grind
  ·by_cases b0:b=0
   ·have:=hm.dH k (by clear hn;omega) c1;grind
   ·exact hm.inj k b (by omega) c1 (by omega) c2 c5 (by omega)
 have h00:0∈j0::Q:=Ch.zero hG.ch;obtain⟨u',v',ls'',t1,t2,t3,t4,t5,t6,t7,t8,t9⟩:=gR (m:=m) (i:=i) (u:=u) (v:=v) (ls:=yN) (w:=w) hm10 fr (d,(j1:Int),((m+1:Nat):Int),yN,yQ) lu lv l1 lw vq lj (fun k a b=>⟨hS.qp k b,wle k a⟩) hinj zI bu bv hlb ls h00 n hn;obtain⟨hd0,hG'⟩:=hS.step (u':=ga u') (v':=ga v') (yN:=ga ls'') hm hw0 hiN a1 a2 a3 a4 s4 (fun r r1 r2 ⟨b,hb,eb⟩=>t5 r r1 r2 ⟨b,hb,hS.qm b hb,eb⟩) (fun r r1 r2 h=>t6 r r1 r2 fun⟨b,hb,_,eb⟩=>h ⟨b,hb,eb⟩) t7 t8 t9;have i1:Ob us (j0:Int)=true:=PA (by omega);have i2:Ob w (j0:Int)=true:=PA (by omega);have i3:Ob w (j1:Int)=true:=PA (by omega);have e2:=T6 (l:=w) (i:=j0) (by omega);have e3:=T6 (l:=w) (i:=j1) (by omega);rw[xu]at e2
 have hlen:(j0::Q).length≤m+1:=by have:=ZW (j0::Q) (List.range (m+1)) hS.nd (fun x hx=>by rw[AAR];have:=hS.qm x hx;omega);simpa using this
 refine⟨j1,u',v',ls'',yQ,t2,t3,t4,l2,hG',vq,(hm.dH j1 a1 a2).1,hlen,?_⟩;simp only[Rf,i1,i2,i3,ABU,ABX,e2,e3,ABT,s1,t1,Pw]
abbrev GT:=Int×(List Int)×(List Int)×(List Int)×(List Int)×(List Bool)
structure GS(a0:List (List Int))(m:Nat)(w:List Int)(k:Nat)(x:GT)(j0:Nat)(Q:List Nat):Prop where
 j:x.1=(j0:Int)
 lu:x.2.1.length=a0.length+1
 lv:x.2.2.1.length=m+1
 ll:x.2.2.2.1.length=m+1
 lf:x.2.2.2.2.1.length=m+1
 lj:x.2.2.2.2.2.length=m+1
 hG:HG (cC a0) a0.length m (ga x.2.1) (ga x.2.2.1) (ga w) (ga x.2.2.2.1) (ga x.2.2.2.2.1) Q j0
 hu:∀k,k≤m→x.2.2.2.2.2[k]?=some (decide (k∈Q))
 mw:1≤ga w j0
 hfar:Q=[]→∀k,k≤m→ga x.2.2.2.1 k=1099511627776
 hk:k+Q.length=m+1
structure GE(a0:List (List Int))(m:Nat)(w:List Int)(x:GT)(j0:Nat)(Q:List Nat):Prop where
 j:x.1=(j0:Int)
 lu:x.2.1.length=a0.length+1
 lv:x.2.2.1.length=m+1
 lf:x.2.2.2.2.1.length=m+1
 hG:HG (cC a0) a0.length m (ga x.2.1) (ga x.2.2.1) (ga w) (ga x.2.2.2.1) (ga x.2.2.2.2.1) Q j0
 hz:ga w j0=0
theorem gQ{a0:List (List Int)}{m i:Nat}(hc:CM a0 m){w:List Int}(lw:w.length=m+1)(hm:HM m i (ga w))(hw0:ga w 0=(i:Int))(h1i:1≤i)(hiN:i≤a0.length)(n:Nat)(hn:PD≤n)(k:Nat)(x:GT)(hx:∃j0 Q,GS a0 m w k x j0 Q):
  (∃z,Rf n a0 w (m:Int) x=some (.inr z)∧∃j0 Q,GE a0 m w z j0 Q)∨(∃x' k',Rf n a0 w (m:Int) x=some (.inl x')∧(∃j0 Q,GS a0 m w k' x' j0 Q)∧k'<k):=by
 obtain⟨x1,u,v,ls,fr,us⟩:=x;obtain⟨j0,Q,⟨j,lu,lv,ll,lf,lj,hG,hu,mw,hfar,hk⟩⟩:=hx;dsimp only at j lu lv ll lf lj hG hu hfar;subst j;obtain⟨j1,u',v',yN,yQ,t2,t3,t4,l2,hG',vq,hw1,hlen,hstep⟩:=fH hc lw hm hw0 h1i hiN n hn lu lv ll lf lj hG hu mw hfar;clear hG hu hfar hn;rw[ABG]at hlen;by_cases hz:ga w j1=0
 ·rw[show(ga w j1==0)=true by grind,ABU]at hstep;exact .inl ⟨_,hstep,j1,j0::Q,⟨rfl,t2,t3,l2,hG',hz⟩⟩
 ·rw[show(ga w j1==0)=false by grind,ABV]at hstep;have h1:1≤ga w j1:=by clear hstep hG' vq;omega
  exact .inr ⟨_,k-1,hstep,⟨j1,j0::Q,⟨rfl,t2,t3,t4,l2,(by grind),hG',vq,h1,(fun h=>nomatch h),(by grind)⟩⟩,(by omega)⟩
theorem fF{a0:List (List Int)}{m i:Nat}(hc:CM a0 m){w:List Int}(lw:w.length=m+1)(hm:HM m i (ga w))(hw0:ga w 0=(i:Int))(h1i:1≤i)(hiN:i≤a0.length)(n:Nat)(hn:PD≤n)
  {u v ls fr:List Int} {us:List Bool} (lu:u.length=a0.length+1) (lv:v.length=m+1) (ll:ls.length=m+1) (lf:fr.length=m+1) (lj:us.length=m+1)
  (hf:HF (cC a0) a0.length m (ga u) (ga v)) (ht:HT (cC a0) m (ga u) (ga v) (ga w)) (vf:∀k,k≤m→ga ls k=1099511627776) (zX:∀k,k≤m→us[k]?=some false):
  ∃z,(∃j0 Q,GE a0 m w z j0 Q)∧iter n (Rf n a0 w (m:Int)) (0,u,v,ls,fr,us)=some z:=by
 have hm10:=hc.lC
 have h0:GS a0 m w (m+1) (0,u,v,ls,fr,us) 0 []:=
  ⟨rfl,lu,lv,ll,lf,lj,⟨hf,ht,by omega,by simp,by simp,by simp,.inl ⟨rfl,rfl⟩,fun _ _ _ _ b hb=>(nomatch hb),.inl rfl⟩,fun k hk=>by grind,by omega,fun _=>vf,by simp⟩
 exact Uo (fun k x=>∃j0 Q,GS a0 m w k x j0 Q) (fun z=>∃j0 Q,GE a0 m w z j0 Q) (gQ hc lw hm hw0 h1i hiN n hn) n (m+1) _ ⟨0,[],h0⟩ (by unfold PD at hn;omega)
theorem gO{C:Nat→Nat→Int}{m i:Nat}{u v fr:List Int}(x27:Int×(List Int)×(List Int)×(List Int)×(List Int)×(List Bool))(hx:x27.2.2.2.2.1=fr)(lf:fr.length=m+1)(n:Nat)(hn:PD≤n){w:List Int}(lw:w.length=m+1){j0:Nat}{Q:List Nat}(hm:m≤10)
  (h:HA C m i (ga u) (ga v) (ga fr) (ga w) j0 Q):∃z,(∃w' Q',z=((0:Int),w')∧w'.length=m+1∧HA C m i (ga u) (ga v) (ga fr) (ga w') 0 Q')∧iter n (UY x27) ((j0:Int),w)=some z:=by
 refine Uo (fun k x=>∃(j0:Nat) (Q:List Nat) (w:List Int),x=((j0:Int),w)∧w.length=m+1∧HA C m i (ga u) (ga v) (ga fr) (ga w) j0 Q∧k=Q.length) _ (fun k x hx'=>?_) n Q.length ((j0:Int),w) ⟨j0,Q,w,rfl,lw,h,rfl⟩ ?_
 ·obtain⟨j0,Q,w,rfl,lw,h,rfl⟩:=hx';by_cases hj:j0=0
  ·left;subst hj;exact⟨((0:Int),w),by simp[UY],w,Q,rfl,lw,h⟩
  ·right;have hjm:j0≤m:=h.lm j0 AAe;obtain⟨x,Q',p1,p2,p3,p4,p5⟩:=h.next (by omega);have tj:((j0:Int) != 0)=true:=by simp;omega
   have i1:Ob fr (j0:Int)=true:=PA (by omega);have i2:Ob w (x:Int)=true:=PA (by omega);have i3:Ob w (j0:Int)=true:=PA (by omega);have e1:=T6 (l:=fr) (i:=j0) (by omega);have e2:=T6 (l:=w) (i:=x) (by omega);rw[p1]at e1;refine⟨((x:Int),w.set j0 (ga w x)),Q'.length,?_,⟨x,Q',w.set j0 (ga w x),rfl,by simp[lw],p5 _ ?_ (fun j a b=>?_),rfl⟩,p3⟩
   ·simp only[UY,tj,ABU,hx,i1,i2,i3,ABX,e1,e2,ABT,Pw]
   ·rw[T7 (by omega),AAK rfl]
   ·rw[T7 (by omega),AAM b]
 ·have:=ZW Q (List.range (m+1)) (AAY.1 h.nd).2 (fun x hx=>by rw[AAR];have:=h.lm x (AAJ _ hx);omega);simp at this;unfold PD at hn;omega
theorem iz{a0:List (List Int)}{m i:Nat}(hc:CM a0 m){u v w:List Int}(lu:u.length=a0.length+1)(lv:v.length=m+1)(lw:w.length=m+1)(h1i:1≤i)(hiN:i≤a0.length)
  (hf:HF (cC a0) a0.length m (ga u) (ga v)) (ht:HT (cC a0) m (ga u) (ga v) (ga w)) (hm:HM m i (ga w)) (hw0:ga w 0=(i:Int)) (n:Nat) (hn:PD≤n):
  ∃u' v' w',W4 n a0 u v w (m:Int)=some (u',v',w')∧u'.length=a0.length+1∧v'.length=m+1∧w'.length=m+1∧HF (cC a0) a0.length m (ga u') (ga v')∧HT (cC a0) m (ga u') (ga v') (ga w')∧HM m (i+1) (ga w'):=by
 have hm10:=hc.lC;have e0:O9 ((m:Int)+1)=((m+1:Nat):Int):=O5 (show m<m+1 by omega) (by omega)
 have g0:(decide (0≤((m+1:Nat):Int))&&decide (((m+1:Nat):Int)≤(Dh:Int))&&decide (((m+1:Nat):Int)=((m+1:Nat):Int)))=true:=by rw[ABZ (show 0≤((m+1:Nat):Int) by omega),ABZ (show((m+1:Nat):Int)≤(Dh:Int) by unfold Dh;omega)];simp
 obtain⟨⟨x1,u',v',ls,fr,us⟩,⟨j0,Q,⟨j,lu',lv',lf',hG,hz⟩⟩,h2⟩:=fF hc lw hm hw0 h1i hiN n hn (ls:=List.replicate (m+1) 1099511627776) (fr:=List.replicate (m+1) 0) (us:=List.replicate (m+1) false) lu lv (by simp) (by simp) (by simp) hf ht (fun k hk=>Xb _ _ _ (by omega)) (fun k hk=>by grind);dsimp only at j lu' lv' lf' hG;subst j;obtain⟨z2,⟨w',Q',rfl,lw',hA⟩,h3⟩:=gO (fr:=fr) ((j0:Int),u',v',ls,fr,us) rfl lf' n hn lw hm10 (hG.ry hm hw0 h1i hz);obtain⟨d1,d2⟩:=hA.done;refine⟨u',v',w',?_,lu',lv',lw',hG.hf,d2,d1⟩;unfold W4;rw[e0,g0];simp only[ABU,ABX,gP m hm10 n hn,ABT,h2,h3]
def Pm(a0:List (List Int)):List (Nat→Int):=a0.map ga
theorem dq(a0:List (List Int)){r:Nat}(h:r<a0.length)(k:Nat):((Pm a0)[r]'(by simp only[Pm,ABB];exact h)) k=cC a0 (r+1) (k+1):=by have e:(a0.map ga)[r]'(by simpa using h)=ga a0[r]:=ABr ..;show((a0.map ga)[r]'(by simpa using h)) k=_;rw[e];unfold cC;grind
theorem g8{P:Nat→Nat→Prop}:∀N:Nat,(∀r,r<N→∃k,P r k)→∃cs:List Nat,cs.length=N∧∀r (h:r<cs.length),P r cs[r]
 |0,_=>⟨[],rfl,fun r h=>by simp at h⟩
 |N+1,h=>by obtain⟨cs,h1,h2⟩:=g8 N (fun r hr=>h r (by omega));obtain⟨k,hk⟩:=h N (by omega);refine⟨cs++[k],by simp[h1],fun r hr=>?_⟩;grind
theorem fT(f:Nat→Int):∀(R:List (Nat→Int)) (cs:List Nat),cs.length=R.length→(∀r (h1:r<R.length) (h2:r<cs.length),R[r] cs[r]=f cs[r])→jK R cs=Qc (cs.map f)
 | [],[],_,_=>rfl
 | [],c::cs,h,_=>by simp at h
 |r::R,[],h,_=>by simp at h
 |r::R,c::cs,h,he=>by
  have h0:=he 0 (by simp) (by simp);simp only[List.getElem_cons_zero]at h0;simp only[jK,ABK,Qc]
  rw[h0,fT f R cs (by simpa using h) (fun r h1 h2=>by
   have:=he (r+1) (by simp;omega) (by simp;omega);simpa only[List.getElem_cons_succ]using this)]
theorem iN(f h:Nat→Int):∀(cs:List Nat)(u:List Int),u.length=cs.length→(∀r (h1:r<cs.length) (h2:r<u.length),f cs[r]=u[r]+h cs[r])→Qc (cs.map f)=Qc u+Qc (cs.map h)
 | [],[],_,_=>rfl
 | [],c::cs,h,_=>by simp at h
 |r::R,[],h,_=>by simp at h
 |c::cs,x::u,hl,he=>by
  have h0:=he 0 (by simp) (by simp);simp only[List.getElem_cons_zero]at h0
  have:=iN f h cs u (by grind) (fun r h1 h2=>by
   have:=he (r+1) (by simp;omega) (by simp;omega);grind)
  simp only[ABK,Qc];omega
theorem bw{a0:List (List Int)}{m:Nat}(hc:CM a0 m)(n:Nat)(hn:PD≤n):∃s,Ru n a0=some s∧mK (Pm a0) (List.range m) s:=by
 have hm10:=hc.lC;have hnm:=hc.nm;by_cases h0:a0.length=0
 ·have:a0=[]:=AAP h0;subst this;exact⟨0,by simp[Ru],rfl,fun y hy=>by simp only[Pm,List.map_nil,AS]at hy;omega⟩
 have hg0:M8 a0 0=some a0[0]:=O6 (show 0<a0.length by omega);have vP:a0[0].length=m:=hc.row _ (ABW (show 0<a0.length by omega));have tj:((a0.length:Int)==0)=false:=by simp;intro h;exact h0 (by simp[h])
 have e0:∀k:Nat,k≤10→O9 ((k:Int)+1)=((k+1:Nat):Int)∧(decide (0≤((k+1:Nat):Int))&&decide (((k+1:Nat):Int)≤(Dh:Int))&&decide (((k+1:Nat):Int)=((k+1:Nat):Int)))=true:=fun k hk=>by refine⟨O5 (show k<k+1 by omega) (by omega),?_⟩;rw[ABZ (show 0≤((k+1:Nat):Int) by omega),ABZ (show((k+1:Nat):Int)≤(Dh:Int) by unfold Dh;omega)];simp
 obtain⟨z,⟨u,v,w,rfl,lu,lv,lw,hf,ht,hm⟩,hz⟩:=Uo (f:=Th n a0 a0[0])
  (fun k x=>∃(i:Nat) (u v w:List Int),x=((i:Int),u,v,w)∧1≤i∧k+i=a0.length+1∧u.length=a0.length+1∧v.length=m+1∧w.length=m+1∧HF (cC a0) a0.length m (ga u) (ga v)∧HT (cC a0) m (ga u) (ga v) (ga w)∧HM m i (ga w))
  (fun z=>∃(u v w:List Int),z=(((a0.length+1:Nat):Int),u,v,w)∧u.length=a0.length+1∧v.length=m+1∧w.length=m+1∧HF (cC a0) a0.length m (ga u) (ga v)∧HT (cC a0) m (ga u) (ga v) (ga w)∧HM m (a0.length+1) (ga w))
  (fun k x hx=>by
   obtain⟨i,u,v,w,rfl,h1,hk,lu,lv,lw,hf,ht,hm⟩:=hx;by_cases hi:i=a0.length+1
   ·left;subst hi;have hd:decide (((a0.length+1:Nat):Int)≤(a0.length:Int))=false:=by rw[AAf];omega
    exact⟨_,by simp only[Th,hd,ABV],u,v,w,rfl,lu,lv,lw,hf,ht,hm⟩
   ·right;have hd:decide ((i:Int)≤(a0.length:Int))=true:=by rw[AAb];omega
    have i0:Ob w 0=true:=PA (show 0<w.length by omega);have hs:∀j,1≤j→j≤m→ga (w.set 0 (i:Int)) j=ga w j:=fun j a b=>by rw[T7 (by omega),AAM (by omega)]
    obtain⟨u',v',w',g1,g2,g3,g4,g5,g6,g7⟩:=iz hc lu lv (w:=w.set 0 (i:Int)) (by simp[lw]) h1 (by omega) hf (ht.congr hs) (hm.congr hs) (by rw[T7 (by omega),AAK rfl]) n hn;refine⟨(((i+1:Nat):Int),u',v',w'),k-1,?_,⟨i+1,u',v',w',rfl,by omega,by omega,g2,g3,g4,g5,g6,g7⟩,by omega⟩;simp only[Th,hd,ABU,i0,Pw,vP,g1,ABT,O5 (show i<a0.length+1 by omega) (by omega),Int.toNat_zero])
  n a0.length (1,List.replicate (a0.length+1) 0,List.replicate (m+1) 0,List.replicate (m+1) 0) ⟨1,_,_,_,rfl,by omega,rfl,by simp,by simp,by simp,⟨fun r j r1 r2 j1 j2=>by
   rw[Xb _ _ _ (by omega),Xb _ _ _ (by omega)];obtain⟨_,_,_,p,_⟩:=hc.at r1 r2 j1 j2;omega,fun j a b=>by rw[Xb _ _ _ (by omega)];omega,fun r a b=>by rw[Xb _ _ _ (by omega)];omega⟩,⟨fun j r a b c d=>by rw[Xb _ _ _ (by omega)]at d;omega,fun j a b c=>Xb _ _ _ (by omega)⟩,⟨fun j a b=>by rw[Xb _ _ _ (by omega)];omega,fun j k a b c d e f=>by rw[Xb _ _ _ (by omega)]at f;omega,fun r a b=>by omega⟩⟩ (by unfold PD at hn;omega)
 let f:Nat→Int:=fun k=>if 0<ga w (k+1)then cC a0 (ga w (k+1)).toNat (k+1)else 0
 have fdef:∀k,f k=if 0<ga w (k+1)then cC a0 (ga w (k+1)).toNat (k+1)else 0:=fun k=>rfl
 clear_value f
 have fb:∀k,k<m→0≤f k∧f k≤100000:=fun k hk=>by
  rw[fdef];by_cases h:0<ga w (k+1)
  ·rw[AAK h];have:=hm.dH (k+1) (by omega) (by omega);obtain⟨_,_,_,p,q⟩:=hc.at (r:=(ga w (k+1)).toNat) (j:=k+1) (by omega) (by omega) (by omega) (by omega);exact⟨p,q⟩
  omega
 have sb:∀k:Nat,k≤m→0≤Qc ((List.range k).map f)∧Qc ((List.range k).map f)≤100000*(k:Int):=by
  intro k
  induction k with
  |zero=>intro _;simp[Qc]
  |succ k ih=>
   intro hk;obtain⟨p,q⟩:=ih (by omega);have:=fb k (by omega);rw[AB4,List.map_append,cV];simp only[ABK,List.map_nil,Qc];omega
 have hsum:iter n (Q3 a0 a0[0] (((a0.length+1:Nat):Int),u,v,w)) (0,1)=some (Qc ((List.range m).map f),((m+1:Nat):Int)):=by
  have:=Ph (Q3 a0 a0[0] (((a0.length+1:Nat):Int),u,v,w)) (fun k=>(Qc ((List.range k).map f),((k+1:Nat):Int))) m (Qc ((List.range m).map f),((m+1:Nat):Int)) (fun k hk=>by
   have hd:decide (((k+1:Nat):Int)≤(a0[0].length:Int))=true:=by rw[AAb];omega
   have i1:Ob w ((k+1:Nat):Int)=true:=PA (by omega);have e1:=T6 (l:=w) (i:=k+1) (by omega);have hw1:O9 (((k+1:Nat):Int)+1)=((k+1+1:Nat):Int):=O5 (show k+1<m+1 by omega) (by omega)
   have hS:Qc ((List.range (k+1)).map f)=Qc ((List.range k).map f)+f k:=by rw[AB4,List.map_append,cV];simp[Qc]
   by_cases h:0<ga w (k+1)
   ·have hdw:decide (ga w (k+1)>0)=true:=ABZ h;have hfk:f k=cC a0 (ga w (k+1)).toNat (k+1):=by grind
    have:=hm.dH (k+1) (by omega) (by omega);obtain⟨l,c1,c2,_,_⟩:=hc.at (r:=(ga w (k+1)).toNat) (j:=k+1) (by omega) (by omega) (by omega) (by omega);have hcast:(((ga w (k+1)).toNat:Nat):Int)=ga w (k+1):=by omega
    rw[hcast]at c1;have b1:=sb k (by omega);have b2:=fb k hk
    have hw2:O9 (Qc ((List.range k).map f)+cC a0 (ga w (k+1)).toNat (k+1))=Qc ((List.range (k+1)).map f):=by rw[hS,hfk];exact PC (by omega) (by omega)
    simp only[Q3,hd,ABU,i1,ABX,e1,ABT,hdw,c1,c2,hw1,hw2]
   ·have hdw:decide (ga w (k+1)>0)=false:=ABd h;have hfk:f k=0:=by grind
    have hw2:Qc ((List.range k).map f)=Qc ((List.range (k+1)).map f):=by rw[hS,hfk];omega
    simp only[Q3,hd,ABU,ABV,i1,ABX,e1,ABT,hdw,hw1];rw[hw2]) (by
   have hd:decide (((m+1:Nat):Int)≤(a0[0].length:Int))=false:=by rw[AAf];omega
   simp only[Q3,hd,ABV]) n (by unfold PD at hn;omega)
  simpa[Qc]using this
 obtain⟨cs,cl,cp⟩:=g8 (P:=fun r k=>k<m∧ga w (k+1)=((r+1:Nat):Int)) a0.length (fun r hr=>by
  obtain⟨j,j1,j2,e⟩:=hm.mj (r+1) (by omega) (by omega);exact⟨j-1,by omega,by grind⟩)
 have cnd:cs.Nodup:=by unfold List.Nodup;rw[ABQ];intro a b ha hb zF e;have p1:=(cp a ha).2;have p2:=(cp b hb).2;rw[e,p2]at p1;omega
 have cin:∀k∈cs,k∈List.range m:=fun k hk=>by obtain⟨a,ha,rfl⟩:=ABY.1 hk;grind
 have coff:∀k∈List.range m,k∉cs→ga w (k+1)=0:=fun k hk hn=>by
  rw[AAR]at hk;have hr:=hm.dH (k+1) (by omega) (by omega);refine AAn fun tj=>hn ?_;have tX:(ga w (k+1)).toNat-1<cs.length:=by omega
  obtain⟨p1,p2⟩:=cp _ tX;have:=hm.inj (cs[(ga w (k+1)).toNat-1]+1) (k+1) (by omega) (by omega) (by omega) (by omega) (by omega) (by omega);grind
 have hR:(Pm a0).length=a0.length:=by simp[Pm]
 have fc:∀r (h:r<cs.length),f cs[r]=cC a0 (r+1) (cs[r]+1):=fun r h=>by have p2:=(cp r h).2;rw[fdef,p2,AAK (by omega),ABX]
 have w4:Qc ((List.range m).map f)=Qc (cs.map f):=gr f cs (List.range m) cnd AB8 cin (fun k hk hn=>by
  grind)
 have w5:jK (Pm a0) cs=Qc (cs.map f):=fT f (Pm a0) cs (by rw[hR,cl]) (fun r h1 h2=>by
  rw[fc r h2,dq _ (by omega)])
 have hs3:Qc (cs.map f)=Qc ((List.range a0.length).map fun r=>ga u (r+1))+Qc (cs.map fun k=>ga v (k+1)):=iN f (fun k=>ga v (k+1)) cs _ (by simp[cl]) (fun r h1 h2=>by
  rw[fc r h1,ABr,List.getElem_range];obtain⟨p1,p2⟩:=cp r h1;exact(ht.tight (cs[r]+1) (r+1) (by omega) (by omega) (by omega) p2).symm)
 have hs4:Qc ((List.range m).map fun k=>ga v (k+1))=Qc (cs.map fun k=>ga v (k+1)):=gr _ cs (List.range m) cnd AB8 cin (fun k hk hn=>by
  have hw:=coff k hk hn;rw[AAR]at hk;exact ht.free (k+1) (by omega) (by omega) hw)
 refine⟨Qc ((List.range m).map f),?_,?_,fun y hy=>?_⟩
 ·unfold Ru;rw[tj,ABV,hg0,ABT,vP,(e0 a0.length (by omega)).1,(e0 m hm10).1,(e0 a0.length (by omega)).2,(e0 m hm10).2];simp only[ABU,ABX,hz,ABT,hsum]
 ·rw[w4,←w5];exact AS.of (Pm a0) cs (List.range m) (by rw[hR,cl]) cnd cin
 ·have:=AS.ge (fun k=>ga v (k+1)) (Pm a0) ((List.range a0.length).map fun r=>ga u (r+1)) (List.range m) y (by simp[Pm]) (fun r hr hu k hk=>by
   rw[AAR]at hk;have hra:r<a0.length:=by rw[hR]at hr;exact hr
   have:=hf.jq (r+1) (k+1) (by omega) (by omega) (by omega) (by omega);rw[ABr,List.getElem_range];have e:(Pm a0)[r] k=cC a0 (r+1) (k+1):=dq _ hra k;rw[e];exact this) (fun k hk=>by
   rw[AAR]at hk;exact hf.mf (k+1) (by omega) (by omega)) hy
  omega
structure RB(R:List (Nat→Int))(m:Nat):Prop where
 b:∀r∈R,∀k,k<m→0≤r k∧r k≤100000
 l:R.length≤10
theorem CM.rb{a0:List (List Int)}{m:Nat}(h:CM a0 m):RB (Pm a0) m:=by
 refine⟨fun r hr k hk=>?_,?_⟩
 ·obtain⟨l,hl,rfl⟩:=AAs.1 hr;have:=h.row l hl;have hg:l[k]?=some (ga l k):=T6 (by omega);exact h.Mp l hl _ (AAN hg)
 ·have:=h.nm;have:=h.lC;simp only[Pm,ABB];omega
theorem Z9{a0:List (List Int)}{m:Nat}(hc:CM a0 m)(n:Nat)(hn:PD≤n):Vv n a0=some true:=by
 have hm10:=hc.lC;have hnm:=hc.nm
 have h1:=Q4 (TY n a0) a0 (fun _=>true) (fun i x hi hx=>by
  obtain⟨_,rfl⟩:=AAH.1 hx;have hl:=hc.row _ (ABW hi);have h0:0<a0.length:=by omega
  have vP:=hc.row _ (ABW h0)
  have h2:=Q4 (TZ a0 (i:Int)) a0[i] (fun _=>true) (fun k y hk hy=>by
   obtain⟨_,rfl⟩:=AAH.1 hy;have hb:=hc.Mp _ (ABW hi) _ (ABW hk);have hd:decide ((k:Int)<(a0[i].length:Int))=true:=by rw[AAb];omega
   have tS:PE a0[i][k] 0 100000=some true:=by rw[P8];unfold Ps;rw[ABZ hb.1,ABZ hb.2];rfl
   simp only[TZ,hd,ABU,O6 hi,O6 hk,ABT,tS,ABc,ABV,O5 hk (by omega)]) (by
   have hd:decide ((a0[i].length:Int)<(a0[i].length:Int))=false:=by simp
   simp only[TZ,O6 hi,ABT,hd,ABV]) n (by unfold PD at hn;omega)
  have hd:decide ((i:Int)<(a0.length:Int))=true:=by rw[AAb];omega
  have uZ:a0[i].all (fun _=>true)=true:=by simp
  rw[uZ,ABU]at h2;have hg0:M8 a0 0=some a0[0]:=O6 h0;have tj:((m:Int) != (m:Int))=false:=by simp
  have h10:decide ((m:Int)>10)=false:=by rw[AAf];omega
  have tX:decide ((m:Int)<(a0.length:Int))=false:=by rw[AAf];omega
  simp only[TY,hd,ABU,O6 hi,hg0,ABT,vP,hl,tj,h10,tX,ABV,h2,O5 hi (by omega)]
  ) (by
  have hd:decide ((a0.length:Int)<(a0.length:Int))=false:=by simp
  simp only[TY,hd,ABV]) n (by unfold PD at hn;omega)
 have uZ:a0.all (fun _=>true)=true:=by simp
 rw[uZ,ABU]at h1;unfold Vv;grind
def PH(l:List Nat):List Int:=l.map fun k:Nat=>(k:Int)
theorem Zp{S:List Nat}(h:S.Nodup){j:Nat}(hj:j<S.length):S.erase S[j]=S.eraseIdx j:=by
 have hs:S=S.take j++S[j]::S.drop (j+1):=by rw[←ABh hj,List.take_append_drop]
 grind
theorem cA{S:List Nat}(h:S.Nodup){i j:Nat}(hi:i<S.length)(hj:j<S.length)(e:S[i]=S[j]):i=j:=by
 rcases ABf i j with h1|h1|h1
 ·exact absurd e (ABQ.1 h i j hi hj h1)
 ·exact h1
 ·exact absurd e.symm (ABQ.1 h j i hj hi h1)
theorem ie(g:Nat→Nat){S:List Nat}(hn:S.Nodup)(hg:∀a∈S,∀b∈S,g a=g b→a=b){k:Nat}(hk:k∈S):(S.map g).erase (g k)=(S.erase k).map g:=by
 have hm:(S.map g).Nodup:=by unfold List.Nodup;rw[ABi];exact ACA (fun {a b} ha hb zF e=>zF (hg a ha b hb e)) hn
 rw[hm.erase_eq_filter,hn.erase_eq_filter,List.filter_map];congr 1;refine List.filter_congr fun x hx=>?_;grind
theorem AS.rename(g:Nat→Nat):∀(R:List (Nat→Int)) (S:List Nat) (x:Int),S.Nodup→(∀a∈S,∀b∈S,g a=g b→a=b)→(AS (R.map fun r k=>r (g k)) S x↔AS R (S.map g) x)
 | [],S,x,_,_=>Iff.rfl
 |r::R,S,x,hn,hg=>by
  have ih:∀k∈S,∀y,AS (R.map fun r k=>r (g k)) (S.erase k) y↔AS R ((S.map g).erase (g k)) y:=fun k hk y=>by rw[ie g hn hg hk];exact AS.rename g R (S.erase k) y (hn.erase k) (fun a ha b hb=>hg a (ABn ha) b (ABn hb))
  refine⟨fun⟨k,hk,y,hy,e⟩=>⟨g k,List.mem_map_of_mem hk,y,(ih k hk y).1 hy,e⟩,fun⟨q,hq,y,hy,e⟩=>?_⟩;obtain⟨k,hk,rfl⟩:=AAs.1 hq;exact⟨k,hk,y,(ih k hk y).2 hy,e⟩
theorem AS.mR:∀(R R2:List (Nat→Int)) (S:List Nat) (x:Int),R.length=R2.length→(∀i (h1:i<R.length) (h2:i<R2.length),∀k∈S,R[i] k=R2[i] k)→AS R S x→AS R2 S x
 | [],[],S,x,_,_,h=>h
 | [],r::R2,S,x,hl,_,_=>by simp at hl
 |r::R,[],S,x,hl,_,_=>by simp at hl
 |r::R,r2::R2,S,x,hl,hc,⟨k,hk,y,hy,e⟩=>by have h0:=hc 0 (by simp) (by simp) k hk;simp only[List.getElem_cons_zero]at h0;refine⟨k,hk,y,AS.mR R R2 (S.erase k) y (by grind) (fun i h1 h2 q hq=>?_) hy,by rw[e,h0]⟩;have:=hc (i+1) (by simp;omega) (by simp;omega) q (ABn hq);simpa only[List.getElem_cons_succ]using this
def Qq(rows:List (List Int))(S:List Nat):List (List Int):=rows.map fun r=>S.map (ga r)
theorem iK(rows:List (List Int)){S:List Nat}(hn:S.Nodup)(x:Int):AS (Pm (Qq rows S)) (List.range S.length) x↔AS (Pm rows) S x:=by
 have hS:(List.range S.length).map (fun k=>S.getD k 0)=S:=by apply AB9 (by simp);intro i h1 h2;simp[AAF h2]
 have e:AS ((Pm rows).map fun(r:Nat→Int) k=>r (S.getD k 0)) (List.range S.length) x↔AS (Pm rows) S x:=by
  have:=AS.rename (fun k=>S.getD k 0) (Pm rows) (List.range S.length) x AB8 (fun a ha b hb h=>by
   rw[AAR]at ha hb;simp only[List.getD,AAF ha,AAF hb,AA0]at h;exact cA hn ha hb h)
  rw[hS]at this;exact this
 have same:∀i (h1:i<(Pm (Qq rows S)).length) (h2:i<((Pm rows).map fun(r:Nat→Int) k=>r (S.getD k 0)).length),∀k∈List.range S.length,(Pm (Qq rows S))[i] k=((Pm rows).map fun(r:Nat→Int) k=>r (S.getD k 0))[i] k:=fun i h1 h2 k hk=>by
  rw[AAR]at hk;have hi:i<rows.length:=by simpa[Pm,Qq]using h1
  have e1:(Pm (Qq rows S))[i]=ga (S.map (ga rows[i])):=by simp[Pm,Qq]
  have e2:((Pm rows).map fun(r:Nat→Int) k=>r (S.getD k 0))[i]=fun k=>ga rows[i] (S.getD k 0):=by simp[Pm]
  rw[e1,e2];show ga (S.map (ga rows[i])) k=ga rows[i] (S.getD k 0);rw[List.getD,AAF hk,AA0];generalize ga rows[i]=f;unfold ga;grind
 have hl:(Pm (Qq rows S)).length=((Pm rows).map fun(r:Nat→Int) k=>r (S.getD k 0)).length:=by simp[Pm,Qq]
 exact⟨fun h=>e.1 (AS.mR _ _ _ x hl same h),fun h=>AS.mR _ _ _ x hl.symm (fun i h1 h2 k hk=>(same i h2 h1 k hk).symm) (e.2 h)⟩
theorem lS{a0:List (List Int)}{m:Nat}(hc:CM a0 m)(i:Nat){S:List Nat}(hs:∀k∈S,k<m)(hl:a0.length-i≤S.length)(h10:S.length≤10):CM (Qq (a0.drop i) S) S.length:=by
 refine⟨fun r hr=>?_,by simp[Qq];omega,h10,fun r hr x hx=>?_⟩
 ·obtain⟨q,_,rfl⟩:=AAs.1 hr;simp
 ·obtain⟨q,hq,rfl⟩:=AAs.1 hr;obtain⟨k,hk,rfl⟩:=AAs.1 hx;have xk:=List.mem_of_mem_drop hq;have:=hc.row q xk;have hg:q[k]?=some (ga q k):=T6 (by grind);exact hc.Mp q xk _ (AAN hg)
theorem XY{α:Type}(x:List α)(j:Nat):sub x 0 j=x.take j:=by simp[sub]
theorem Zj{α:Type}(x:List α)(j:Nat):sub x j x.length=x.drop j:=by unfold sub;exact ACB (by simp)
theorem Zh(rows:List (List Int)){S:List Nat}(hl:rows.length≤10)(h10:S.length≤10){j:Nat}(hj:j<S.length)(n:Nat)(hn:PD≤n):Ri n (Qq rows S) (j:Int)=some (Qq (rows.drop 1) (S.eraseIdx j)):=by
 have hL:(Qq rows S).length=rows.length:=by simp[Qq]
 by_cases h0:rows.length=0
 ·have:rows=[]:=AAP h0;subst this;obtain⟨k,rfl⟩:∃k,n=k+1:=⟨n-1,by unfold PD at hn;omega⟩;unfold Ri;rw[Pj (z:=(([]:List (List Int)),(1:Int))) (by simp[RF,Qq])];rfl
 have hw:O9 ((j:Int)+1)=((j+1:Nat):Int):=O5 hj (by omega)
 have:=Ph (RF (Qq rows S) (j:Int)) (fun i=>((Qq (rows.drop 1) (S.eraseIdx j)).take i,((i+1:Nat):Int))) (rows.length-1) (Qq (rows.drop 1) (S.eraseIdx j),(rows.length:Int)) (fun i hi=>by
  have hi1:i+1<(Qq rows S).length:=by rw[hL];omega
  have hd:decide (((i+1:Nat):Int)<((Qq rows S).length:Int))=true:=by rw[AAb];omega
  have hg:M8 (Qq rows S) ((i+1:Nat):Int)=some (S.map (ga (rows[i+1]'(by omega)))):=by rw[O6 hi1];simp[Qq]
  generalize hr:rows[i+1]'(by omega)=r at hg;have hlen:(S.map (ga r)).length=S.length:=by simp
  have c1:decide (0≤(0:Int))=true:=rfl;have c2:decide ((0:Int)≤(j:Int))=true:=by rw[AAb];omega
  have c3:decide ((j:Int)≤((S.map (ga r)).length:Int))=true:=by rw[AAb,hlen];omega
  have c4:decide ((0:Int)≤((j+1:Nat):Int))=true:=by rw[AAb];omega
  have c5:decide (((j+1:Nat):Int)≤((S.map (ga r)).length:Int))=true:=by rw[AAb,hlen];omega
  have c6:decide (((S.map (ga r)).length:Int)≤((S.map (ga r)).length:Int))=true:=by simp
  have c7:decide (([]:List Int).length+(sub (S.map (ga r)) 0 j).length≤Dh)=true:=by rw[XY,AAb];simp[Dh];omega
  have c8:decide ((([]:List Int)++sub (S.map (ga r)) 0 j).length+(sub (S.map (ga r)) (j+1) (S.map (ga r)).length).length≤Dh)=true:=by rw[XY,Zj,AAb];simp[Dh];omega
  have c9:∀q:List Int,decide (((Qq (rows.drop 1) (S.eraseIdx j)).take i).length+[q].length≤Dh)=true:=fun q=>by rw[AAb];simp[Dh,Qq];omega
  have hw2:O9 (((i+1:Nat):Int)+1)=((i+1+1:Nat):Int):=O5 (show i+1<rows.length by omega) (by omega)
  have wM:([]:List Int)++sub (S.map (ga r)) 0 j++sub (S.map (ga r)) (j+1) (S.map (ga r)).length=(S.eraseIdx j).map (ga r):=by rw[XY,Zj,AA4,List.eraseIdx_eq_take_drop_succ,List.map_append,List.map_take,List.map_drop]
  simp only[RF,hd,ABU,hg,ABT,c1,c2,c3,hw,c4,c5,c6,ACK,Int.toNat_zero,ABX,c7,c8,c9,hw2,wM];congr 4;have hi2:i<(Qq (rows.drop 1) (S.eraseIdx j)).length:=by simp[Qq];omega
  rw[ABe hi2];congr 2;simp only[Qq,ABr,List.getElem_drop];rw[←hr];congr 3;omega) (by
  have hd:decide (((rows.length-1+1:Nat):Int)<((Qq rows S).length:Int))=false:=by rw[AAf,hL];omega
  simp only[RF,hd,ABV];rw[ACB (by simp[Qq]),show rows.length-1+1=rows.length by omega]) n (by unfold PD at hn;omega)
 unfold Ri;grind
theorem Yt{a0:List (List Int)}{m:Nat}(hc:CM a0 m)(h0:a0=[]→m=0)(n:Nat)(hn:PD≤n):∃s,Wb n a0=some (PH (pk (Pm a0) (List.range m)),s)∧aS (Pm a0) (List.range m)=some s:=by
 have hm10:=hc.lC;have hnm:=hc.nm;have rb:=hc.rb;have hR:(Pm a0).length=a0.length:=by simp[Pm]
 obtain⟨s0,hs0,hL0⟩:=bw hc n hn;have xr:=gx hL0
 have hnames:iter n (TI a0) (([]:List Int),0)=some (PH (List.range m),(m:Int)):=by
  have:=Ph (TI a0) (fun i=>(PH (List.range i),(i:Int))) m (PH (List.range m),(m:Int)) (fun i hi=>by
   have hl:0<a0.length:=by
    rcases Nat.eq_zero_or_pos a0.length with e|e
    ·have:=h0 (AAP e);omega
    ·exact e
   have hd:decide ((a0.length:Int)>0)=true:=by rw[AAb];omega
   have hg:M8 a0 0=some a0[0]:=O6 hl;have hd2:decide ((i:Int)<(a0[0].length:Int))=true:=by rw[AAb,hc.row _ (ABW hl)];omega
   have hr:decide ((PH (List.range i)).length+[(i:Int)].length≤Dh)=true:=R3 (by simp[PH];omega);simp only[TI,hd,ABU,hg,ABT,hd2,hr,O5 hi (by omega)];congr 3;simp[PH,AB4]) (by
   by_cases e:a0=[]
   ·subst e;rw[h0 rfl];rfl
   ·have hl:0<a0.length:=List.length_pos_iff.2 e;have hd:decide ((a0.length:Int)>0)=true:=by rw[AAb];omega
    have hg:M8 a0 0=some a0[0]:=O6 hl;have hd2:decide ((m:Int)<(a0[0].length:Int))=false:=by rw[AAf,hc.row _ (ABW hl)];omega
    simp only[TI,hd,ABU,hg,ABT,hd2,ABV]) n (by unfold PD at hn;omega)
  simpa[PH]using this
 obtain⟨z,hz1,hz⟩:=Uo (f:=VB n)
  (fun k x=>∃(i:Nat) (S:List Nat) (out:List Int) (left:Int),x=(out,left,Qq (a0.drop i) S,PH S)∧i+k=a0.length∧S.Nodup∧(∀k∈S,k<m)∧a0.length-i≤S.length∧S.length≤10∧aS ((Pm a0).drop i) S=some left∧out++PH (pk ((Pm a0).drop i) S)=PH (pk (Pm a0) (List.range m))∧out.length=i)
  (fun z=>z.1=PH (pk (Pm a0) (List.range m)))
  (fun k x hx=>by
   obtain⟨i,S,out,left,rfl,hk,ur,hsm,hl,h10,hb,xf,hol⟩:=hx;have hLen:(Qq (a0.drop i) S).length=a0.length-i:=by simp[Qq]
   by_cases hi:i=a0.length
   ·left;subst hi;have hd:decide (((Qq (a0.drop a0.length) S).length:Int)>0)=false:=by rw[AAf,hLen];omega
    refine⟨(out,left,Qq (a0.drop a0.length) S,PH S),by simp only[VB,hd,ABV],?_⟩;rw[List.drop_of_length_le (by rw[hR];exact AAd _)]at xf;simpa only[pk,PH,List.map_nil,ABy]using xf
   ·right;have vF:i<a0.length:=by omega
    have hd:decide (((Qq (a0.drop i) S).length:Int)>0)=true:=by rw[AAb,hLen];omega
    have hdrop:(Pm a0).drop i=ga a0[i]::(Pm a0).drop (i+1):=by rw[ABh (by omega)];congr 1;exact ABr ..
    have th:=hb;rw[hdrop]at th;obtain⟨q,hq,hf,y,hy,hxy⟩:=iD th;obtain⟨hpq,pre,bs,hSab,hfail⟩:=List.find?_eq_some_iff_append.1 hf;have hj:pre.length<S.length:=by rw[hSab];simp
    have hSj:S[pre.length]=q:=by simp[hSab]
    have hg0:M8 (Qq (a0.drop i) S) 0=some (S.map (ga a0[i])):=by rw[show(0:Int)=((0:Nat):Int)from rfl,O6 (by rw[hLen];omega)];simp[Qq]
    have hRd:∀i,Pm (a0.drop i)=(Pm a0).drop i:=fun i=>by simp[Pm,List.map_drop]
    have lst:∀j (hj:j<S.length),∃v,Ru n (Qq (a0.drop (i+1)) (S.eraseIdx j))=some v∧aS ((Pm a0).drop (i+1)) (S.erase S[j])=some v∧0≤v∧v≤1000000:=fun j hj=>by
     have hnd2:(S.eraseIdx j).Nodup:=ur.sublist (List.eraseIdx_sublist ..);have uD:(S.eraseIdx j).length=S.length-1:=by rw[List.length_eraseIdx,AAK hj]
     have hsm2:∀k∈S.eraseIdx j,k<m:=fun k hk=>hsm k (List.mem_of_mem_eraseIdx hk);obtain⟨v,v1,v2⟩:=bw (lS hc (i+1) hsm2 (by omega) (by omega)) n hn
     have v3:mK ((Pm a0).drop (i+1)) (S.erase S[j]) v:=by rw[Zp ur hj,←hRd];exact⟨(iK _ hnd2 v).1 v2.1,fun y hy=>v2.2 y ((iK _ hnd2 y).2 hy)⟩
     have v4:=gx v3;refine⟨v,v1,v4,fx v4 (fun r hr k hk=>(rb.b r (List.mem_of_mem_drop hr) k (hsm k (ABn hk))).1),?_⟩;have:=mP v4 (M:=100000) (by omega) (fun r hr k hk=>(rb.b r (List.mem_of_mem_drop hr) k (hsm k (ABn hk))).2);rw[List.length_drop,hR]at this;omega
    have wo:∀j,j<S.length→Ri n (Qq (a0.drop i) S) (j:Int)=some (Qq (a0.drop (i+1)) (S.eraseIdx j)):=fun j hj=>by
     rw[Zh (a0.drop i) (by simp;omega) h10 hj n hn,List.drop_drop]
    have cost:∀j (hj:j<S.length),M8 (S.map (ga a0[i])) (j:Int)=some (ga a0[i] S[j])∧0≤ga a0[i] S[j]∧ga a0[i] S[j]≤100000:=fun j hj=>by refine⟨?_,rb.b (ga a0[i]) (List.mem_map_of_mem (ABW vF)) _ (hsm _ (ABW hj))⟩;rw[O6 (by simpa using hj)];simp
    have tS:iter n (TJ n) (out,left,Qq (a0.drop i) S,PH S,0)=some (out++[(q:Int)],y,Qq (a0.drop (i+1)) (S.erase q),PH (S.erase q),(pre.length:Int)):=by
     have:=Ph (TJ n) (fun j=>(out,left,Qq (a0.drop i) S,PH S,(j:Int))) pre.length (out++[(q:Int)],y,Qq (a0.drop (i+1)) (S.erase q),PH (S.erase q),(pre.length:Int)) (fun j hja=>by
      have hjS:j<S.length:=by omega
      have hdj:decide ((j:Int)<((S.map (ga a0[i])).length:Int))=true:=by rw[AAb];simp;omega
      obtain⟨v,v1,v2,v3,v4⟩:=lst j hjS;obtain⟨c1,c2,c3⟩:=cost j hjS;have hww:O9 (ga a0[i] S[j]+v)=ga a0[i] S[j]+v:=PC (by omega) (by omega)
      have tj:(ga a0[i] S[j]+v==left)=false:=by
       have wJ:S[j]∈pre:=by
        have:S[j]=pre[j]:=by simp[hSab,hja]
        rw[this];exact ABW hja
       have:=hfail S[j] wJ;rw[v2,th]at this;simpa using this
      simp only[TJ,hg0,ABT,hdj,ABU,wo j hjS,c1,v1,hww,tj,ABV,O5 hja (by omega)]) (by
      have hdj:decide ((pre.length:Int)<((S.map (ga a0[i])).length:Int))=true:=by rw[AAb];simp;omega
      obtain⟨v,v1,v2,v3,v4⟩:=lst pre.length hj;obtain⟨c1,c2,c3⟩:=cost pre.length hj;rw[hSj]at v2 c1 c2 c3;rw[hy]at v2;injection v2 with v2
      subst v2;have hww:O9 (ga a0[i] q+y)=ga a0[i] q+y:=PC (by omega) (by omega);have he:(ga a0[i] q+y==left)=true:=by rw[←hxy];simp
      have zG:(PH S).length=S.length:=by simp[PH]
      have i1:Ob (PH S) (pre.length:Int)=true:=PA (by omega)
      have e1:(PH S)[pre.length]?=some (q:Int):=by unfold PH;rw[AAX,AAF hj,hSj];rfl
      have r1:decide (out.length+[(q:Int)].length≤Dh)=true:=R3 (by omega);have mw:O9 ((pre.length:Int)+1)=((pre.length+1:Nat):Int):=O5 hj (by omega);have hwl:O9 (left-ga a0[i] q)=y:=by rw[hxy,PC (by omega) (by omega)];omega
      have d1:decide (0≤(0:Int))=true:=rfl;have d2:decide ((0:Int)≤(pre.length:Int))=true:=by rw[AAb];omega
      have d3:decide ((pre.length:Int)≤((PH S).length:Int))=true:=by rw[AAb,zG];omega
      have d4:decide ((0:Int)≤((pre.length+1:Nat):Int))=true:=by rw[AAb];omega
      have d5:decide (((pre.length+1:Nat):Int)≤((PH S).length:Int))=true:=by rw[AAb,zG];omega
      have d6:decide (((PH S).length:Int)≤((PH S).length:Int))=true:=by simp
      have c7:decide (([]:List Int).length+(sub (PH S) 0 pre.length).length≤Dh)=true:=by rw[XY,AAb];simp[Dh,PH];omega
      have c8:decide ((([]:List Int)++sub (PH S) 0 pre.length).length+(sub (PH S) (pre.length+1) (PH S).length).length≤Dh)=true:=by rw[XY,Zj,AAb];simp[Dh,PH];omega
      have wM:([]:List Int)++sub (PH S) 0 pre.length++sub (PH S) (pre.length+1) (PH S).length=PH (S.erase q):=by rw[XY,Zj,AA4,←hSj,Zp ur hj,List.eraseIdx_eq_take_drop_succ];simp[PH]
      have wK:S.eraseIdx pre.length=S.erase q:=by rw[←Zp ur hj,hSj]
      simp only[TJ,hg0,ABT,hdj,ABU,wo pre.length hj,c1,v1,hww,he,i1,e1,r1,d1,d2,d3,d4,d5,d6,mw,hwl,ACK,Int.toNat_zero,ABX,c7,c8,wM];rw[wK]) n (by unfold PD at hn;omega)
     simpa using this
    have wL:pk ((Pm a0).drop i) S=q::pk ((Pm a0).drop (i+1)) (S.erase q):=by rw[hdrop];simp only[pk,hf]
    have uD:(S.erase q).length=S.length-1:=List.length_erase_of_mem hq;refine⟨(out++[(q:Int)],y,Qq (a0.drop (i+1)) (S.erase q),PH (S.erase q)),k-1,?_,⟨i+1,S.erase q,out++[(q:Int)],y,rfl,by omega,ur.erase q,fun k hk=>hsm k (ABn hk),by omega,by omega,hy,?_,by simp[hol]⟩,by omega⟩
    ·simp only[VB,hd,ABU,tS,ABT]
    ·rw[←xf,wL];simp[PH])
  n a0.length (([]:List Int),s0,a0,PH (List.range m)) ⟨0,List.range m,[],s0,by
   congr 3;rw[List.drop_zero];unfold Qq;apply AB9 (by simp);intro r h1 h2;rw[ABr];have hl:=hc.row _ (ABW h1);apply AB9 (by simp[hl]);intro k k1 k2;rw[ABr,List.getElem_range];unfold ga;rw[List.getD,AAF k1,AA0],by omega,AB8,fun k hk=>AAR.1 hk,by simp;omega,by simp;omega,xr,rfl,rfl⟩ (by unfold PD at hn;omega)
 refine⟨s0,?_,xr⟩;unfold Wb;rw[Z9 hc n hn];grind
theorem bN{β:Type}(L:List β×Int→Option ((List β×Int)⊕(List β×Int)))(f:Nat→β)(m:Nat)
  (hL:∀i,i<m→L ((List.range i).map f,(i:Int))=some (.inl ((List.range i).map f++[f i],((i+1:Nat):Int)))) (he:L ((List.range m).map f,(m:Int))=some (.inr ((List.range m).map f,(m:Int)))) (n:Nat) (hn:m<n):
  iter n L ([],0)=some ((List.range m).map f,(m:Int)):=by
 have:=Ph L (fun i=>((List.range i).map f,(i:Int))) m ((List.range m).map f,(m:Int)) (fun i hi=>by
  rw[hL i hi,AB4,List.map_append];rfl) he n hn
 grind
def Uv(w h:Int)(c:List Int)(a b:Int):Int:=(Se PD w h c a b).getD (-1)
theorem cT{w h:Int}{c:List Int}(hc:c.length≤1048576)(hf:PS w h c=true)(a b:Int)(n:Nat)(hn:PD≤n):
  Se n w h c a b=some (Uv w h c a b)∧Ui n w h c a b=some (Uv w h c a b) ∧ -1≤Uv w h c a b∧Uv w h c a b<100:=by
 have f:=Ve hf;have hN:=f.le
 have uE:∀(n:Nat),PD≤n→∀i,Sh n w h c i=some (Ps i 0 ((c.length:Int)-1)):=fun n hn i=>by unfold Sh;rw[Pp w h c hc n hn,hf,show O9 ((c.length:Int)-1)=(c.length:Int)-1 from PC (by clear hn;omega) (by clear hn;omega)];simp only[ABT,ABU,P8]
 have hic:∀i,SW w h c i=some (Ps i 0 ((c.length:Int)-1)):=fun i=>by unfold SW;rw[show O9 ((c.length:Int)-1)=(c.length:Int)-1 from PC (by clear hn;omega) (by clear hn;omega)];simp only[ABT,bj];rfl
 have key:∃s, -1≤s∧s<100∧∀n,PD≤n→Se n w h c a b=some s∧Ui n w h c a b=some s:=by
  cases hb:QC c b with
  |false=>
   refine⟨-1,by omega,by omega,fun n hn=>⟨?_,?_⟩⟩
   ·unfold Se Wa;rw[uE n hn b];cases hi:Ps b 0 ((c.length:Int)-1)with
    |false=>rfl
    |true=>
     obtain⟨m,rfl,hm⟩:=YF hi;unfold QC at hb;rw[hi,ABt]at hb;have hg:(c[m]==0)=true:=by simpa[hm]using hb
     simp only[ABT,ABc,ABV,O6 hm,hg,ABU];rfl
   ·obtain⟨k,k1,k2⟩:=SU w h c hc hf b n hn;rw[hb]at k2;have k3:(k==0)=true:=by simpa using k2
    unfold Ui;rw[k1];simp only[ABT,k3,ABU]
  |true=>
   have hbr:0≤b∧b<(c.length:Int):=by unfold QC Ps at hb;simp only[AAG,AAb]at hb;omega
   have hib:Ps b 0 ((c.length:Int)-1)=true:=by unfold Ps;simp only[AAG,AAb];omega
   obtain⟨m,rfl,hm⟩:=YF hib
   have hg:(c[m]==0)=false:=by unfold QC at hb;rw[hib,ABt]at hb;simpa[hm]using hb
   obtain⟨F,hF,hl,hbd⟩:=eu f hbr false;have tj:((F.length:Int)==0)=false:=by simp;intro e;rw[e]at hl;simp at hl;omega
   have hsf:∀n,PD≤n→Wa n w h c (m:Int) false=some F:=fun n hn=>by unfold Wa;simp only[uE n hn,hib,ABT,ABc,ABV,O6 hm,hg,(hF n hn).1]
   have hkk:∀n,PD≤n→∃k,Ql n w h c (m:Int)=some k∧(k==0)=false:=fun n hn=>by obtain⟨k,k1,k2⟩:=SU w h c hc hf (m:Int) n hn;rw[hb]at k2;exact⟨k,k1,by simpa using k2⟩
   cases hia:Ps a 0 ((c.length:Int)-1)with
   |false=>
    refine⟨-1,by omega,by omega,fun n hn=>⟨?_,?_⟩⟩
    ·unfold Se;simp only[hsf n hn,ABT,tj,ABV,uE n hn,hia,ABp,ABU]
    ·obtain⟨k,k1,k2⟩:=hkk n hn;unfold Ui;simp only[k1,ABT,k2,ABV,hic,hia,ABp,ABU]
   |true=>
    obtain⟨q,rfl,hq⟩:=YF hia;have hqF:q<F.length:=by omega
    have wA:=hbd _ (ABW hqF);refine⟨F[q],wA.1,by omega,fun n hn=>⟨?_,?_⟩⟩
    ·unfold Se;simp only[hsf n hn,ABT,tj,ABV,uE n hn,hia,ABc,PA hqF,ABX,AAF hqF,ABU]
    ·obtain⟨k,k1,k2⟩:=hkk n hn;unfold Ui;simp only[k1,ABT,k2,ABV,hic,hia,ABc,(hF n hn).2,PA hqF,ABX,AAF hqF,ABU]
 obtain⟨s,s1,s2,s3⟩:=key;have e:Uv w h c a b=s:=by unfold Uv;rw[(s3 PD (AAd _)).1];rfl
 grind
def Ue(w h:Int)(c:List Int)(a b:Int):Int:=if Uv w h c a b<0 then 100000 else Uv w h c a b
def R1(a:List PF)(id:Int):Int:=(QQ PD a id).getD (-1)
theorem RS(a:List PF)(hl:a.length≤1048576)(id:Int)(n:Nat)(hn:PD≤n):QQ n a id=some (R1 a id)∧(R1 a id = -1∧(∀p∈a,p.1≠id)∨∃i,∃h:i<a.length,R1 a id=(i:Int)∧a[i].1=id):=by
 have hs:∀(i:Nat)(x:PF),i<a.length→a[i]?=some x→RL a id (i:Int)=some (bif x.1==id then .inr (.inr (i:Int))else .inl ((i+1:Nat):Int)):=fun i x h1 h2=>by
  have hx:a[i]=x:=by rw[AAF h1]at h2;exact Option.some.inj h2
  simp only[RL,O6 h1,hx,ABT,O5 h1 (show a.length≤9223372036854775807 by clear hn;omega)];rw[show decide ((i:Int)<(a.length:Int))=true by simpa using h1];cases hq:(x.1==id)<;>rfl
 have he:RL a id (a.length:Int)=some (.inr (.inl (a.length:Int))):=by simp[RL]
 have key:∃v:Int,(∀n,PD≤n→QQ n a id=some v)∧(v = -1∧(∀p∈a,p.1≠id)∨∃i,∃h:i<a.length,v=(i:Int)∧a[i].1=id):=by
  cases hf:a.findIdx? fun p=>p.1==id with
  |none=>
   have xN:∀p∈a,p.1≠id:=fun p hp=>by have:=List.findIdx?_eq_none_iff.1 hf p hp;simpa using this
   refine⟨-1,fun n hn=>?_,.inl ⟨rfl,xN⟩⟩
   have:=Ph (RL a id) (fun i=>(i:Int)) a.length (.inl (a.length:Int)) (fun i hi=>by
    rw[hs i a[i] hi (AAF hi),show(a[i].1==id)=false by simpa using xN _ (ABW hi),ABV]) he n (by unfold PD at hn;omega)
   unfold QQ;rw[show((0:Nat):Int)=0 from rfl]at this;rw[this];rfl
  |some i=>
   obtain⟨hi,hp,hb⟩:=List.findIdx?_eq_some_iff_getElem.1 hf;have yo:a[i].1=id:=by simpa using hp
   refine⟨(i:Int),fun n hn=>?_,.inr ⟨i,hi,rfl,yo⟩⟩
   have:=Ph (RL a id) (fun i=>(i:Int)) i (.inr (i:Int)) (fun j hj=>by
    have th:=hb j hj;rw[hs j a[j] (by omega) (AAF (by omega)),show(a[j].1==id)=false by simpa using th,ABV]) (by
    rw[hs i a[i] hi (AAF hi),show(a[i].1==id)=true by simpa using yo,ABU]) n (by unfold PD at hn;omega)
   unfold QQ;rw[show((0:Nat):Int)=0 from rfl]at this;rw[this];rfl
 obtain⟨v,v1,v2⟩:=key;have e:R1 a id=v:=by unfold R1;rw[v1 PD (AAd _)];rfl
 grind
theorem cE:WU=QQ:=rfl
abbrev Pc:=Int×Int×Int×Bool×Int
abbrev PW:=Int×Int×Int×Int
def eD(l:List PW)(r:Pc):Bool:=r.2.2.1 == -1 && !r.2.2.2.1&&l.all fun t => !(t.2.2.1==r.1)
def Tn(crew:List Pc)(l:List PW)(i:Nat):Bool:=match crew[i]? with
 |some r=>eD l r
 |none=>false
def PX(crew:List Pc)(l:List PW):List Nat:=((List.range crew.length).filter (Tn crew l)).take 10
theorem Y7{crew:List Pc}{l:List PW}{k:Nat}(h:k∈PX crew l):∃hk:k<crew.length,eD l crew[k]=true:=by have:=ACG h;obtain⟨h1,h2⟩:=ABq.1 this;rw[AAR]at h1;refine⟨h1,?_⟩;unfold Tn at h2;grind
theorem Y6(crew:List Pc)(l:List PW):(PX crew l).length≤10:=by unfold PX;grind
theorem iu(crew:List Pc)(l:List PW):(PX crew l).Nodup:=(AB8.filter _).sublist (List.take_sublist _ _)
theorem ja(xs:List Nat)(k m:Nat):(xs++[k]).take m=if xs.length<m then xs.take m++[k]else xs.take m:=by
 by_cases h:xs.length<m
 ·rw[AAK h,ACB (by simp;omega),ACB (by omega)]
 grind
theorem eP(crew:List Pc)(hc:crew.length≤1048576)(l:List PW)(hl:l.length≤1048576)(n:Nat)(hn:PD≤n):V4 n crew l=some (PH (PX crew l)):=by
 have tS:∀(i:Nat)(hi:i<crew.length)(out:List Int)(b:Bool),iter n (R8 crew l (out,(i:Int))) (b,0)=some (b||l.any fun t=>t.2.2.1==crew[i].1,(l.length:Int)):=fun i hi out b=>by
  have:=Ph (R8 crew l (out,(i:Int))) (fun k=>(b||(l.take k).any fun t=>t.2.2.1==crew[i].1,(k:Int))) l.length (b||l.any fun t=>t.2.2.1==crew[i].1,(l.length:Int)) (fun k hk=>by
   rw[ABe hk,List.any_append];simp only[R8,O6 hk,O6 hi,ABT,O5 hk (show l.length≤9223372036854775807 by clear hn;omega),List.any_cons,List.any_nil,Bool.or_false];rw[show decide ((k:Int)<(l.length:Int))=true by simpa using hk];cases b<;>cases(l.take k).any (fun t=>t.2.2.1==crew[i].1)<;>rfl) (by simp[R8]) n (by unfold PD at hn;omega)
  simpa using this
 obtain⟨z,hz1,hz⟩:=Uo (f:=R7 n crew l)
  (fun k x=>∃i:Nat,x=(PH (((List.range i).filter (Tn crew l)).take 10),(i:Int))∧i+k=crew.length)
  (fun z=>z.1=PH (PX crew l)) (fun k x hx=>by
   obtain⟨i,rfl,hk⟩:=hx;have hlen:(PH (((List.range i).filter (Tn crew l)).take 10)).length=min 10 ((List.range i).filter (Tn crew l)).length:=by simp[PH]
   by_cases hi:i<crew.length
   ·by_cases h10:((List.range i).filter (Tn crew l)).length<10
    ·right;have hd:decide ((i:Int)<(crew.length:Int))=true:=by simpa using hi
     have hd2:decide (((PH (((List.range i).filter (Tn crew l)).take 10)).length:Int)<10)=true:=by rw[AAb,hlen];clear hn;omega
     have tY:decide ((PH (((List.range i).filter (Tn crew l)).take 10)).length+[(i:Int)].length≤Dh)=true:=R3 (by rw[hlen];clear hn;omega);have hidle:Tn crew l i=eD l crew[i]:=by unfold Tn;rw[AAF hi]
     refine⟨(PH (((List.range (i+1)).filter (Tn crew l)).take 10),((i+1:Nat):Int)),k-1,?_,⟨i+1,rfl,by clear hn;omega⟩,by clear hn;omega⟩;rw[AB4,List.filter_append];simp only[R7,hd,ABU,hd2,ABT,O6 hi,tS i hi,tY,O5 hi (show crew.length≤9223372036854775807 by clear hn;omega)]
     have hany:(l.any fun t=>t.2.2.1==crew[i].1) = !(l.all fun t => !(t.2.2.1==crew[i].1)):=by rw[List.not_all_eq_any_not];simp
     rw[hany];generalize hA:(l.all fun t => !(t.2.2.1==crew[i].1))=A;have h2:Tn crew l i=(crew[i].2.2.1 == -1 && !crew[i].2.2.2.1&&A):=by rw[hidle,←hA];rfl
     rw[show(crew[i].2.2.1 != -1) = !(crew[i].2.2.1 == -1)from rfl];cases q1:(crew[i].2.2.1 == -1)<;>cases q2:crew[i].2.2.2.1<;>cases A<;>rw[q1,q2]at h2<;>simp[h2,ja,h10,PH]
    ·left;refine⟨(PH (((List.range i).filter (Tn crew l)).take 10),(i:Int)),?_,?_⟩
     ·have hd:decide ((i:Int)<(crew.length:Int))=true:=by simpa using hi
      have hd2:decide (((PH (((List.range i).filter (Tn crew l)).take 10)).length:Int)<10)=false:=by rw[AAf,hlen];clear hn;omega
      simp only[R7,hd,ABU,hd2,ABT,ABV]
     ·show PH _=PH _;unfold PX;congr 1
      have:List.range crew.length=List.range i++(List.range (crew.length-i)).map (i + ·):=by rw[←List.range_add];congr 1;clear hn;omega
      rw[this,List.filter_append,List.take_append_of_le_length (by clear hn;omega)]
   ·left;have hie:i=crew.length:=by clear hn;omega
    refine⟨(PH (((List.range i).filter (Tn crew l)).take 10),(i:Int)),?_,by rw[hie];rfl⟩;have hd:decide ((i:Int)<(crew.length:Int))=false:=by simpa using hi
    simp only[R7,hd,ABV,ABT])
  n crew.length ([],0) ⟨0,rfl,by clear hn;omega⟩ (by unfold PD at hn;omega)
 unfold V4;grind
theorem jk{β:Type}(f:Int→Option (Int⊕(Int⊕Bool)))(xs:List β)(P:β→Bool)(hs:∀(i:Nat)(x:β),i<xs.length→xs[i]?=some x→f (i:Int)=some (bif P x then .inr (.inr true)else .inl ((i+1:Nat):Int)))
  (he:f (xs.length:Int)=some (.inr (.inl (xs.length:Int)))):∀n,xs.length<n→iter n f 0=some (bif xs.any P then .inr true else .inl (xs.length:Int)):=by
 intro n hn;refine WG f xs (fun p l=>bif l.any P then .inr true else .inl (xs.length:Int)) ?_ ?_ n hn
 all_goals grind
theorem P5(a:List Int)(h:a.length≤1048576)(c:Int)(n:Nat)(hn:PD≤n):QT n a c=some (a.any fun x=>x==c):=by
 unfold QT
 rw[jk (Ti a c) a (fun x=>x==c) (fun i x h1 h2=>by
  have hx:a[i]=x:=by rw[AAF h1]at h2;exact Option.some.inj h2
  simp only[Ti,O6 h1,hx];rw[show decide ((i:Int)<(a.length:Int))=true by simpa using h1];cases hq:(x==c)<;>simp[hq,O5 h1 (by omega)]) (by simp[Ti]) n (by unfold PD at hn;omega)]
 grind
theorem XK:Qm=QT:=rfl
def VV(s:List Int)(x:D2):List Int:=bif s.any (fun y=>y==x.1)then s else s++[x.1]
theorem Z3(s:List Int)(x:D2):(VV s x).length≤s.length+1:=by unfold VV;grind
def SZ(a:List D2):List Int:=a.foldl VV []
theorem XV:∀(a:List D2)(s:List Int),(a.foldl VV s).length≤s.length+a.length
 | [],s=>by simp
 |x::a,s=>by have h1:=XV a (VV s x);have h2:=Z3 s x;grind
theorem Wc(a:List D2)(h:a.length≤1048576)(n:Nat)(hn:PD≤n):Tw n a=some (SZ a):=by
 have hc:=PQ (σ:=List Int) (US n a) (fun i s=>(s,(i:Int))) a (fun l s=>(l.foldl VV s,(a.length:Int))) (fun i s=>s.length≤i)
  (fun s hs=>by simp[US])
  (fun i x l s h1 h2 h3 h4 h5=>by
   left;have hx:a[i]=x:=by rw[AAF h1]at h2;exact Option.some.inj h2
   have hr:decide (s.length+1≤Dh)=true:=R3 (by omega);have ha:=P5 s (by omega) x.1 n hn;refine⟨VV s x,?_,by have:=Z3 s x;omega,by simp⟩;simp only[US,O6 h1,hx,ABT,ha,O5 h1 (by omega)];rw[show decide ((i:Int)<(a.length:Int))=true by simpa using h1];unfold VV;grind)
  n (by unfold PD at hn;omega) [] (AAd _)
 unfold Tw;rw[show((0:Nat):Int)=0 from rfl]at hc;rw[hc];rfl
theorem YA(a:List D2)(h:a.length≤1048576)(n:Nat)(hn:PD≤n):VT n a=some (SZ a):=by
 have hc:=PQ (σ:=List Int) (UF n a) (fun i s=>(s,(i:Int))) a (fun l s=>(l.foldl VV s,(a.length:Int))) (fun i s=>s.length≤i)
  (fun s hs=>by simp[UF])
  (fun i x l s h1 h2 h3 h4 h5=>by
   left;have hx:a[i]=x:=by rw[AAF h1]at h2;exact Option.some.inj h2
   have hr:decide (s.length+1≤Dh)=true:=R3 (by omega);have ha:=P5 s (by omega) x.1 n hn;refine⟨VV s x,?_,by have:=Z3 s x;omega,by simp⟩;simp only[UF,O6 h1,hx,ABT,XK,ha,O5 h1 (by omega)];rw[show decide ((i:Int)<(a.length:Int))=true by simpa using h1];unfold VV;grind)
  n (by unfold PD at hn;omega) [] (AAd _)
 unfold VT;rw[show((0:Nat):Int)=0 from rfl]at hc;rw[hc];rfl
theorem Ww(c:Int)(p:List Int)(h:p.length≤1048576)(n:Nat)(hn:PD≤n):iter n (Qy c p) (([]:List O7),0)=some (p.map fun x=>(c,x,(0:Int),(1:Int)),(p.length:Int)):=by
 have hc:=PQ (σ:=List O7) (Qy c p) (fun i s=>(s,(i:Int))) p (fun l s=>(s++l.map fun x=>(c,x,(0:Int),(1:Int)),(p.length:Int))) (fun i s=>s.length≤i)
  (fun s hs=>by simp[Qy])
  (fun i x l s h1 h2 h3 h4 h5=>by
   left;have hx:p[i]=x:=by rw[AAF h1]at h2;exact Option.some.inj h2
   have hr:decide (s.length+1≤Dh)=true:=R3 (by omega);exact⟨s++[(c,x,0,1)],by simp[Qy,h1,PA h1,hx,O5 h1 (by omega),hr],by simp;omega,by simp⟩)
  n (by unfold PD at hn;omega) [] (AAd _)
 grind
theorem a9(a:B2)(h:a.2.2.2.1.length≤1048576)(n:Nat)(hn:PD≤n):V2 n a.1 a.2.1 a.2.2.1 a.2.2.2.1 a.2.2.2.2=some ((SZ a.2.2.2.1).map fun x=>(a.1,x,(0:Int),(1:Int))):=by
 have hp:(SZ a.2.2.2.1).length≤1048576:=by have:=XV a.2.2.2.1 [];simp at this;exact AAw this h
 unfold V2;rw[Wc _ h n hn,ABT,Ww a.1 _ hp n hn];rfl
theorem eV:Xu=Qy:=rfl
theorem al(a:B2)(h:a.2.2.2.1.length≤1048576)(n:Nat)(hn:PD≤n):Xh n a.1 a.2.1 a.2.2.1 a.2.2.2.1 a.2.2.2.2=some ((SZ a.2.2.2.1).map fun x=>(a.1,x,(0:Int),(1:Int))):=by
 have hp:(SZ a.2.2.2.1).length≤1048576:=by have:=XV a.2.2.2.1 [];simp at this;exact AAw this h
 unfold Xh;rw[YA _ h n hn,ABT,eV,Ww a.1 _ hp n hn];rfl
def ZZ(a:List PF)(tk:List Int)(t:PW):Bool:=t.2.2.2==1&&decide (R1 a t.2.1≥0) && !(tk.any fun y=>y==t.2.1)
def ZY(a:List PF):Nat→List Int→Nat→List PW→List Nat
 |0,_,_,_=>[]
 |_+1,_,_,[]=>[]
 |m+1,tk,i,t::ts=>bif ZZ a tk t then i::ZY a m (tk++[t.2.1]) (i+1) ts else ZY a (m+1) tk (i+1) ts
theorem kQ(a:List PF)(m:Nat)(tk:List Int)(i:Nat)(t:PW)(ts:List PW):ZY a (m+1) tk i (t::ts)=bif ZZ a tk t then i::ZY a m (tk++[t.2.1]) (i+1) ts else ZY a (m+1) tk (i+1) ts:=rfl
theorem bK(a:List PF)(m:Nat)(tk:List Int)(i:Nat):ZY a m tk i []=[]:=by cases m<;>rfl
theorem Za(a:List PF):∀(ts:List PW)(m:Nat)(tk:List Int)(i:Nat),(ZY a m tk i ts).length≤m
 | [],m,tk,i=>by rw[bK];simp
 |t::ts,0,tk,i=>by simp[ZY]
 |t::ts,m+1,tk,i=>by
  unfold ZY;cases ZZ a tk t with
  |true=>have:=Za a ts m (tk++[t.2.1]) (i+1);grind
  |false=>simpa only[ABV]using Za a ts (m+1) tk (i+1)
theorem cF(a:List PF):∀(ts:List PW)(m:Nat)(tk:List Int)(i:Nat),∀x∈ZY a m tk i ts,i≤x∧∃h:x-i<ts.length,ts[x-i].2.2.2=1∧R1 a ts[x-i].2.1≥0∧ts[x-i].2.1∉tk
 | [],m,tk,i=>by rw[bK];simp
 |t::ts,0,tk,i=>by simp[ZY]
 |t::ts,m+1,tk,i=>by
  intro x hx
  have up:∀(h:i+1≤x) (h2:x-(i+1)<ts.length),∃h:x-i<(t::ts).length,(t::ts)[x-i]=ts[x-(i+1)]:=fun h h2=>by grind
  unfold ZY at hx;cases hr:ZZ a tk t with
  |true=>
   rw[hr,ABU]at hx;rcases AAZ.1 hx with rfl|hx
   ·unfold ZZ at hr;grind
   ·obtain⟨h1,h2,h3,h4,h5⟩:=cF a ts m (tk++[t.2.1]) (i+1) x hx;grind
  |false=>
   rw[hr,ABV]at hx;obtain⟨h1,h2,h3,h4,h5⟩:=cF a ts (m+1) tk (i+1) x hx;grind
theorem cG(a:List PF):∀(ts:List PW)(m:Nat)(tk:List Int)(i:Nat),(ZY a m tk i ts).Pairwise fun x y=>x<y∧∀(hx:x-i<ts.length)(hy:y-i<ts.length),ts[x-i].2.1≠ts[y-i].2.1
 | [],m,tk,i=>by rw[bK];exact List.Pairwise.nil
 |t::ts,0,tk,i=>by simp[ZY]
 |t::ts,m+1,tk,i=>by
  have up:∀(m:Nat)(tk:List Int),(ZY a m tk (i+1) ts).Pairwise fun x y=>x<y∧∀(hx:x-i<(t::ts).length) (hy:y-i<(t::ts).length),(t::ts)[x-i].2.1≠(t::ts)[y-i].2.1:=fun m tk=>by refine ACA (fun {x y} hx hy hxy=>⟨hxy.1,fun h1 h2=>?_⟩) (cG a ts m tk (i+1));obtain⟨x1,x2,_⟩:=cF a ts m tk (i+1) x hx;grind
  unfold ZY;cases hr:ZZ a tk t with
  |true=>
   rw[ABU];refine ABm.2 ⟨fun y hy=>?_,up m (tk++[t.2.1])⟩;obtain⟨y1,y2,y3,y4,y5⟩:=cF a ts m (tk++[t.2.1]) (i+1) y hy;grind
  |false=>grind
def T4(l:List PW):List Int:=(l.filter fun t => !(t.2.2.2==1)).map (·.2.1)
def P2(a:List PF)(l:List PW)(m:Nat):List Nat:=ZY a m (T4 l) 0 l
theorem iZ(L:List Int×Int→Option ((List Int×Int)⊕(List Int×Int)))(l:List PW)(hl:l.length≤1048576)
  (hL:∀(i:Nat)(out:List Int)(hi:i<l.length),out.length≤i→L (out,(i:Int))=some (.inl (bif l[i].2.2.2==1 then out else out++[l[i].2.1],((i+1:Nat):Int)))) (he:∀out,L (out,(l.length:Int))=some (.inr (out,(l.length:Int)))) (n:Nat) (hn:PD≤n):
  iter n L ([],0)=some (T4 l,(l.length:Int)):=by
 have:=Ph L (fun i=>(T4 (l.take i),(i:Int))) l.length (T4 l,(l.length:Int)) (fun i hi=>by
  rw[hL i _ hi (by unfold T4;rw[ABB];exact AAw (ABs _ _) (by simp;omega)),ABe hi];unfold T4;grind) (by grind) n (by unfold PD at hn;omega)
 simpa[T4]using this
theorem kP(L:List Int×List Int×Int→Option ((List Int×List Int×Int)⊕(List Int×List Int×Int)))(a:List PF)(l:List PW)(M:Nat)(tk0:List Int)
  (hgo:∀(i:Nat)(out tk:List Int)(hi:i<l.length),out.length<M→out.length≤i→tk.length≤tk0.length+i→L (out,tk,(i:Int))=some (.inl (bif ZZ a tk l[i]then(out++[(i:Int)],tk++[l[i].2.1],((i+1:Nat):Int))else(out,tk,((i+1:Nat):Int)))))
  (hfull:∀(i:Nat)(out tk:List Int)(hi:i<l.length),out.length=M→tk.length≤tk0.length+i→L (out,tk,(i:Int))=some (.inl (out,tk,((i+1:Nat):Int)))∨L (out,tk,(i:Int))=some (.inr (out,tk,(i:Int))))
  (hend:∀(out tk:List Int),L (out,tk,(l.length:Int))=some (.inr (out,tk,(l.length:Int)))) (n:Nat) (hn:l.length<n):
  ∃z,z.1=PH (ZY a M tk0 0 l)∧iter n L ([],tk0,0)=some z:=by
 refine Uo (f:=L) (fun k x=>∃(i:Nat) (out:List Nat) (tk:List Int),x=(PH out,tk,(i:Int))∧i+k=l.length∧out.length≤M∧out.length≤i∧tk.length≤tk0.length+i∧out++ZY a (M-out.length) tk i (l.drop i)=ZY a M tk0 0 l)
  (fun z=>z.1=PH (ZY a M tk0 0 l)) (fun k x hx=>?_) n l.length ([],tk0,0) ⟨0,[],tk0,rfl,by omega,by simp,by simp,by simp,by simp⟩ hn
 obtain⟨i,out,tk,rfl,hk,h1,h2,h3,h4⟩:=hx;have zG:(PH out).length=out.length:=by simp[PH]
 by_cases hi:i<l.length
 ·by_cases hM:out.length=M
  ·rcases hfull i (PH out) tk hi (by omega) h3 with e|e
   ·refine .inr ⟨_,k-1,e,⟨i+1,out,tk,rfl,by omega,h1,by omega,by omega,?_⟩,by omega⟩;rw[←h4,hM,Nat.sub_self];simp[ZY]
   ·refine .inl ⟨_,e,?_⟩;show PH out=_;rw[←h4,hM,Nat.sub_self];simp[ZY]
  ·have e:=hgo i (PH out) tk hi (by omega) (by omega) h3;have hd:l.drop i=l[i]::l.drop (i+1):=ABh hi;obtain⟨m,hm⟩:∃m,M-out.length=m+1:=⟨M-out.length-1,by omega⟩;rw[hd,hm,kQ]at h4;cases hr:ZZ a tk l[i]with
   |true=>
    rw[hr,ABU]at e h4;refine .inr ⟨_,k-1,e,⟨i+1,out++[i],tk++[l[i].2.1],by simp[PH],by omega,by simp;omega,by simp;omega,by simp;omega,?_⟩,by omega⟩;rw[←h4,ABo];congr 1;rw[show M-(out++[i]).length=m by simp;omega];rfl
   |false=>
    rw[hr,ABV]at e h4;refine .inr ⟨_,k-1,e,⟨i+1,out,tk,rfl,by omega,h1,by omega,by omega,?_⟩,by omega⟩;grind
 ·have hie:i=l.length:=by omega
  subst hie;refine .inl ⟨_,hend _ _,?_⟩;show PH out=_;rw[←h4,List.drop_length,bK,ABy]
theorem dM(a:List PF)(ha:a.length≤1048576)(l:List PW)(hl60:l.length≤60)(M:Nat)(n:Nat)(hn:PD≤n):VI n a l (M:Int)=some (PH (P2 a l M)):=by
 have hl:l.length≤1048576:=by clear hn;omega
 have h1:=iZ (S2 l) l hl (fun i out hi ho=>by
  have hd:decide ((i:Int)<(l.length:Int))=true:=by simpa using hi
  have hr:decide (out.length+[l[i].2.1].length≤Dh)=true:=R3 (by clear hn;omega);simp only[S2,hd,ABU,O6 hi,ABT,hr,O5 hi (show l.length≤9223372036854775807 by clear hn;omega),bne];grind) (fun out=>by simp[S2]) n hn
 have y6:(T4 l).length≤60:=by unfold T4;rw[ABB];exact AAw (ABs _ _) hl60
 obtain⟨z,z1,z2⟩:=kP (Rd n a l (M:Int)) a l M (T4 l) (fun i out tk hi h1 h2 h3=>by
  have hd:decide ((i:Int)<(l.length:Int))=true:=by simpa using hi
  have hd2:decide ((out.length:Int)<(M:Int))=true:=by rw[AAb];clear hn;omega
  have hr:decide (out.length+[(i:Int)].length≤Dh)=true:=R3 (by clear hn;omega)
  have yq:decide (tk.length+[l[i].2.1].length≤Dh)=true:=by rw[AAb];simp[Dh];clear hn;omega
  simp only[Rd,hd,hd2,ABU,O6 hi,ABT,hr,yq,O5 hi (show l.length≤9223372036854775807 by clear hn;omega),(RS a ha l[i].2.1 n hn).1];have ham:QT n tk l[i].2.1=some (tk.any fun y=>y==l[i].2.1):=P5 tk (by clear hn;omega) _ n hn;simp only[ham,ABT];unfold ZZ;grind) (fun i out tk hi h1 h3=>by
  right;have hd:decide ((i:Int)<(l.length:Int))=true:=by simpa using hi
  have hd2:decide ((out.length:Int)<(M:Int))=false:=by rw[AAf];clear hn;omega
  simp only[Rd,hd,hd2,ABU,ABV,ABT]) (fun out tk=>by
  have hd:decide ((l.length:Int)<(l.length:Int))=false:=by simp
  simp only[Rd,hd,ABV,ABT]) n (by unfold PD at hn;omega)
 unfold VI;rw[h1];simp only[ABT,z2,z1];rfl
def ZE(crew:List Pc)(k:Nat):Pc:=crew.getD k (0,0,0,false,0)
def Xt(l:List PW)(i:Nat):PW:=l.getD i (0,0,0,0)
theorem iF{crew:List Pc}{k:Nat}(h:k<crew.length):crew[k]?=some (ZE crew k):=by unfold ZE;grind
theorem eW{l:List PW}{k:Nat}(h:k<l.length):l[k]?=some (Xt l k):=by unfold Xt;grind
def QV(a:List PF)(id:Int):Int:=match a[(R1 a id).toNat]? with
 |some p=>p.2.1
 |none=>0
def Qp(a:List PF)(crew:List Pc)(l:List PW)(p:Nat×Nat)(st:List Pc×List PW):List Pc×List PW:=
 (List.modify (List.modify st.1 p.2 fun y=>(y.1,y.2.1,QV a (Xt l p.1).2.1,y.2.2.2.1,y.2.2.2.2)) p.2 fun y=>(y.1,y.2.1,y.2.2.1,y.2.2.2.1,0),
  List.modify (List.modify st.2 p.1 fun y=>(y.1,y.2.1,(ZE crew p.2).1,y.2.2.2)) p.1 fun y=>(y.1,y.2.1,y.2.2.1,2))
def sendAll(a:List PF)(crew:List Pc)(l:List PW)(prs:List (Nat×Nat)):List Pc×List PW:=prs.foldl (fun st p=>Qp a crew l p st) (crew,l)
structure SI(crew:List Pc)(l:List PW)(st:List Pc×List PW):Prop where
 l1:st.1.length=crew.length
 l2:st.2.length=l.length
 id:∀k,k<crew.length→∃r,st.1[k]?=some r∧r.1=(ZE crew k).1
 PJ:∀i,i<l.length→∃t,st.2[i]?=some t∧t.2.1=(Xt l i).2.1
theorem SI.first(crew:List Pc)(l:List PW):SI crew l (crew,l):=⟨rfl,rfl,fun k h=>⟨_,iF h,rfl⟩,fun i h=>⟨_,eW h,rfl⟩⟩
theorem SI.one{a:List PF}{crew:List Pc}{l:List PW}{st:List Pc×List PW}(h:SI crew l st)(p:Nat×Nat):SI crew l (Qp a crew l p st):=by
 refine⟨by simp[Qp,h.l1],by simp[Qp,h.l2],fun k hk=>?_,fun i hi=>?_⟩
 ·obtain⟨r,h1,h2⟩:=h.id k hk;simp only[Qp,ABg,h1];grind
 ·obtain⟨r,h1,h2⟩:=h.PJ i hi;simp only[Qp,ABg,h1];grind
theorem SI.all{a:List PF}{crew:List Pc}{l:List PW}:∀(prs:List (Nat×Nat)) (st:List Pc×List PW),SI crew l st→SI crew l (prs.foldl (fun st p=>Qp a crew l p st) st)
 | [],st,h=>h
 |p::prs,st,h=>SI.all prs _ (h.one p)
def WK(w h:Int)(c:List Int)(a:List PF)(crew:List Pc)(l:List PW):List (List Int):=
 (P2 a l (PX crew l).length).map fun t=>(PX crew l).map fun k=>Ue w h c (ZE crew k).2.1 (QV a (Xt l t).2.1)
def Qr(w h:Int)(c:List Int)(a:List PF)(crew:List Pc)(l:List PW):List Nat:=pk (Pm (WK w h c a crew l)) (List.range (PX crew l).length)
def Xv(w h:Int)(c:List Int)(a:List PF)(crew:List Pc)(l:List PW)(j:Nat):Option (Nat×Nat):=
 if Ue w h c (ZE crew ((PX crew l).getD ((Qr w h c a crew l).getD j 0) 0)).2.1 (QV a (Xt l ((P2 a l (PX crew l).length).getD j 0)).2.1)<100000
 then some ((P2 a l (PX crew l).length).getD j 0,(PX crew l).getD ((Qr w h c a crew l).getD j 0) 0)else none
def QO(w h:Int)(c:List Int)(a:List PF)(crew:List Pc)(l:List PW):List (Nat×Nat):=(List.range (Qr w h c a crew l).length).filterMap (Xv w h c a crew l)
def gB(w h:Int)(c:List Int)(a:List PF)(crew:List Pc)(l:List PW):Bool:=Pl a&&SQ w h c crew&&SO l
def gy(w h:Int)(c:List Int)(a:List PF)(crew:List Pc)(l:List PW):List Pc×List PW:=bif gB w h c a crew l then sendAll a crew l (QO w h c a crew l)else(crew,l)
theorem kv{w h:Int}{c:List Int}(hc:c.length≤1048576)(hf:PS w h c=true)(a b:Int):0≤Ue w h c a b∧Ue w h c a b≤100000:=by obtain⟨_,_,h1,h2⟩:=cT hc hf a b PD (AAd _);unfold Ue;omega
theorem ei{w h:Int}{c:List Int}(hc:c.length≤1048576)(hf:PS w h c=true)(a:List PF)(crew:List Pc)(l:List PW):CM (WK w h c a crew l) (PX crew l).length:=by
 refine⟨fun r hr=>?_,?_,Y6 crew l,fun r hr x hx=>?_⟩
 ·obtain⟨t,_,rfl⟩:=AAs.1 hr;simp
 ·unfold WK;rw[ABB];exact Za a l _ _ _
 ·obtain⟨t,_,rfl⟩:=AAs.1 hr;obtain⟨k,_,rfl⟩:=AAs.1 hx;exact kv hc hf _ _
theorem gm{M:List (List Int)}{m:Nat}(hc:CM M m)(n:Nat)(hn:PD≤n):∃s,Wb n M=some (PH (pk (Pm M) (List.range m)),s):=by
 by_cases h0:M=[]
 ·subst h0;have hc0:CM [] 0:=⟨by simp,by simp,by omega,by simp⟩;obtain⟨s,s1,_⟩:=Yt hc0 (fun _=>rfl) n hn;exact⟨s,s1⟩
 ·obtain⟨s,s1,_⟩:=Yt hc (fun e=>absurd e h0) n hn;exact⟨s,s1⟩
theorem YK{β:Type}(F:Nat→β)(s:List Nat):(List.range s.length).map (fun i=>F (s.getD i 0))=s.map F:=by apply AB9 (by simp);grind
theorem XH{s:List Nat}{i:Nat}(h:i<s.length):Ob (PH s) (i:Int)=true∧(PH s)[i]?=some ((s.getD i 0:Nat):Int):=by refine⟨PA (by simpa[PH]using h),?_⟩;unfold PH;grind
theorem WM{s:List Nat}{i:Nat}(h:i<s.length):s.getD i 0∈s:=by grind
theorem YT{a:List PF}(ha:a.length≤1048576){l:List PW}{M t:Nat}(h:t∈P2 a l M):t<l.length∧(Xt l t).2.2.2=1∧(Xt l t).2.1∉T4 l∧∃i,∃hi:i<a.length,R1 a (Xt l t).2.1=(i:Int)∧a[i].1=(Xt l t).2.1∧QV a (Xt l t).2.1=a[i].2.1:=by
 obtain⟨_,h2,h3,h4,h5⟩:=cF a l M (T4 l) 0 t h;simp only[Nat.sub_zero]at h2 h3 h4 h5;have e:Xt l t=l[t]:=by unfold Xt;rw[List.getD,AAF h2];rfl
 rw[e];refine⟨h2,h3,h5,?_⟩;rcases(RS a ha l[t].2.1 PD (AAd _)).2 with⟨q,_⟩|⟨i,hi,q,q2⟩
 ·omega
 ·refine⟨i,hi,q,q2,?_⟩;unfold QV;grind
theorem gk{w h:Int}{c:List Int}(hc:c.length≤1048576)(hf:PS w h c=true){a:List PF}(ha:a.length≤1048576){crew:List Pc}(hcr:crew.length≤1048576){l:List PW}(hl:l.length≤60)(n:Nat)(hn:PD≤n):
  iter n (RZ n w h c a crew l (PH (PX crew l)) (PH (P2 a l (PX crew l).length))) ([],0)=some (WK w h c a crew l,((P2 a l (PX crew l).length).length:Int)):=by
 generalize hwho:PX crew l=who;generalize hwhat:P2 a l who.length=what;have h10:who.length≤10:=by rw[←hwho];exact Y6 crew l
 have hwl:what.length≤10:=by rw[←hwhat];exact AAw (Za a l _ _ _) h10
 have hlw:(PH who).length=who.length:=by simp[PH]
 have tX:(PH what).length=what.length:=by simp[PH]
 have:=bN (RZ n w h c a crew l (PH who) (PH what)) (fun i=>who.map fun k=>Ue w h c (ZE crew k).2.1 (QV a (Xt l (what.getD i 0)).2.1)) what.length (fun i hi=>by
  have hd:decide ((i:Int)<((PH what).length:Int))=true:=by rw[AAb,tX];clear hn;omega
  obtain⟨t1,t2⟩:=XH hi;have htm:what.getD i 0∈P2 a l who.length:=by rw[hwhat];exact WM hi
  obtain⟨f1,f2,f3,p,hp,f4,f5,f6⟩:=YT ha htm;generalize what.getD i 0=t at t2 htm f1 f2 f3 f4 f5 f6;generalize xf:(List.range i).map (fun i=>who.map fun k=>Ue w h c (ZE crew k).2.1 (QV a (Xt l (what.getD i 0)).2.1))=out;have hol:out.length=i:=by rw[←xf];simp
  have tS:=bN (S0 n w h c a crew l (PH who) (PH what) (out,(i:Int))) (fun k=>Ue w h c (ZE crew (who.getD k 0)).2.1 (QV a (Xt l t).2.1)) who.length (fun k hk=>by
   have hd2:decide ((k:Int)<((PH who).length:Int))=true:=by rw[AAb,hlw];clear hn;omega
   obtain⟨w1,w2⟩:=XH hk;have hkm:who.getD k 0∈PX crew l:=by rw[hwho];exact WM hk
   obtain⟨g1,g2⟩:=Y7 hkm;have hg:M8 crew ((who.getD k 0:Nat):Int)=some (ZE crew (who.getD k 0)):=by rw[TA];exact iF g1
   have hgt:M8 l ((t:Nat):Int)=some (Xt l t):=by rw[TA];exact eW f1
   have hgp:M8 a ((p:Nat):Int)=some a[p]:=O6 hp
   have hcost:V3 n w h c (ZE crew (who.getD k 0)).2.1 (QV a (Xt l t).2.1)=some (Ue w h c (ZE crew (who.getD k 0)).2.1 (QV a (Xt l t).2.1)):=by
    unfold V3 Ue;rw[(cT hc hf _ _ n hn).1,ABT];by_cases q:Uv w h c (ZE crew (who.getD k 0)).2.1 (QV a (Xt l t).2.1)<0
    ·grind
    ·grind
   have tY:∀x:Int,decide (((List.range k).map fun k=>Ue w h c (ZE crew (who.getD k 0)).2.1 (QV a (Xt l t).2.1)).length+[x].length≤Dh)=true:=fun x=>R3 (by grind);simp only[S0,hd2,ABU,w1,w2,t1,t2,ABX,ABT,hg,hgt,(RS a ha _ n hn).1,f4,hgp,←f6,hcost,tY,O5 hk (show who.length≤9223372036854775807 by omega)]) (by
   have hd2:decide ((who.length:Int)<((PH who).length:Int))=false:=by rw[AAf,hlw];clear hn;omega
   simp only[S0,hd2,ABV]) n (by unfold PD at hn;omega)
  rw[YK (fun k=>Ue w h c (ZE crew k).2.1 (QV a (Xt l t).2.1)) who]at tS;have tY:∀x:List Int,decide (out.length+[x].length≤Dh)=true:=fun x=>R3 (by omega);simp only[RZ,hd,ABU,tS,ABT,tY,O5 hi (show what.length≤9223372036854775807 by omega)]) (by
  have hd:decide ((what.length:Int)<((PH what).length:Int))=false:=by rw[AAf,tX];clear hn;omega
  simp only[RZ,hd,ABV]) n (by unfold PD at hn;omega)
 rw[this,YK (fun t=>who.map fun k=>Ue w h c (ZE crew k).2.1 (QV a (Xt l t).2.1)) what,←hwhat,←hwho];rfl
theorem bP{w h:Int}{c:List Int}(hc:c.length≤1048576)(hf:PS w h c=true)(a:List PF)(crew:List Pc)(l:List PW):(Qr w h c a crew l).length=(P2 a l (PX crew l).length).length∧(Qr w h c a crew l).Nodup∧∀k∈Qr w h c a crew l,k<(PX crew l).length:=by
 have hcm:=ei hc hf a crew l;obtain⟨p1,p2,p3⟩:=mE (Pm (WK w h c a crew l)) (List.range (PX crew l).length) AB8 (by rw[List.length_range];simpa[Pm]using hcm.nm);refine⟨by unfold Qr;rw[p1];simp[Pm,WK],p2,fun k hk=>AAR.1 (p3 k hk)⟩
theorem gi{w h:Int}{c:List Int}(hc:c.length≤1048576)(hf:PS w h c=true){a:List PF}(ha:a.length≤1048576){crew:List Pc}{l:List PW}{j:Nat}(hj:j<(Qr w h c a crew l).length):
  ∃(q k t p:Nat) (row:List Int),(PH (Qr w h c a crew l))[j]?=some (q:Int)∧Ob (PH (Qr w h c a crew l)) (j:Int)=true∧Ob (PH (PX crew l)) (q:Int)=true∧(PH (PX crew l))[q]?=some (k:Int)∧
   Ob (WK w h c a crew l) (j:Int)=true∧(WK w h c a crew l)[j]?=some row∧Ob row (q:Int)=true∧row[q]?=some (Ue w h c (ZE crew k).2.1 (QV a (Xt l t).2.1))∧
   Ob (PH (P2 a l (PX crew l).length)) (j:Int)=true∧(PH (P2 a l (PX crew l).length))[j]?=some (t:Int)∧k<crew.length∧t<l.length∧
   R1 a (Xt l t).2.1=(p:Int)∧(∃x,M8 a (p:Int)=some x∧x.2.1=QV a (Xt l t).2.1)∧
   Xv w h c a crew l j=if Ue w h c (ZE crew k).2.1 (QV a (Xt l t).2.1)<100000 then some (t,k)else none:=by
 obtain⟨c1,c2,c3⟩:=bP hc hf a crew l;have hq:=c3 _ (WM hj);have hw:j<(P2 a l (PX crew l).length).length:=by omega
 obtain⟨a1,a2⟩:=XH hj;obtain⟨b1,b2⟩:=XH hq;obtain⟨d1,d2⟩:=XH hw;obtain⟨f1,f2,f3,p,hp,f4,f5,f6⟩:=YT ha (WM hw);obtain⟨g1,_⟩:=Y7 (WM hq);have hM:j<(WK w h c a crew l).length:=by simpa[WK]using hw
 have tY:(WK w h c a crew l)[j]?=some ((PX crew l).map fun k=>Ue w h c (ZE crew k).2.1 (QV a (Xt l ((P2 a l (PX crew l).length).getD j 0)).2.1)):=by unfold WK;rw[AAX,AAF hw,List.getD,AAF hw];rfl
 refine⟨(Qr w h c a crew l).getD j 0,(PX crew l).getD ((Qr w h c a crew l).getD j 0) 0,(P2 a l (PX crew l).length).getD j 0,p,_,a2,a1,b1,b2,PA hM,tY,PA (by simpa using hq),?_,d1,d2,g1,f1,f4,⟨a[p],O6 hp,f6.symm⟩,rfl⟩;grind
theorem jS(a:List PF)(crew:List Pc)(l:List PW)(w h:Int)(c:List Int)(j:Nat):sendAll a crew l ((List.range (j+1)).filterMap (Xv w h c a crew l))=match Xv w h c a crew l j with
  |some p=>Qp a crew l p (sendAll a crew l ((List.range j).filterMap (Xv w h c a crew l)))
  |none=>sendAll a crew l ((List.range j).filterMap (Xv w h c a crew l)):=by
 unfold sendAll;rw[AB4,List.filterMap_append,List.foldl_append];grind
theorem jX{w h:Int}{c:List Int}(hc:c.length≤1048576)(hf:PS w h c=true){a:List PF}(ha:a.length≤1048576){crew:List Pc}(hcr:crew.length≤1048576){l:List PW}(hl:l.length≤60)(s x:Int)(n:Nat)(hn:PD≤n):
  iter n (Qn n a l (PH (PX crew l)) (PH (P2 a l (PX crew l).length)) (WK w h c a crew l,x) (PH (Qr w h c a crew l),s)) (0,crew,l)=some (((Qr w h c a crew l).length:Int),sendAll a crew l (QO w h c a crew l)):=by
 have h10:=Y6 crew l;obtain⟨c1,c2,c3⟩:=bP hc hf a crew l;have zG:(Qr w h c a crew l).length≤10:=by rw[c1];exact AAw (Za a l _ _ _) h10
 have:=Ph (Qn n a l (PH (PX crew l)) (PH (P2 a l (PX crew l).length)) (WK w h c a crew l,x) (PH (Qr w h c a crew l),s)) (fun j=>((j:Int),sendAll a crew l ((List.range j).filterMap (Xv w h c a crew l)))) (Qr w h c a crew l).length (((Qr w h c a crew l).length:Int),sendAll a crew l (QO w h c a crew l)) (fun j hj=>by
  obtain⟨q,k,t,p,row,e1,e2,e3,e4,e5,e6,e7,e8,e9,e10,e11,e12,e13,⟨y,e14,e15⟩,e16⟩:=gi hc hf ha hj;have hlc:(PH (Qr w h c a crew l)).length=(Qr w h c a crew l).length:=by simp[PH]
  have hd:decide ((j:Int)<((PH (Qr w h c a crew l)).length:Int))=true:=by rw[AAb,hlc];clear hn;omega
  rw[jS,e16];have hsi:SI crew l (sendAll a crew l ((List.range j).filterMap (Xv w h c a crew l))):=SI.all _ _ (SI.first crew l);generalize sendAll a crew l ((List.range j).filterMap (Xv w h c a crew l))=st at hsi;obtain⟨cr,tk⟩:=st;have hgt:M8 l (t:Int)=some (Xt l t):=by rw[TA];exact eW e12
  have hw:O9 ((j:Int)+1)=((j+1:Nat):Int):=O5 hj (by omega);by_cases hcost:Ue w h c (ZE crew k).2.1 (QV a (Xt l t).2.1)<100000
  ·rw[AAK hcost];obtain⟨r,r1,r2⟩:=hsi.id k e11;have l1:=hsi.l1;have l2:=hsi.l2;dsimp only at r1 l1 l2;have i1:Ob cr (k:Int)=true:=PA (by omega);have i2:∀f,Ob (List.modify cr k f) (k:Int)=true:=fun f=>PA (by grind);have i3:∀f g,Ob (List.modify (List.modify cr k f) k g) (k:Int)=true:=fun f g=>PA (by grind);have i4:Ob tk (t:Int)=true:=PA (by omega);have i5:∀f,Ob (List.modify tk t f) (t:Int)=true:=fun f=>PA (by grind)
   have g1:∀f g,(List.modify (List.modify cr k f) k g)[k]?=some (g (f r)):=fun f g=>by grind
   simp only[Qn,hd,ABU,ABX,e1,e2,e3,e4,e5,e6,e7,e8,e9,e10,ABT,ABZ hcost,hgt,(RS a ha _ n hn).1,e13,e14,e15,i1,i2,i3,i4,i5,g1,hw,Qp,r2]
  ·rw[AAM hcost];simp only[Qn,hd,ABU,ABV,ABX,e1,e2,e3,e4,e5,e6,e7,e8,e9,e10,ABT,ABd hcost,hw]) (by
  have hlc:(PH (Qr w h c a crew l)).length=(Qr w h c a crew l).length:=by simp[PH]
  have hd:decide (((Qr w h c a crew l).length:Int)<((PH (Qr w h c a crew l)).length:Int))=false:=by rw[AAf,hlc];clear hn;omega
  simp only[Qn,hd,ABV];rfl) n (by unfold PD at hn;omega)
 exact this
theorem gA{w h:Int}{c:List Int}{crew:List Pc}(hk:SQ w h c crew=true):PS w h c=true:=by unfold SQ at hk;grind
theorem aB{w h:Int}{c:List Int}(hc:c.length≤1048576){a:List PF}(ha:PU a){crew:List Pc}(hcr:crew.length≤1048576){l:List PW}(hl:l.length≤1048576)(n:Nat)(hn:PD≤n):U7 n w h c a crew l=some (gy w h c a crew l):=by
 have r1:decide (([]:List Pc).length+crew.length≤Dh)=true:=by rw[AAb];simp[Dh];clear hn;omega
 have r2:decide (([]:List PW).length+l.length≤Dh)=true:=by rw[AAb];simp[Dh];clear hn;omega
 have hal:a.length≤1048576:=ha.1;unfold U7 gy gB;simp only[r1,r2,ABU,Pq a ha n hn,UP w h c hc crew hcr n hn,Xy l hl n hn,ABT,AA4];cases hs:Pl a with
 |false=>rfl
 |true=>cases hk:SQ w h c crew with
  |false=>rfl
  |true=>cases ht:SO l with
   |false=>rfl
   |true=>
    have hf:=gA hk
    have h60:l.length≤60:=by unfold SO at ht;simp only[AAG,AAb]at ht;exact ht.1
    have hil:(PH (PX crew l)).length=(PX crew l).length:=by simp[PH]
    obtain⟨s,s2⟩:=gm (ei hc hf a crew l) n hn;simp only[ABc,ABV,ABT,eP crew hcr l hl n hn,hil,dM a hal l h60 _ n hn,gk hc hf hal hcr h60 n hn,s2,ACK,ABU];rw[show PH (pk (Pm (WK w h c a crew l)) (List.range (PX crew l).length))=PH (Qr w h c a crew l)from rfl,jX hc hf hal hcr h60 _ _ n hn];rfl
structure TP(l:List PW):Prop where
 len:l.length≤60
 mU:∀i (h:i<l.length),Pv l[i]=true
 apart:∀i j (hi:i<l.length) (hj:j<i),Pd l[i] l[j]=false
theorem af:∀(l p:List PW),RI p l=true↔(∀x∈l,Pv x=true)∧(∀x∈l,∀u∈p,Pd x u=false)∧l.Pairwise fun u x=>Pd x u=false
 | [],p=>by simp[RI]
 |x::l,p=>by simp only[RI,AAG,af l (p++[x]),AAU,AAT,ABm];grind
theorem VZ{l:List PW}:SO l=true↔TP l:=by
 unfold SO;rw[AAG,AAb,af];constructor
 ·rintro ⟨h1,h2,_,h3⟩
  exact⟨h1,fun i h=>h2 _ (ABW h),fun i j hi hj=>ABQ.1 h3 j i (by omega) hi hj⟩
 ·rintro ⟨h1,h2,h3⟩
  refine⟨h1,fun x hx=>?_,fun _ _ _ h=>by simp at h,ABQ.2 fun a b ha hb zF=>h3 b a hb zF⟩;obtain⟨i,hi,rfl⟩:=ABY.1 hx;exact h2 i hi
theorem iH(a:List PF)(crew:List Pc)(l:List PW):∀(prs:List (Nat×Nat)) (st:List Pc×List PW),(prs.map (·.1)).Nodup→(prs.map (·.2)).Nodup→
  (∀k,((prs.foldl (fun st p=>Qp a crew l p st) st).1)[k]?=match prs.find? (fun p=>p.2==k)with
   |some p=>(st.1[k]?).map fun y=>(y.1,y.2.1,QV a (Xt l p.1).2.1,y.2.2.2.1,0)
   |none=>st.1[k]?)∧
  (∀i,((prs.foldl (fun st p=>Qp a crew l p st) st).2)[i]?=match prs.find? (fun p=>p.1==i)with
   |some p=>(st.2[i]?).map fun y=>(y.1,y.2.1,(ZE crew p.2).1,2)
   |none=>st.2[i]?)
 | [],st,_,_=>⟨fun k=>rfl,fun i=>rfl⟩
 |p::prs,st,h1,h2=>by
  obtain⟨a1,a2⟩:=AAY.1 h1;obtain⟨b1,b2⟩:=AAY.1 h2;obtain⟨q1,q2⟩:=iH a crew l prs (Qp a crew l p st) a2 b2;refine⟨fun k=>?_,fun i=>?_⟩
  ·rw[List.foldl_cons,q1 k,List.find?_cons];by_cases e:p.2=k
   ·have hn:prs.find? (fun p=>p.2==k)=none:=ACI.2 fun x hx hb=>b1 (AAs.2 ⟨x,hx,(by simpa using hb:x.2=k).trans e.symm⟩);rw[hn,show(p.2==k)=true by simpa using e];simp only[Qp,ABg,e,if_true];grind
   ·rw[show(p.2==k)=false by simpa using e]
    have he:(Qp a crew l p st).1[k]?=st.1[k]?:=by simp only[Qp,ABg,e,if_false];grind
    rw[he]
  ·rw[List.foldl_cons,q2 i,List.find?_cons];by_cases e:p.1=i
   ·have hn:prs.find? (fun p=>p.1==i)=none:=ACI.2 fun x hx hb=>a1 (AAs.2 ⟨x,hx,(by simpa using hb:x.1=i).trans e.symm⟩);rw[hn,show(p.1==i)=true by simpa using e];simp only[Qp,ABg,e,if_true];grind
   ·rw[show(p.1==i)=false by simpa using e]
    have he:(Qp a crew l p st).2[i]?=st.2[i]?:=by simp only[Qp,ABg,e,if_false];grind
    rw[he]
structure kq(w h:Int)(c:List Int)(a:List PF)(crew:List Pc)(l:List PW)(prs:List (Nat×Nat)):Prop where
 n1:(prs.map (·.1)).Nodup
 n2:(prs.map (·.2)).Nodup
 ZY:∀p∈prs,p.1∈P2 a l (PX crew l).length
 r8:∀p∈prs,p.2∈PX crew l
 way:∀p∈prs,0≤Uv w h c (ZE crew p.2).2.1 (QV a (Xt l p.1).2.1)
theorem er{w h:Int}{c:List Int}(hc:c.length≤1048576)(hf:PS w h c=true)(a:List PF)(crew:List Pc)(l:List PW):kq w h c a crew l (QO w h c a crew l):=by
 obtain⟨c1,c2,c3⟩:=bP hc hf a crew l;have hready:(P2 a l (PX crew l).length).Nodup:=List.Pairwise.imp (fun {x y} h=>by have:=h.1;omega) (cG a l _ (T4 l) 0)
 have hpd:∀j p,Xv w h c a crew l j=some p→p.1=(P2 a l (PX crew l).length).getD j 0∧p.2=(PX crew l).getD ((Qr w h c a crew l).getD j 0) 0∧0≤Uv w h c (ZE crew p.2).2.1 (QV a (Xt l p.1).2.1):=fun j p hp=>by
  unfold Xv at hp;split at hp
  ·rename_i tX;injection hp with hp
   subst hp;refine⟨rfl,rfl,?_⟩;dsimp only;unfold Ue at tX;by_cases q:Uv w h c (ZE crew ((PX crew l).getD ((Qr w h c a crew l).getD j 0) 0)).2.1 (QV a (Xt l ((P2 a l (PX crew l).length).getD j 0)).2.1)<0
   ·rw[AAK q]at tX;omega
   ·omega
  ·cases hp
 have wJ:∀p∈QO w h c a crew l,∃j,j<(Qr w h c a crew l).length∧Xv w h c a crew l j=some p:=fun p hp=>by obtain⟨j,hj,e⟩:=List.mem_filterMap.1 hp;exact⟨j,AAR.1 hj,e⟩
 have at_ne:∀(s:List Nat),s.Nodup→∀i j,i<s.length→j<s.length→i≠j→s.getD i 0≠s.getD j 0:=fun s hs i j hi hj tj e=>by rw[List.getD,List.getD,AAF hi,AAF hj]at e;exact tj (cA hs hi hj e)
 have pw:(QO w h c a crew l).Pairwise fun p q=>p.1≠q.1∧p.2≠q.2:=by unfold QO;rw[List.pairwise_filterMap];refine ACA (fun {i j} hi hj xM p hp q hq=>?_) (List.pairwise_lt_range (n:=(Qr w h c a crew l).length));rw[AAR]at hi hj;obtain⟨p1,p2,_⟩:=hpd i p hp;obtain⟨q1,q2,_⟩:=hpd j q hq;rw[p1,p2,q1,q2];refine⟨at_ne _ hready i j (by omega) (by omega) (by omega),at_ne _ (iu crew l) _ _ (c3 _ (WM hi)) (c3 _ (WM hj)) (at_ne _ c2 i j hi hj (by omega))⟩
 refine⟨?_,?_,fun p hp=>?_,fun p hp=>?_,fun p hp=>?_⟩
 ·unfold List.Nodup;rw[ABi];exact pw.imp fun h=>h.1
 all_goals grind
theorem gq{w h:Int}{c:List Int}(hc:c.length≤1048576)(hf:PS w h c=true){a b:Int}(hs:0≤Uv w h c a b):QC c b=true:=by
 cases hb:QC c b with
 |true=>rfl
 |false=>
  exfalso;obtain⟨_,e,_,_⟩:=cT hc hf a b PD (AAd _);obtain⟨k,k1,k2⟩:=SU w h c hc hf b PD (AAd _);rw[hb]at k2;have k3:(k==0)=true:=by simpa using k2
  unfold Ui at e;grind
structure iW(a:List PF)(crew:List Pc)(l:List PW)(prs:List (Nat×Nat))(crew':List Pc)(l':List PW):Prop where
 l1:crew'.length=crew.length
 l2:l'.length=l.length
 rb:∀k (h:k<crew.length) (h':k<crew'.length),(∃p∈prs,p.2=k∧crew'[k]=(crew[k].1,crew[k].2.1,QV a (Xt l p.1).2.1,crew[k].2.2.2.1,0))∨((∀p∈prs,p.2≠k)∧crew'[k]=crew[k])
 tk:∀i (h:i<l.length) (h':i<l'.length),(∃p∈prs,p.1=i∧l'[i]=(l[i].1,l[i].2.1,(ZE crew p.2).1,2))∨((∀p∈prs,p.1≠i)∧l'[i]=l[i])
theorem Zb{a:List PF}{crew:List Pc}{l:List PW}{prs:List (Nat×Nat)}(h1:(prs.map (·.1)).Nodup)(h2:(prs.map (·.2)).Nodup):iW a crew l prs (sendAll a crew l prs).1 (sendAll a crew l prs).2:=by
 obtain⟨q1,q2⟩:=iH a crew l prs (crew,l) h1 h2;have hsi:=SI.all (a:=a) prs _ (SI.first crew l);have hfind:∀(P:Nat×Nat→Bool),prs.find? P=none→∀p∈prs,P p=false:=fun P h p hp=>by grind
 refine⟨hsi.l1,hsi.l2,fun k hk u7=>?_,fun i hi vF=>?_⟩
 ·have:=q1 k;change (sendAll a crew l prs).1[k]?=_ at this;grind
 ·have:=q2 i;change (sendAll a crew l prs).2[i]?=_ at this;grind
theorem aQ{l:List PW}{i:Nat}(h:i<l.length):Xt l i=l[i]:=by unfold Xt;grind
theorem Z4{crew:List Pc}{i:Nat}(h:i<crew.length):ZE crew i=crew[i]:=by unfold ZE;grind
theorem Zl{x u:PW}:Pd x u=false↔¬(x.1=u.1∧x.2.1=u.2.1)∧(x.2.2.2≠1→x.2.2.1≠u.2.2.1∧(x.2.1=u.2.1→u.2.2.2=1)):=by unfold Pd;grind
structure CW(c:List Int)(crew:List Pc):Prop where
 aX:crew.length≤20
 ml:∀r∈crew,1≤r.1∧r.1≤99
 jZ:∀r∈crew,QC c r.2.1=true
 goal:∀r∈crew,r.2.2.1 = -1∨QC c r.2.2.1=true
 mN:∀r∈crew,0≤r.2.2.2.2∧r.2.2.2.2≤1000000
 ids:crew.Pairwise fun r s=>r.1<s.1
 cj:crew.Pairwise fun r s=>r.2.1≠s.2.1
theorem WX{β:Type}(f:β→Int)(l:List β)(h:∀i (hi:i+1<l.length),f l[i]<f l[i+1]):l.Pairwise fun x y=>f x<f y:=by
 rw[ABQ]
 have key:∀d i (hj:i+d+1<l.length),f (l[i]'(by omega))<f l[i+d+1]:=by
  intro d
  induction d with
  |zero=>intro i hj;exact h i hj
  |succ d ih=>
   intro i hj;have h1:=ih i (by omega);have h2:=h (i+d+1) (by omega);have e:i+(d+1)+1=i+d+1+1:=by omega
   simp only[e];omega
 intro i j hi hj xM;have:=key (j-i-1) i (by omega);grind
end Go.Ev.N
