/- A plain law. Conditions: none. -/
import Derived.Test.YtimfhfkcgkplcaaGreatDoorFnWholeNat
set_option linter.all false
namespace Go.Ev.N
open Go Go.Ev
variable {i m j:Nat}{α β:Type}{c:By}{w h x:Int}{R:List (Nat->Int)}{S:Is}{b:Option Int}{C:Nat->Nat->Int}{u v:Nat->Int}{a0:List By}{prs:List (Nat×Nat)}
theorem ABQ:type_of% @Option.bind_some:=@Option.bind_some
theorem ABR:type_of% @cond_true:=@cond_true
theorem ABS:type_of% @cond_false:=@cond_false
theorem ABT:type_of% @List.getElem_mem:=@List.getElem_mem
theorem ABU:type_of% @Int.toNat_natCast:=@Int.toNat_natCast
theorem ABV:type_of% @List.mem_iff_getElem:=@List.mem_iff_getElem
theorem ABW:type_of% @decide_eq_true:=@decide_eq_true
theorem ABX:type_of% @List.length_singleton:=@List.length_singleton
theorem ABY:type_of% @beq_eq_false_iff_ne:=@beq_eq_false_iff_ne
theorem ABZ:type_of% @Bool.not_true:=@Bool.not_true
theorem ABa:type_of% @decide_eq_false:=@decide_eq_false
theorem ABb:type_of% @List.take_succ_eq_append_getElem:=@List.take_succ_eq_append_getElem
theorem ABc:type_of% @List.getElem?_modify:=@List.getElem?_modify
theorem ABd:type_of% @Nat.lt_trichotomy:=@Nat.lt_trichotomy
theorem ABe:type_of% @List.pairwise_append:=@List.pairwise_append
theorem ABf:type_of% @List.pairwise_cons:=@List.pairwise_cons
theorem ABg:type_of% @List.drop_eq_getElem_cons:=@List.drop_eq_getElem_cons
theorem ABh:type_of% @List.pairwise_map:=@List.pairwise_map
theorem ABi:type_of% @List.append_assoc:=@List.append_assoc
theorem ABj:type_of% @List.mem_filter:=@List.mem_filter
theorem ABk:type_of% @List.mem_of_mem_erase:=@List.mem_of_mem_erase
theorem ABl:type_of% @List.getElem_map:=@List.getElem_map
theorem ABm:type_of% @Bool.not_eq_true:=@Bool.not_eq_true
theorem ABn:type_of% @List.mem_of_find?_eq_some:=@List.mem_of_find?_eq_some
theorem ABo:type_of% @List.length_filter_le:=@List.length_filter_le
theorem ABp:type_of% @Bool.true_and:=@Bool.true_and
theorem ABq:type_of% @Bool.not_false:=@Bool.not_false
theorem ABr:type_of% @beq_self_eq_true:=@beq_self_eq_true
theorem ABs:type_of% @List.ext_getElem?:=@List.ext_getElem?
theorem ABt:type_of% @List.length_map:=@List.length_map
theorem ABu:type_of% @List.getElem_of_mem:=@List.getElem_of_mem
theorem ABv:type_of% @List.filter_cons:=@List.filter_cons
theorem ABw:type_of% @Bool.false_and:=@Bool.false_and
theorem ABx:type_of% @Bool.eq_iff_iff:=@Bool.eq_iff_iff
theorem ABy:type_of% @List.map_congr_left:=@List.map_congr_left
theorem ABz:type_of% @List.take_length:=@List.take_length
theorem AB0:type_of% @List.take_of_length_le:=@List.take_of_length_le
theorem AB1:type_of% @List.range_succ:=@List.range_succ
theorem AB2:type_of% @List.take_append_drop:=@List.take_append_drop
theorem AB3:type_of% @List.singleton_append:=@List.singleton_append
theorem AB4:type_of% @bne_iff_ne:=@bne_iff_ne
theorem AB5:type_of% @List.mem_of_mem_take:=@List.mem_of_mem_take
theorem AB6:type_of% @List.nodup_range:=@List.nodup_range
theorem AB7:type_of% @List.ext_getElem:=@List.ext_getElem
theorem AB8:type_of% @List.Pairwise.imp_of_mem:=@List.Pairwise.imp_of_mem
theorem AB9:type_of% @List.set_append_right:=@List.set_append_right
theorem ACA:type_of% @Bool.and_eq_false_iff:=@Bool.and_eq_false_iff
theorem ACB:type_of% @Nat.le_add_right:=@Nat.le_add_right
theorem ACC:type_of% @Bool.and_true:=@Bool.and_true
theorem ACD:type_of% @Bool.and_self:=@Bool.and_self
theorem ACE:type_of% @List.replicate_succ':=@List.replicate_succ'
theorem ACF:type_of% @Int.le_refl:=@Int.le_refl
theorem ACG:type_of% @List.length_nil:=@List.length_nil
theorem ACH:type_of% @List.length_modify:=@List.length_modify
theorem ACI:type_of% @List.find?_eq_none:=@List.find?_eq_none
theorem ACJ:type_of% @List.filter_append:=@List.filter_append
theorem ACK:type_of% @List.take_add_one:=@List.take_add_one
theorem ACL:type_of% @Int.add_assoc:=@Int.add_assoc
theorem ACN:type_of% @List.pairwise_singleton:=@List.pairwise_singleton
theorem PY{n:Int}(h1 : -9223372036854775808<=n)(h2:n<=9223372036854775807):PV n=n:=by unfold PV IntKind.wrap;simp only[IntKind.bits,IntKind.signed];grind
theorem PR(h:i<m)(hm:m<=9223372036854775807):PV ((i:Int)+1)=((i+1:Nat):Int):=by rw[PY J J];omega
theorem TW(xs:List α)(i:Nat):Iy xs (i:Int)=xs[i]?:=by unfold Iy;grind
theorem PS{α:Type}{xs:List α}(h:i<xs.length):Iy xs (i:Int)=some xs[i]:=by rw[TW];grind
theorem ln(xs:List α)(i:Nat):Oi xs (i:Int)=decide (i<xs.length):=by unfold Oi;grind
theorem PX{α:Type}{xs:List α}(h:i<xs.length):Oi xs (i:Int)=true:=by rw[ln];simpa using h
theorem QH(l:List α)(n:Nat)(y:α):DL l n y=l.set n y:=CH l n y
def sy{α:Type}(p:α->Prop)(x:List α):Prop:=List.length x<=maxLen/\∀y,List.Mem y x->p y
section
variable {α γ σ β:Type}
theorem RO{f:α->Option (α⊕γ)}{x y:α}(h:f x=some (.inl y))(n:Nat):iter (n+1) f x=iter n f y:=by simp[iter,h]
theorem Pw{f:α->Option (α⊕γ)}{x:α}{z:γ}(h:f x=some (.inr z))(n:Nat):iter (n+1) f x=some z:=by simp[iter,h]
theorem P0(f:α->Option (α⊕γ))(st:Nat->α)(m:Nat)(r:γ)(hs:∀i,i<m->f (st i)=some (.inl (st (i+1))))(he:f (st m)=some (.inr r)):∀n,m<n->iter n f (st 0)=some r:=by
 have key:∀d i n,i+d=m->d<n->iter n f (st i)=some r:=by
  intro d
  induction d with
  |zero=>
   intro i n hi hn;obtain⟨n,rfl⟩:∃k,n=k+1:=⟨n-1,J⟩;have:i=m:=J
   subst this;exact Pw he n
  |succ d ih=>
   intro i n hi hn;obtain⟨n,rfl⟩:∃k,n=k+1:=⟨n-1,J⟩;rw[RO (hs i J) n];exact ih (i+1) n J J
 grind
theorem Ps(f:α->Option (α⊕γ))(st:Nat->σ->α)(xs:List β)(G:List β->σ->γ)(Inv:Nat->σ->Prop)
  (hend:∀s,Inv xs.length s->f (st xs.length s)=some (.inr (G [] s)))
  (hstep:∀i x l s,i<xs.length->xs[i]?=some x->xs.drop i=x::l->xs.drop (i+1)=l->Inv i s->(∃s',f (st i s)=some (.inl (st (i+1) s'))/\Inv (i+1) s'/\G (x::l) s=G l s')\/f (st i s)=some (.inr (G (x::l) s))):
  ∀n,xs.length<n->∀s,Inv 0 s->iter n f (st 0 s)=some (G xs s):=by
 have key:∀d i n s,i+d=xs.length->d<n->Inv i s->iter n f (st i s)=some (G (xs.drop i) s):=by
  intro d
  induction d with
  |zero=>
   intro i n s hi hn hI;obtain⟨n,rfl⟩:∃k,n=k+1:=⟨n-1,J⟩;have:i=xs.length:=J
   subst this;rw[Pw (hend s hI) n,List.drop_length]
  |succ d ih=>
   intro i n s hi hn hI;obtain⟨n,rfl⟩:∃k,n=k+1:=⟨n-1,J⟩;have uR:i<xs.length:=J
   have hd:xs.drop i=xs[i]::xs.drop (i+1):=ABg uR;rcases hstep i xs[i] (xs.drop (i+1)) s uR (AAI uR) hd rfl hI with⟨s',h1,h2,h3⟩|h1
   ·rw[RO h1 n,ih (i+1) n s' J J h2,hd,h3]
   ·rw[Pw h1 n,hd]
 grind
theorem WR(f:Int->Option (Int⊕γ))(xs:List β)(G:List β->List β->γ)(hend:f (xs.length:Int)=some (.inr (G xs [])))
  (hstep:∀i x l p,i<xs.length->xs[i]?=some x->xs=p++x::l->p.length=i->p=xs.take i->(f (i:Int)=some (.inl ((i+1:Nat):Int))/\G p (x::l)=G (p++[x]) l)\/f (i:Int)=some (.inr (G p (x::l)))):
  ∀n,xs.length<n->iter n f 0=some (G [] xs):=by
 intro n hn;refine Ps (σ:=List β) f (λi _=>(i:Int)) xs (λl p=>G p l) (λi p=>p=xs.take i) (λs hs=>?_) (λi x l s h1 h2 h3 h4 h5=>?_) n hn [] OF
 ·grind
 ·have hlen:s.length=i:=by rw[h5];simp;omega
  have hx:xs=s++x::l:=by rw[<-h3,h5,AB2]
  grind
end
theorem TU{β:Type}(f:Int->Option (Int⊕(Int⊕Bool)))(xs:List β)(P:β->Bool)(hs:∀(i:Nat)(x:β),i<xs.length->xs[i]?=some x->f (i:Int)=some (bif P x then .inl ((i+1:Nat):Int)else .inr (.inr false)))
  (he:f (xs.length:Int)=some (.inr (.inl (xs.length:Int)))):∀n,xs.length<n->iter n f 0=some (bif xs.all P then .inl (xs.length:Int)else .inr false):=by
 intro n hn;refine WR f xs (λp l=>bif l.all P then .inl (xs.length:Int)else .inr false) ?_ ?_ n hn
 all_goals grind
theorem jJ(b:Bool)(x y:α):(bif b then some x else some y)=some (bif b then x else y):=No
def Pa:Nat:=18446744073709551616
theorem ADF{p:Prop}(h:p:=by unfold Pa at hn;omega):p:=h
theorem cH(xs:List α)(i:Nat)(f:α->α)(h:i<xs.length):List.modify xs i f=xs.set i (f xs[i]):=by
 apply AB7
 all_goals grind
def gD(a:List (Int×Int)):Prop:=a.length<=1048576
def gE(a:List (Int×Int×Int)):Prop:=a.length<=1048576
def Zg(a:Int×Int×(List (Int×Int))×(List (Int×Int×Int))×Int):Prop:=gD a.2.2.1/\gE a.2.2.2.1
def jq(a:List (Int×Int×(List (Int×Int))×(List (Int×Int×Int))×Int)):Prop:=a.length<=1048576/\∀y∈a,Zg y
def Qi(a:Int×(List (Int×Int×(List (Int×Int))×(List (Int×Int×Int))×Int))):Prop:=jq a.2
def jr(a:List (Int×Int×Int)):Prop:=a.length<=1048576
def nK(a:Int×Int×(List (Int×Int×Int))):Prop:=jr a.2.2
def Pq(a:List (Int×Int×(List (Int×Int×Int)))):Prop:=a.length<=1048576/\∀y∈a,nK y
theorem TG(h:m<=1048576):decide (m+1<=E8)=true:=by have hm:E8=68719476736:=rfl;grind
theorem U9(h:m<=1048576):decide (m<=E8)=true:=by have hm:E8=68719476736:=rfl;grind
theorem kQ{α γ:Type}(f g:α->Option (α⊕γ))(I:Nat->α->Prop)(Q:γ->Prop)(m:Nat)
  (h:∀i x,i<=m->I i x->g x=f x/\((∃y,f x=some (.inl y)/\I (i+1) y/\i<m)\/∃r,f x=some (.inr r)/\Q r)):
  ∀n,m<n->∀x,I 0 x->iter n g x=iter n f x/\∃r,iter n f x=some r/\Q r:=by
 have key:∀d i n x,i+d=m->d<n->I i x->iter n g x=iter n f x/\∃r,iter n f x=some r/\Q r:=by
  intro d
  induction d with
  |zero=>
   intro i n x hi hn hI;obtain⟨n,rfl⟩:∃k,n=k+1:=⟨n-1,J⟩;obtain⟨e,h1|⟨r,h1,h2⟩⟩:=h i x J hI
   ·obtain⟨y,_,_,uR⟩:=h1;omega
   ·exact⟨by rw[Pw h1 n,Pw (e.trans h1) n],r,Pw h1 n,h2⟩
  |succ d ih=>
   intro i n x hi hn hI;obtain⟨n,rfl⟩:∃k,n=k+1:=⟨n-1,J⟩;obtain⟨e,⟨y,h1,h2,_⟩|⟨r,h1,h2⟩⟩:=h i x J hI
   ·obtain⟨j1,j2⟩:=ih (i+1) n y J J h2;rw[RO h1 n,RO (e.trans h1) n];exact⟨j1,j2⟩
   ·exact⟨by rw[Pw h1 n,Pw (e.trans h1) n],r,Pw h1 n,h2⟩
 grind
theorem bA(a:PL)(h:a.2.2.2.1.length<=1048576)(c:Int)(n:Nat)(hn:Pa<=n):V7 n a.1 a.2.1 a.2.2.1 a.2.2.2.1 a.2.2.2.2 c=some (a.2.2.2.1.filter λx=>x.1==c):=by
 have hc:=Ps (σ:=AAD) (SO a.2.2.2.1 c) (λi s=>(s,(i:Int))) a.2.2.2.1 (λl s=>(s++l.filter λx=>x.1==c,(a.2.2.2.1.length:Int))) (λi s=>s.length<=i)
  (λs hs=>by simp[SO])
  (λi x l s h1 h2 h3 h4 h5=>by
   left;have hx:a.2.2.2.1[i]=x:=by rw[AAI h1]at h2;exact Option.some.inj h2
   have hr:decide (s.length+1<=E8)=true:=TG J;cases hq:x.1==c with
   |true=>exact⟨s++[x],by simp[SO,h1,PS h1,hx,hq,PR h1 J,hr],ADJ,by simp[hq]⟩
   |false=>exact⟨s,by simp[SO,h1,PS h1,hx,hq,PR h1 J],J,by simp[hq]⟩)
  n ADF [] (AAb _)
 unfold V7;grind
def sz(x:Int):Prop:=IntKind.min .u8<=x/\x<=IntKind.max .u8
theorem ZN(x:Int):0<=OO .i64 x 255/\OO .i64 x 255<=255:=by
 unfold OO
 have h:(BitVec.ofInt (IntKind.bits .i64) x &&& BitVec.ofInt (IntKind.bits .i64) 255).toNat<=255:=by
  rw[BitVec.toNat_and];have:(BitVec.ofInt (IntKind.bits .i64) 255).toNat=255:=ADP
  rw[this];exact Nat.and_le_right
 generalize (BitVec.ofInt (IntKind.bits .i64) x &&& BitVec.ofInt (IntKind.bits .i64) 255).toNat=m at h;have:IntKind.wrap .i64 (m:Int)=(m:Int):=PY J J;omega
theorem Z4(b:By)(i h:Int)(hi:0<=i)(hb:b.length<=1048576):∃x i' h':Int,Sz b i h=some (x,b,i',h')/\0<=x/\x<=255/\0<=i':=by
 unfold Sz;rw[show decide ((0:Nat)<=33)=true from rfl,show decide ((0:Nat)<=47)=true from rfl];simp only[ABR];by_cases hl:i<(b.length:Int)
 ·obtain⟨j,rfl⟩:∃j:Nat,i=(j:Int):=⟨i.toNat,J⟩;have hj:j<b.length:=J
  rw[show decide ((j:Int)<(b.length:Int))=true by grind,ABR,PS hj];simp only[ABQ];refine⟨_,_,_,rfl,(ZN _).1,(ZN _).2,?_⟩;rw[PR hj J];omega
 ·rw[show decide (i<(b.length:Int))=false by grind,ABS];simp only[ABQ];exact⟨_,_,_,rfl,(ZN _).1,(ZN _).2,hi⟩
theorem b9(b:By)(i h:Int)(hi:0<=i)(hb:b.length<=1048576)(n:Int):∃x i' h':Int,Px b i h n=some (x,b,i',h')/\0<=i'/\0<=x/\(x<n\/n<=0/\x=0):=by
 unfold Px;by_cases h0:n<=0
 ·rw[show decide (n<=0)=true by simpa using h0,ABR];grind
 rw[show decide (n<=0)=false by grind,ABS];have hz:(n==0)=false:=by rw[<-ABm];simp;omega
 rw[hz]
 have fin:∀x:Int,0<=x->0<=Int.tmod x n/\Int.tmod x n<n:=λx hx=>by rw[Int.tmod_eq_emod_of_nonneg hx];exact⟨Int.emod_nonneg _ J,Int.emod_lt_of_pos _ J⟩
 obtain⟨x,i1,h1,e1,x0,x1,j1⟩:=Z4 b i h hi hb;rw[e1];simp only[ABQ,ABS];by_cases h2:n<=256
 ·grind
 rw[show decide (n<=256)=false by grind,ABS];obtain⟨y,i2,w5,e2,y0,y1,j2⟩:=Z4 b i1 h1 j1 hb;rw[e2];simp only[ABQ];obtain⟨z,i3,h3',e3,z0,z1,j3⟩:=Z4 b i2 w5 j2 hb;rw[e3];simp only[ABQ];rw[PY (n:=x*65536) J J,PY (n:=y*256) J J,PY (n:=x*65536+y*256) J J,PY (n:=x*65536+y*256+z) J J];exact⟨_,_,_,rfl,j3,(fin _ J).1,.inl (fin _ J).2⟩
theorem kS(a:By)(ha:a.length<=1048576)(n:Nat)(hn:Pa<=n):∃h:Int,X0 n a=some (a,0,h):=by
 obtain⟨_,r,e,_⟩:=kQ (α:=Int×Int) (γ:=Int×Int) (VZ a) (VZ a) (λi x=>x.2=(i:Int)) (λ_=>True) a.length (λi x hi hI=>by
  refine⟨rfl,?_⟩;obtain⟨h,k⟩:=x;dsimp only at hI;subst hI;unfold VZ;dsimp only;by_cases hl:i<a.length
  ·rw[show decide ((i:Int)<(a.length:Int))=true by simp;omega,ABR];simp only[ABQ];cases decide ((i:Int)<4000)with
   |false=>grind
   |true=>
    rw[ABR,PS hl];exact .inl ⟨_,rfl,PR hl J,hl⟩
  ·rw[show decide ((i:Int)<(a.length:Int))=false by simp;omega];exact .inr ⟨_,rfl,trivial⟩) n ADF (PV (275275+(a.length:Int)),0) rfl
 unfold X0;rw[e];exact⟨r.1,rfl⟩
theorem jS(a:By)(ha:a.length<=1048576)(m:Int)(hm:0<=m):∃r:Int,XA a m=some r/\0<=r/\r<=m:=by
 unfold XA;have e:Int.tdiv (a.length:Int) 12=((a.length / 12:Nat):Int):=by rw[Int.tdiv_eq_ediv_of_nonneg J];omega
 rw[e,PY (n:=((a.length / 12:Nat):Int)) J J,PY (n:=3+((a.length / 12:Nat):Int)) J J];by_cases h:3+((a.length / 12:Nat):Int)>m
 ·rw[show decide (3+((a.length / 12:Nat):Int)>m)=true by simpa using h];grind
 ·rw[show decide (3+((a.length / 12:Nat):Int)>m)=false by simpa using h];grind
theorem dh{β:Type}(f:Int->Option (Int⊕(Int⊕Int)))(xs:List β)(P:β->Bool)(hs:∀(i:Nat)(x:β),i<xs.length->xs[i]?=some x->f (i:Int)=some (bif P x then .inr (.inr (i:Int))else .inl ((i+1:Nat):Int)))
  (he:f (xs.length:Int)=some (.inr (.inl (xs.length:Int)))):∀n,xs.length<n->iter n f 0=some (.inl (xs.length:Int))\/∃i,∃h:i<xs.length,P xs[i]=true/\iter n f 0=some (.inr (i:Int)):=by
 have key:∀d i n,i+d=xs.length->d<n->iter n f (i:Int)=some (.inl (xs.length:Int))\/∃j,∃h:j<xs.length,P xs[j]=true/\iter n f (i:Int)=some (.inr (j:Int)):=by
  intro d
  induction d with
  |zero=>
   intro i n hi hn;obtain⟨n,rfl⟩:∃k,n=k+1:=⟨n-1,J⟩;have:i=xs.length:=J
   subst this;exact .inl (Pw he n)
  |succ d ih=>
   intro i n hi hn;obtain⟨n,rfl⟩:∃k,n=k+1:=⟨n-1,J⟩;have uR:i<xs.length:=J
   have hf:=hs i xs[i] uR (AAI uR);cases hp:P xs[i]with
   |true=>rw[hp,ABR]at hf;exact .inr ⟨i,uR,hp,Pw hf n⟩
   |false=>rw[hp,ABS]at hf;rw[RO hf n];exact ih (i+1) n J J
 grind
theorem ZD:Qu=Qx:=rfl
theorem YX(a:PL)(h:Zg a):QC a.1 a.2.1 a.2.2.1 a.2.2.2.1 a.2.2.2.2=some a:=by obtain⟨h1,h2⟩:=h;unfold QC;simp[U9 h1,U9 h2]
theorem Ub(a:PL)(h:Zg a):Rk a.1 a.2.1 a.2.2.1 a.2.2.2.1 a.2.2.2.2=some a:=by obtain⟨h1,h2⟩:=h;unfold Rk QU Wa;simp[U9 h1,U9 h2]
theorem Vt:Po=Pd:=rfl
theorem lp(a b c:Int):Pd a b c=some (decide (b<=a)&&decide (a<=c)):=by unfold Pd;grind
theorem gf(n:Nat)(a:List (Int×Int)):R9 n a=Qw n a:=by
 have h:Vo a=QM a:=by
  funext i;unfold Vo QM;rw[Vt];cases decide (i<(a.length:Int))with
  |false=>rfl
  |true=>
   cases hg:Iy a i with
   |none=>simp[hg]
   |some x=>simp[hg]
 unfold R9 Qw;rw[h]
theorem Qp(f:α->Option (α⊕(α⊕Bool)))(st:Nat->α)(m:Nat)(P:Nat->Bool)(hs:∀i,i<m->f (st i)=some (bif P i then .inl (st (i+1))else .inr (.inr false)))(he:f (st m)=some (.inr (.inl (st m)))):
  ∀n,m<n->iter n f (st 0)=some (bif(List.range m).all P then .inl (st m)else .inr false):=by
 have key:∀d i n,i+d=m->d<n->iter n f (st i)=some (bif(List.range' i d).all P then .inl (st m)else .inr false):=by
  intro d
  induction d with
  |zero=>
   intro i n hi hn;obtain⟨n,rfl⟩:∃k,n=k+1:=⟨n-1,J⟩;have:i=m:=J
   subst this;rw[Pw he n];rfl
  |succ d ih=>
   intro i n hi hn;obtain⟨n,rfl⟩:∃k,n=k+1:=⟨n-1,J⟩;have hf:=hs i J;rw[List.range'_succ,List.all_cons];cases hp:P i with
   |true=>rw[hp,ABR]at hf;rw[RO hf n,ih (i+1) n J J];rfl
   |false=>rw[hp,ABS]at hf;rw[Pw hf n];rfl
 grind
theorem iI(f:Int->Option (Int⊕Int))(m:Nat)(P:Nat->Bool)(hs:∀i,i<m->f (i:Int)=some (bif P i then .inl ((i+1:Nat):Int)else .inr (i:Int)))(he:f (m:Int)=some (.inr (m:Int))):
  ∀n,m<n->∃j,j<=m/\iter n f 0=some (j:Int)/\(∀i,i<j->P i=true)/\(j<m->P j=false):=by
 have key:∀d i n,i+d=m->d<n->∃j,i<=j/\j<=m/\iter n f (i:Int)=some (j:Int)/\(∀q,i<=q->q<j->P q=true)/\(j<m->P j=false):=by
  intro d
  induction d with
  |zero=>
   intro i n hi hn;obtain⟨n,rfl⟩:∃k,n=k+1:=⟨n-1,J⟩;have:i=m:=J
   subst this;exact⟨i,AAb _,AAb _,Pw he n,λq h1 h2=>J,λh=>J⟩
  |succ d ih=>
   intro i n hi hn;obtain⟨n,rfl⟩:∃k,n=k+1:=⟨n-1,J⟩;have hf:=hs i J;cases hp:P i with
   |true=>
    rw[hp,ABR]at hf;obtain⟨j,h1,h2,h3,h4,h5⟩:=ih (i+1) n J J;refine⟨j,J,h2,by rw[RO hf n];exact h3,λq q1 q2=>?_,h5⟩;by_cases e:q=i
    ·subst e;exact hp
    ·exact h4 q J q2
   |false=>rw[hp,ABS]at hf;exact⟨i,AAb _,J,Pw hf n,λq h1 h2=>J,λ_=>hp⟩
 intro n hn;obtain⟨j,_,h2,h3,h4,h5⟩:=key m 0 n J hn;grind
theorem Zo{β:Type}{a:List β}{y:β}(h:j<(a.take i).length)(hy:(a.take i)[j]?=some y):j<i/\∃h:j<a.length,a[j]=y:=No
def Qn{β:Type}(key:β->Int)(a:List β)(i:Nat)(x:β):Bool:=match i with
 |0=>true
 |j+1=>match a[j]? with
  |some y => !decide (key y>=key x)
  |none=>true
theorem XJ{γ:Type}(key:β->Int)(a:List β)(x:β)(i:Nat)(hi:i<a.length)(hl:a.length<=1048576)(F:Bool->Option γ):
  (bif decide ((i:Int)>0)then(Iy a (PV ((i:Int)-1))).bind (λy=>F (decide (key y>=key x)))else F false)=F (!Qn key a i x):=by
 cases i with
 |zero=>rfl
 |succ j=>
  have hw:PV (((j+1:Nat):Int)-1)=(j:Int):=by rw[PY J J];omega
  rw[show decide (((j+1:Nat):Int)>0)=true by grind,ABR,hw,PS J,ABQ];simp only[Qn,AAI (show j<a.length by omega),Bool.not_not]
def P8(a b c:Int):Bool:=decide (b<=a)&&decide (a<=c)
theorem Qh(a b c:Int):Pd a b c=some (P8 a b c):=lp a b c
def Ph(w h:Int)(c:By):Bool:=P8 w 1 10&&P8 h 1 10&&((c.length:Int)==PV (w*h))&&c.all λk=>P8 k 0 4
theorem P3(w h:Int)(c:By)(hl:c.length<=1048576)(n:Nat)(hn:Pa<=n):Qj n w h c=some (Ph w h c):=by
 have:=TU (T3 c) c (λk=>P8 k 0 4) (λi x h1 h2=>by
  have hx:c[i]=x:=by rw[AAI h1]at h2;exact Option.some.inj h2
  simp only[T3,PS h1,hx,ABQ,PR h1 J,Qh];grind) (by simp[T3]) n ADF
 unfold Qj Ph;rw[this];simp only[Qh,ABQ,bne];cases P8 w 1 10<;>cases P8 h 1 10<;>cases((c.length:Int)==PV (w*h))<;>cases(c.all λk=>P8 k 0 4)<;>rfl
theorem YH:S8=Qj:=rfl
def QQ(c:By)(i:Int):Bool:=P8 i 0 ((c.length:Int)-1)&&(c.getD i.toNat 0 != 0)
theorem XG{i:Int}(h:P8 i 0 ((c.length:Int)-1)=true):∃m:Nat,i=(m:Int)/\m<c.length:=by unfold P8 at h;simp only[AAJ,AAe]at h;exact⟨i.toNat,J,J⟩
theorem cV(w h:Int)(c:By)(hl:c.length<=1048576)(i:Int):Vi w h c i=some (QQ c i):=by
 unfold Vi QQ;rw[show PV ((c.length:Int)-1)=(c.length:Int)-1 from PY J J];simp only[Qh,ABQ];cases hb:P8 i 0 ((c.length:Int)-1)with
 |false=>rfl
 |true=>
  obtain⟨m,rfl,hm⟩:=XG hb;simp[PS hm,hm]
theorem Sq(w h:Int)(c:By)(hl:c.length<=1048576)(hf:Ph w h c=true)(i:Int)(n:Nat)(hn:Pa<=n):∃k,Q0 n w h c i=some k/\(k != 0)=QQ c i:=by
 unfold Q0 Sr QQ;rw[YH,P3 w h c hl n hn,hf,show PV ((c.length:Int)-1)=(c.length:Int)-1 from PY J J];simp only[Vt,Qh,ABQ];cases hb:P8 i 0 ((c.length:Int)-1)with
 |false=>grind
 |true=>
  obtain⟨m,rfl,hm⟩:=XG hb;exact⟨c[m],by simp[PS hm],by simp[hm]⟩
theorem XX(w h:Int)(c:By)(hl:c.length<=1048576)(hf:Ph w h c=true)(x:PO)(n:Nat)(hn:Pa<=n):Ra n w h c x.1 x.2.1 x.2.2.1 x.2.2.2.1 x.2.2.2.2=some (QQ c x.2.1&&(x.2.2.1 == -1||QQ c x.2.2.1)):=by unfold Ra;obtain⟨k1,e1,q1⟩:=Sq w h c hl hf x.2.1 n hn;obtain⟨k2,e2,q2⟩:=Sq w h c hl hf x.2.2.1 n hn;grind
def lD(c:By)(crew:List (Int×Int×Int×Bool×Int))(i:Nat):Bool:=match crew[i]? with
 |none=>false
 |some x=>P8 x.1 1 99&&QQ c x.2.1&&(x.2.2.1 == -1||QQ c x.2.2.1)&&P8 x.2.2.2.2 0 1000000&&Qn (·.1) crew i x&&(crew.take i).all λy => !(y.2.1==x.2.1)
def TR(w h:Int)(c:By)(crew:List (Int×Int×Int×Bool×Int)):Bool:=Ph w h c&&decide (crew.length<=20)&&(List.range crew.length).all (lD c crew)
theorem cQ(crew:List (Int×Int×Int×Bool×Int))(hl:crew.length<=1048576)(i:Nat)(hi:i<crew.length)(x:Int×Int×Int×Bool×Int)(n:Nat)(hn:Pa<=n):
  iter n (Rq crew (i:Int) x) 0=some (bif(crew.take i).all λy => !(y.2.1==x.2.1)then .inl (i:Int)else .inr false):=by
 have hlen:(crew.take i).length=i:=ADJ
 have:=TU (Rq crew (i:Int) x) (crew.take i) (λy => !(y.2.1==x.2.1)) (λj y h1 h2=>by
  obtain⟨hj,hj2,hy⟩:=Zo h1 h2;simp only[Rq,PS hj2,hy,ABQ,PR hj2 J];rw[show decide ((j:Int)<(i:Int))=true by rw[AAe];omega];cases(y.2.1==x.2.1)<;>rfl) (by first|(simp[Rq,hlen];done)|(simp[Rq,hlen];omega)) n ADF
 grind
theorem Wg(w h:Int)(c:By)(hc:c.length<=1048576)(crew:List (Int×Int×Int×Bool×Int))(hl:crew.length<=1048576)(n:Nat)(hn:Pa<=n):UL n w h c crew=some (TR w h c crew):=by
 have:=Qp (Ug n w h c crew) (λi=>(i:Int)) crew.length (lD c crew) (λi hi=>by
  have hp:(bif decide ((i:Int)>0)then(Iy crew (PV ((i:Int)-1))).bind (λy=>some (decide (y.1>=crew[i].1)))else some false)=some (!Qn (·.1) crew i crew[i]):=XJ (·.1) crew crew[i] i hi hl some;simp only[Ug,lD,PS hi,AAI hi,ABQ,Qh,cV w h c hc,PR hi J,hp,cQ crew hl i hi crew[i] n hn,bne];grind) (by simp[Ug]) n ADF
 unfold UL TR;rw[show((0:Nat):Int)=0 from rfl]at this;rw[this,P3 w h c hc n hn];rw[show decide ((crew.length:Int)>20) = !decide (crew.length<=20) by by_cases q:crew.length<=20<;>simp[q]<;>omega];cases Ph w h c<;>cases decide (crew.length<=20)<;>cases(List.range crew.length).all (lD c crew)<;>rfl
theorem bf(crew:List (Int×Int×Int×Bool×Int))(hl:crew.length<=1048576)(i:Nat)(hi:i<crew.length)(x:Int×Int×Int×Bool×Int)(n:Nat)(hn:Pa<=n):
  iter n (Sp crew (i:Int) x) 0=some (bif(crew.take i).all λy => !(y.2.1==x.2.1)then .inl (i:Int)else .inr false):=by
 have vS:sub crew (Int.toNat (0:Int)) (Int.toNat (i:Int))=crew.take i:=by simp[sub]
 have hlen:(crew.take i).length=i:=ADJ
 have:=TU (Sp crew (i:Int) x) (crew.take i) (λy => !(y.2.1==x.2.1)) (λj y h1 h2=>by
  obtain⟨hj,hj2,hy⟩:=Zo h1 h2;simp only[Sp,vS,TW,h2,ABQ,PR hj2 J,hlen];rw[show decide ((j:Int)<(i:Int))=true by rw[AAe];omega];cases(y.2.1==x.2.1)<;>rfl) (by simp only[Sp,vS,hlen];simp) n ADF
 grind
theorem WX(w h:Int)(c:By)(hc:c.length<=1048576)(crew:List (Int×Int×Int×Bool×Int))(hl:crew.length<=1048576)(n:Nat)(hn:Pa<=n):UJ n w h c crew=some (TR w h c crew):=by
 unfold UJ TR;rw[YH,P3 w h c hc n hn];rw[show decide ((crew.length:Int)>20) = !decide (crew.length<=20) by by_cases q:crew.length<=20<;>simp[q]<;>omega];cases hf:Ph w h c with
 |false=>rfl
 |true=>
  have:=Qp (UX n w h c crew) (λi=>(i:Int)) crew.length (lD c crew) (λi hi=>by
   have hp:∀C:Option Bool,(bif decide ((i:Int)>0)then(Iy crew (PV ((i:Int)-1))).bind (λy=>bif decide (y.1>=crew[i].1)then some true else C)else C)=bif !Qn (·.1) crew i crew[i]then some true else C:=λC=>XJ (·.1) crew crew[i] i hi hl λb=>bif b then some true else C;have hr:(decide (0<=(0:Int))&&decide ((0:Int)<=(i:Int))&&decide ((i:Int)<=(crew.length:Int)))=true:=ADJ
   simp only[UX,lD,PS hi,AAI hi,ABQ,Vt,Qh,XX w h c hc hf _ n hn,PR hi J,hp,bf crew hl i hi crew[i] n hn,hr];grind) (by simp[UX]) n ADF
  rw[show((0:Nat):Int)=0 from rfl]at this;rw[this];cases decide (crew.length<=20)<;>cases(List.range crew.length).all (lD c crew)<;>rfl
def WL(l:AAD)(i:Nat):Bool:=match l[i]? with
 |none=>false
 |some x=>P8 x.1 1 50&&P8 x.2.1 1 1000&&P8 x.2.2 0 x.2.1&&Qn (·.1) l i x
def RW(l:AAD):Bool:=(List.range l.length).all (WL l)&&decide (l.length<=8)
abbrev Pb:=Int×Int×AAD
abbrev It:=List Pb
def ag(a:It)(i:Nat):Bool:=match a[i]? with
 |none=>false
 |some x=>P8 x.1 1 999&&P8 x.2.1 0 99&&RW x.2.2&&Qn (·.1) a i x&&(a.take i).all λy => !(y.2.1==x.2.1)
def P2(a:It):Bool:=decide (a.length<=12)&&(List.range a.length).all (ag a)
theorem aP(l:AAD)(hl:l.length<=1048576)(n:Nat)(hn:Pa<=n):Va n l=some (RW l):=by
 have:=Qp (TO l) (λi=>(i:Int)) l.length (WL l) (λi hi=>by
  have hp:(bif decide ((i:Int)>0)then(Iy l (PV ((i:Int)-1))).bind (λy=>some (decide (y.1>=l[i].1)))else some false)=some (!Qn (·.1) l i l[i]):=XJ (·.1) l l[i] i hi hl some;simp only[TO,WL,PS hi,AAI hi,ABQ,Qh,PR hi J,hp];rw[show decide ((i:Int)<(l.length:Int))=true by simpa using hi];generalize l[i]=x;generalize Qn (·.1) l i x=b4;cases P8 x.1 1 50<;>cases P8 x.2.1 1 1000<;>cases P8 x.2.2 0 x.2.1<;>cases b4<;>rfl) (by simp[TO]) n ADF
 unfold Va RW;rw[show((0:Nat):Int)=0 from rfl]at this;rw[this];rw[show decide ((l.length:Int)<=8)=decide (l.length<=8) by rw[ABx];simp;omega];grind
theorem bB(a:It)(hl:a.length<=1048576)(i:Nat)(hi:i<a.length)(x:Pb)(n:Nat)(hn:Pa<=n):
  iter n (RF a (i:Int) x) 0=some (bif(a.take i).all λy => !(y.2.1==x.2.1)then .inl (i:Int)else .inr false):=by
 have hlen:(a.take i).length=i:=ADJ
 have:=TU (RF a (i:Int) x) (a.take i) (λy => !(y.2.1==x.2.1)) (λj y h1 h2=>by
  obtain⟨hj,hj2,hy⟩:=Zo h1 h2;simp only[RF,PS hj2,hy,ABQ,PR hj2 J];rw[show decide ((j:Int)<(i:Int))=true by rw[AAe];omega];cases(y.2.1==x.2.1)<;>rfl) (by first|(simp[RF,hlen];done)|(simp[RF,hlen];omega)) n ADF
 grind
theorem P9(a:It)(hs:Pq a)(n:Nat)(hn:Pa<=n):QW n a=some (P2 a):=by
 have hl:a.length<=1048576:=hs.1
 have:=Qp (T5 n a) (λi=>(i:Int)) a.length (ag a) (λi hi=>by
  have hp:(bif decide ((i:Int)>0)then(Iy a (PV ((i:Int)-1))).bind (λy=>some (decide (y.1>=a[i].1)))else some false)=some (!Qn (·.1) a i a[i]):=XJ (·.1) a a[i] i hi hl some;have wc:a[i].2.2.length<=1048576:=hs.2 _ (ABT hi);simp only[T5,ag,PS hi,AAI hi,ABQ,Qh,PR hi J,hp,aP _ wc n hn,bB a hl i hi a[i] n hn];rw[show decide ((i:Int)<(a.length:Int))=true by simpa using hi];generalize a[i]=x;generalize ((a.take i).all λy => !(y.2.1==x.2.1))=b5;generalize Qn (·.1) a i x=b4;cases P8 x.1 1 999<;>cases P8 x.2.1 0 99<;>cases RW x.2.2<;>cases b4<;>cases b5<;>rfl) (by simp[T5]) n ADF
 unfold QW P2;grind
theorem dJ(p:Pb)(hl:p.2.2.length<=1048576)(n:Nat)(hn:Pa<=n):Xo n p.1 p.2.1 p.2.2=some (P8 p.1 1 999&&P8 p.2.1 0 99&&RW p.2.2):=by
 have:=Qp (VM p.2.2) (λi=>(i:Int)) p.2.2.length (WL p.2.2) (λi hi=>by
  have hp:(bif decide ((i:Int)>0)then(Iy p.2.2 (PV ((i:Int)-1))).bind (λy=>some (decide (y.1>=p.2.2[i].1)))else some false)=some (!Qn (·.1) p.2.2 i p.2.2[i]):=XJ (·.1) p.2.2 p.2.2[i] i hi hl some;simp only[VM,WL,PS hi,AAI hi,ABQ,Vt,Qh,PR hi J,hp];grind) (by simp[VM]) n ADF
 unfold Xo RW;rw[show((0:Nat):Int)=0 from rfl]at this;rw[this,show decide ((p.2.2.length:Int)>8) = !decide (p.2.2.length<=8) by by_cases q:p.2.2.length<=8<;>simp[q]<;>omega];simp only[Vt,Qh,ABQ];cases P8 p.1 1 999<;>cases P8 p.2.1 0 99<;>cases decide (p.2.2.length<=8)<;>cases(List.range p.2.2.length).all (WL p.2.2)<;>rfl
theorem au(a:It)(hl:a.length<=1048576)(i:Nat)(hi:i<a.length)(x:Pb)(n:Nat)(hn:Pa<=n):
  iter n (SH a (i:Int) x) 0=some (bif(a.take i).all λy => !(y.2.1==x.2.1)then .inl (i:Int)else .inr false):=by
 have vS:sub a (Int.toNat (0:Int)) (Int.toNat (i:Int))=a.take i:=by simp[sub]
 have hlen:(a.take i).length=i:=ADJ
 have:=TU (SH a (i:Int) x) (a.take i) (λy => !(y.2.1==x.2.1)) (λj y h1 h2=>by
  obtain⟨hj,hj2,hy⟩:=Zo h1 h2;simp only[SH,vS,TW,h2,ABQ,PR hj2 J,hlen];rw[show decide ((j:Int)<(i:Int))=true by rw[AAe];omega];cases(y.2.1==x.2.1)<;>rfl) (by simp only[SH,vS,hlen];simp) n ADF
 grind
theorem Qr(a:It)(hs:Pq a)(n:Nat)(hn:Pa<=n):SA n a=some (P2 a):=by
 have hl:a.length<=1048576:=hs.1
 have:=Qp (Ts n a) (λi=>(i:Int)) a.length (ag a) (λi hi=>by
  have hp:(bif decide ((i:Int)>0)then(Iy a (PV ((i:Int)-1))).bind (λy=>some (decide (y.1>=a[i].1)))else some false)=some (!Qn (·.1) a i a[i]):=XJ (·.1) a a[i] i hi hl some;have wc:a[i].2.2.length<=1048576:=hs.2 _ (ABT hi);have hr:(decide (0<=(0:Int))&&decide ((0:Int)<=(i:Int))&&decide ((i:Int)<=(a.length:Int)))=true:=ADJ
  simp only[Ts,ag,PS hi,AAI hi,ABQ,PR hi J,hp,dJ _ wc n hn,au a hl i hi a[i] n hn,hr];rw[show decide ((i:Int)<(a.length:Int))=true by simpa using hi];generalize a[i]=x;generalize ((a.take i).all λy => !(y.2.1==x.2.1))=b5;generalize Qn (·.1) a i x=b4;cases P8 x.1 1 999<;>cases P8 x.2.1 0 99<;>cases RW x.2.2<;>cases b4<;>cases b5<;>rfl) (by simp[Ts]) n ADF
 unfold SA P2;rw[show((0:Nat):Int)=0 from rfl]at this;rw[this];rw[show decide ((a.length:Int)<=12)=decide (a.length<=12) by rw[ABx];simp;omega];grind
def XP(l:AAD)(k:Int):Int:=match l.find? λx=>x.1==k with
 |some x=>x.2.1
 |none=>0
theorem eE{l:AAD}(h:RW l=true)(k:Int):0<=XP l k/\XP l k<=1000:=by
 unfold XP;cases hf:l.find? λx=>x.1==k with
 |none=>simp
 |some x=>
  have hm:=ABn hf;obtain⟨i,hi,rfl⟩:=ABu hm;unfold RW at h;simp only[AAJ,AAW,AAX]at h;have:=h.1 i hi;simp only[WL,AAI hi,AAJ,P8,AAe]at this;grind
def Vv(a:It)(k:Int):Int:=bif P2 a then(a.map λp=>XP p.2.2 k).foldl (· + ·) 0 else 0
theorem iX{a:It}(h:P2 a=true):a.length<=12/\∀i (hi:i<a.length),RW a[i].2.2=true:=by unfold P2 at h;simp only[AAJ,AAW,AAX,AAe]at h;refine⟨h.1,λi hi=>?_⟩;have:=h.2 i hi;simp only[ag,AAI hi,AAJ]at this;grind
theorem bF(p:Pb)(hl:p.2.2.length<=1048576)(k:Int)(n:Nat)(hn:Pa<=n):∃s,RT n p.1 p.2.1 p.2.2 k=some s/\s.2.1=XP p.2.2 k:=by
 have hc:=Ps (σ:=Unit) (QN p.2.2 k) (λi _=>((i:Int),(0:Int),(0:Int),(0:Int))) p.2.2 (λl _=>match l.find? (λx=>x.1==k)with|some x=>.inr x|none=>.inl ((p.2.2.length:Int),0,0,0)) (λ_ _=>True)
  (λs hs=>by simp[QN])
  (λi x l s h1 h2 h3 h4 h5=>by
   have hx:p.2.2[i]=x:=by rw[AAI h1]at h2;exact Option.some.inj h2
   cases hq:(x.1==k)with
   |true=>right;simp[QN,h1,PS h1,hx,hq]
   |false=>left;exact⟨(),by simp[QN,h1,PS h1,hx,hq,PR h1 J],trivial,by simp[hq]⟩)
  n ADF () trivial
 unfold RT;rw[show((0:Nat):Int)=0 from rfl]at hc;rw[hc];unfold XP;cases p.2.2.find? λx=>x.1==k with
 |none=>exact⟨(k,0,0),rfl,rfl⟩
 |some x=>grind
theorem dP(a:It)(hs:Pq a)(k:Int)(n:Nat)(hn:Pa<=n):Xw n a k=some (Vv a k):=by
 have hl:a.length<=1048576:=hs.1;have wc:=P9 a hs n hn;unfold Xw Vv;cases hk:P2 a with
 |false=>
  obtain⟨m,rfl⟩:∃m,n=m+1:=⟨n-1,ADF⟩
  have:Sb (m+1) a k ((0:Int),(0:Int))=some (.inr (0,0)):=by unfold Sb;rw[wc,hk];grind
  rw[Pw this m];rfl
 |true=>
  obtain⟨h12,hp⟩:=iX hk
  have hc:=Ps (σ:=Int) (Sb n a k) (λi s=>(s,(i:Int))) a (λl s=>((l.map λp=>XP p.2.2 k).foldl (· + ·) s,(a.length:Int))) (λi s=>0<=s/\s<=1000*(i:Int)/\i<=12)
   (λs hs=>by simp[Sb])
   (λi x l s h1 h2 h3 h4 h5=>by
    left;have hx:a[i]=x:=by rw[AAI h1]at h2;exact Option.some.inj h2
    have hlen:x.2.2.length<=1048576:=by rw[<-hx];exact hs.2 _ (ABT h1)
    obtain⟨q,e,he⟩:=bF x hlen k n hn;have hb:=eE (hx▸hp i h1) k;refine⟨s+XP x.2.2 k,?_,J,rfl⟩;unfold Sb;rw[wc,hk,show decide ((i:Int)<(a.length:Int))=true by simpa using h1];simp only[ABR,ABQ,PS h1,hx,e,he,PR h1 J];rw[PY J J])
   n ADF 0 ⟨J,J,J⟩
  grind
theorem dW{γ:Type}(f:α->Option (α⊕(α⊕γ)))(st:Nat->α)(m:Nat)(P:Nat->Bool)(r:γ)(hs:∀i,i<m->f (st i)=some (bif P i then .inl (st (i+1))else .inr (.inr r)))(he:f (st m)=some (.inr (.inl (st m)))):
  ∀n,m<n->iter n f (st 0)=some (bif(List.range m).all P then .inl (st m)else .inr r):=by
 have key:∀d i n,i+d=m->d<n->iter n f (st i)=some (bif(List.range' i d).all P then .inl (st m)else .inr r):=by
  intro d
  induction d with
  |zero=>
   intro i n hi hn;obtain⟨n,rfl⟩:∃k,n=k+1:=⟨n-1,J⟩;have:i=m:=J
   subst this;rw[Pw he n];rfl
  |succ d ih=>
   intro i n hi hn;obtain⟨n,rfl⟩:∃k,n=k+1:=⟨n-1,J⟩;have hf:=hs i J;rw[List.range'_succ,List.all_cons];cases hp:P i with
   |true=>rw[hp,ABR]at hf;rw[RO hf n,ih (i+1) n J J];rfl
   |false=>rw[hp,ABS]at hf;rw[Pw hf n];rfl
 grind
theorem YZ(w h:Int)(c:By)(hl:c.length<=1048576):Vg w h c=some (w,h,c):=by unfold Vg;simp[U9 hl]
theorem ZS(w h:Int)(c:By)(hl:c.length<=1048576):WZ w h c=some (w,h,c):=by unfold WZ Tb;simp[U9 hl]
theorem Pg(a:It)(hs:Pq a)(n:Nat)(hn:Pa<=n):Py n a=some a:=by
 have hl:a.length<=1048576:=hs.1
 have hc:=Ps (σ:=It) (Uq a) (λi s=>((i:Int),s)) a (λl s=>((a.length:Int),s++l)) (λi s=>s.length=i)
  (λs hs=>by simp[Uq])
  (λi x l s h1 h2 h3 h4 h5=>by
   left;have hx:a[i]=x:=by rw[AAI h1]at h2;exact Option.some.inj h2
   have wc:x.2.2.length<=1048576:=by rw[<-hx];exact hs.2 _ (ABT h1)
   have hr:decide (s.length+1<=E8)=true:=TG J;exact⟨s++[x],by simp[Uq,h1,PS h1,hx,U9 wc,hr,PR h1 J],by simp[h5],OF⟩)
  n ADF [] rfl
 unfold Py;grind
theorem QJ(a:It)(hs:Pq a)(n:Nat)(hn:Pa<=n):QV n a=some a:=by
 have hl:a.length<=1048576:=hs.1
 have hc:=Ps (σ:=It) (Se a) (λi s=>((i:Int),s)) a (λl s=>((a.length:Int),s++l)) (λi s=>s.length=i)
  (λs hs=>by simp[Se])
  (λi x l s h1 h2 h3 h4 h5=>by
   left;have hx:a[i]=x:=by rw[AAI h1]at h2;exact Option.some.inj h2
   have wc:x.2.2.length<=1048576:=by rw[<-hx];exact hs.2 _ (ABT h1)
   have hr:decide (s.length+1<=E8)=true:=TG J;exact⟨s++[x],by simp[Se,h1,PS h1,hx,U9 wc,hr,PR h1 J],by simp[h5],OF⟩)
  n ADF [] rfl
 unfold QV;grind
abbrev Dn:=Int×Int×By×(List (Int×Int×AAD))×Int×ADL×(List (Int×Int×Int×Bool×Int))×(List (Int×Int×Int×Int))×By×By×Int
def Zt:Dn:=(0,0,[],[],0,[],[],[],[],[],0)
def jA(x:Dn×Bool):Int×Int×By×(List (Int×Int×AAD))×Int×ADL×(List (Int×Int×Int×Bool×Int))×(List (Int×Int×Int×Int))×By×By×Int×Bool:=
 (x.1.1,x.1.2.1,x.1.2.2.1,x.1.2.2.2.1,x.1.2.2.2.2.1,x.1.2.2.2.2.2.1,x.1.2.2.2.2.2.2.1,x.1.2.2.2.2.2.2.2.1,x.1.2.2.2.2.2.2.2.2.1,x.1.2.2.2.2.2.2.2.2.2.1,x.1.2.2.2.2.2.2.2.2.2.2,x.2)
def Y5(c:By)(a:It)(i:Nat):Bool:=match a[i]? with
 |some p=>P8 p.2.1 0 ((c.length:Int)-1)&&(c.getD p.2.1.toNat 0==2)
 |none=>false
def Xi(a:It)(i:Nat):Bool:=match a[i]? with
 |some p=>(List.range p.2.2.length).all λk => !decide ((p.2.2.getD k (0,0,0)).2.2>0)
 |none=>false
def R8(P7:By):Nat->List (Int×Int×Int×Bool×Int)
 |0=>[]
 |i+1=>R8 P7 i++[(((i+1:Nat):Int),P7.getD i 0, -1,false,0)]
theorem UC(P7:By):∀i,(R8 P7 i).length=i
 |0=>rfl
 |i+1=>by simp[R8,UC P7 i]
def Re(a:It):Nat->By
 |0=>List.replicate 51 0
 |i+1=>(Re a i).set (i+1) (Vv a ((i+1:Nat):Int))
theorem XE(a:It):∀i,(Re a i).length=51
 |0=>rfl
 |i+1=>by simp[Re,XE a i]
theorem aE(a:It)(i:Nat)(hi:i<a.length)(wc:a[i].2.2.length<=1048576)(y:Int×Dn)(hy:y.1=(i:Int))(z:Dn)(n:Nat)(hn:Pa<=n):
  iter n (Rs a y) (0,z)=some (bif Xi a i then .inl ((a[i].2.2.length:Int),z)else .inr (jA (Zt,false))):=by
 have:=dW (Rs a y) (λk=>((k:Int),z)) a[i].2.2.length (λk => !decide ((a[i].2.2.getD k (0,0,0)).2.2>0)) (jA (Zt,false)) (λk hk=>by
  unfold Rs;rw[hy];simp only[PS hi,ABQ,PS hk,PR hk J];rw[show decide ((k:Int)<(a[i].2.2.length:Int))=true by simpa using hk];rw[show a[i].2.2.getD k (0,0,0)=a[i].2.2[k] by simp[hk]];cases decide (a[i].2.2[k].2.2>0)<;>rfl) (by
  unfold Rs;rw[hy];simp[PS hi]) n ADF
 rw[show((0:Nat):Int)=0 from rfl]at this;rw[this];simp only[Xi,AAI hi]
theorem Zi(c:By)(hc:c.length<=1048576)(a:It)(hs:Pq a)(z:Dn)(n:Nat)(hn:Pa<=n):
  iter n (Rr n c a) (0,z)=some (bif(List.range a.length).all (λi=>Y5 c a i&&Xi a i)then .inl ((a.length:Int),z)else .inr (jA (Zt,false))):=by
 have hl:a.length<=1048576:=hs.1
 have:=dW (Rr n c a) (λk=>((k:Int),z)) a.length (λi=>Y5 c a i&&Xi a i) (jA (Zt,false)) (λi hi=>by
  have wc:a[i].2.2.length<=1048576:=hs.2 _ (ABT hi);have uO:=aE a i hi wc ((i:Int),z) rfl z n hn;unfold Rr;dsimp only;rw[show decide ((i:Int)<(a.length:Int))=true by simpa using hi];simp only[ABR,PS hi,ABQ,Qh,PR hi J];rw[show PV ((c.length:Int)-1)=(c.length:Int)-1 from PY J J];rw[show((0:Int),z.1,z.2.1,z.2.2.1,z.2.2.2.1,z.2.2.2.2.1,z.2.2.2.2.2.1,z.2.2.2.2.2.2.1,z.2.2.2.2.2.2.2.1,z.2.2.2.2.2.2.2.2.1,z.2.2.2.2.2.2.2.2.2.1,z.2.2.2.2.2.2.2.2.2.2)=((0:Int),z)from rfl,uO];simp only[Y5,AAI hi];cases hb:P8 a[i].2.1 0 ((c.length:Int)-1)with
  |false=>rfl
  |true=>
   obtain⟨m,hm,hmlt⟩:=XG hb;rw[hm];simp only[PS hmlt,ABQ,ABZ,ABS];rw[show c.getD (m:Int).toNat 0=c[m] by simp[hmlt]];cases hq:(c[m]==2)with
   |false=>simp only[bne,hq,ABq,ABR];rfl
   |true=>
    simp only[bne,hq,ABZ,ABS];cases Xi a i<;>rfl) (by
  unfold Rr;simp) n ADF
 omega
theorem aq(w h:Int)(c:By)(hl:c.length<=1048576)(hf:Ph w h c=true)(i:Int)(n:Nat)(hn:Pa<=n):Q0 n w h c i=some (bif P8 i 0 ((c.length:Int)-1)then c.getD i.toNat 0 else 0):=by
 unfold Q0 Sr;rw[YH,P3 w h c hl n hn,hf,show PV ((c.length:Int)-1)=(c.length:Int)-1 from PY J J];simp only[Vt,Qh,ABQ];cases hb:P8 i 0 ((c.length:Int)-1)with
 |false=>rfl
 |true=>
  obtain⟨m,rfl,hm⟩:=XG hb;simp[PS hm,hm]
theorem Yo(a:It)(hs:Pq a)(f0 f1:Int)(c:By)(p:It)(bn:Int)(os:ADL)(cr:List (Int×Int×Int×Bool×Int))(ts:List (Int×Int×Int×Int))(ou:By)(tk:Int)(n:Nat)(hn:Pa<=n):
  iter n (Rt n a) (1,f0,f1,c,p,bn,os,cr,ts,List.replicate 51 0,ou,tk)=some (51,f0,f1,c,p,bn,os,cr,ts,Re a 50,ou,tk):=by
 have:=P0 (γ:=Int×Dn) (Rt n a) (λi=>(((i+1:Nat):Int),f0,f1,c,p,bn,os,cr,ts,Re a i,ou,tk)) 50 (51,f0,f1,c,p,bn,os,cr,ts,Re a 50,ou,tk) (λi hi=>by
  unfold Rt;dsimp only;have uO:Oi (Re a i) (((i+1:Nat):Int))=true:=PX (by rw[XE];omega);rw[show decide (((i+1:Nat):Int)<=50)=true by grind,ABR,dP a hs _ n hn,ABQ,uO,ABR,show PV (((i+1:Nat):Int)+1)=((i+1+1:Nat):Int) by rw[PY J J];omega];rw[show Int.toNat ((i+1:Nat):Int)=i+1 by omega,QH];rfl) (by unfold Rt;simp) n ADF
 exact this
theorem ZG(P7:By)(hd:P7.length<=1048576)(f0 f1:Int)(c:By)(p:It)(bn:Int)(os:ADL)(ts:List (Int×Int×Int×Int))(sr ou:By)(tk:Int)(n:Nat)(hn:Pa<=n):
  iter n (Ru P7) (0,f0,f1,c,p,bn,os,[],ts,sr,ou,tk)=some (((min P7.length 20:Nat):Int),f0,f1,c,p,bn,os,R8 P7 (min P7.length 20),ts,sr,ou,tk):=by
 have:=P0 (γ:=Int×Dn) (Ru P7) (λi=>((i:Int),f0,f1,c,p,bn,os,R8 P7 i,ts,sr,ou,tk)) (min P7.length 20) (((min P7.length 20:Nat):Int),f0,f1,c,p,bn,os,R8 P7 (min P7.length 20),ts,sr,ou,tk) (λi hi=>by
  unfold Ru;dsimp only;have uR:i<P7.length:=J
  have hr:decide ((R8 P7 i).length+1<=E8)=true:=TG (by rw[UC];omega);have hgo:P7[Int.toNat (i:Int)]?=some P7[i]:=by simp[uR]
  rw[show decide ((i:Int)<(P7.length:Int))=true by rw[AAe];omega,show decide ((i:Int)<20)=true by rw[AAe];omega];simp only[ABR,ABQ,PX uR,hgo,ABX,hr,PR uR J];simp only[R8];grind) (by
  unfold Ru;grind) n ADF
 exact this
def Vk(l:AAD):Prop:=l.Pairwise (λa b=>a.1<b.1)/\(∀x∈l,1<=x.1/\x.1<=50/\1<=x.2.1/\x.2.1<=1000/\0<=x.2.2/\x.2.2<=x.2.1)/\l.length<=8
def Pf(a:It):Prop:=a.length<=12/\a.Pairwise (λx y=>x.1<y.1/\x.2.1≠y.2.1)/\∀p∈a,(1<=p.1/\p.1<=999)/\(0<=p.2.1/\p.2.1<=99)/\Vk p.2.2
theorem YV{β:Type}{key:β->Int}{a:List β}{R:β->β->Prop}(h:a.Pairwise R)(hR:∀x y,R x y->key x<key y)(i:Nat)(hi:i<a.length):Qn key a i a[i]=true:=by
 cases i with
 |zero=>rfl
 |succ j=>
  have:=hR _ _ (ABL.1 h j (j+1) J hi J);simp only[Qn,AAI (show j<a.length by omega)];grind
theorem Vk.ok{l:AAD}(h:Vk l):RW l=true:=by obtain⟨h1,h2,h3⟩:=h;unfold RW;simp only[AAJ,AAW,AAX,AAe];refine⟨λi hi=>?_,h3⟩;obtain⟨a1,a2,a3,a4,a5,a6⟩:=h2 _ (ABT hi);simp only[WL,AAI hi,YV h1 (λx y h=>h) i hi,P8,AAJ,AAe];grind
theorem Pf.ok{a:It}(h:Pf a):P2 a=true:=by
 obtain⟨h1,h2,h3⟩:=h;unfold P2;simp only[AAJ,AAW,AAX,AAe];refine⟨h1,λi hi=>?_⟩;obtain⟨⟨a1,a2⟩,⟨a3,a4⟩,a5⟩:=h3 _ (ABT hi);have hp:=YV (key:=(·.1)) h2 (λx y h=>h.1) i hi
 have hh:((a.take i).all λy => !(y.2.1==a[i].2.1))=true:=AAW.2 λy hy=>by
  obtain⟨j,hj,rfl⟩:=ABu hy;have hj':j<i:=by rw[List.length_take]at hj;omega
  have:=(ABL.1 h2 j i J hi hj').2;rw[List.getElem_take];simpa using this
 simp only[ag,AAI hi,hp,hh,a5.ok,P8,AAJ,AAe];grind
theorem Pf.sm{a:It}(h:Pf a):Pq a:=⟨by have:=h.1;omega,λy hy=>by show y.2.2.length<=_;have:=(h.2.2 y hy).2.2.2.2;omega⟩
def Pl(l:AAD)(k:Int):PQ:=match l.find? (λx=>x.1==k)with
 |some x=>x
 |none=>(k,0,0)
theorem ab(p:Pb)(hl:p.2.2.length<=1048576)(k:Int)(n:Nat)(hn:Pa<=n):RT n p.1 p.2.1 p.2.2 k=some (Pl p.2.2 k):=by
 unfold Pl
 have hc:=Ps (σ:=Unit) (QN p.2.2 k) (λi _=>((i:Int),(0:Int),(0:Int),(0:Int))) p.2.2 (λl _=>match l.find? (λx=>x.1==k)with|some x=>.inr x|none=>.inl ((p.2.2.length:Int),0,0,0)) (λ_ _=>True)
  (λs hs=>by simp[QN])
  (λi x l s h1 h2 h3 h4 h5=>by
   have hx:p.2.2[i]=x:=by rw[AAI h1]at h2;exact Option.some.inj h2
   cases hq:(x.1==k)with
   |true=>right;simp[QN,h1,PS h1,hx,hq]
   |false=>left;exact⟨(),by simp[QN,h1,PS h1,hx,hq,PR h1 J],trivial,by simp[hq]⟩)
  n ADF () trivial
 unfold RT;grind
def dM(x:PQ)(l:AAD):AAD:=l.map λy=>bif y.1==x.1 then x else y
theorem jU(l:AAD)(h:Vk l)(x:PQ)(hx:∃z∈l,z.1=x.1)(h0:(x.2.1==0)=false)(n:Nat)(hn:Pa<=n):UN n l x.1 x.2.1 x.2.2=some (dM x l):=by
 obtain⟨x0,x1,x2⟩:=x;dsimp only at h0 hx ⊢;have h8:=h.2.2
 have hc:=Ps (σ:=AAD×Bool) (Q4 l x0 x1 x2) (λi s=>(s.1,s.2,(i:Int))) l (λr s=>(s.1++dM (x0,x1,x2) r,s.2||r.any (λz=>z.1==x0),(l.length:Int)))
  (λi s=>s.1.length<=i/\((s.2=false/\∃z∈l.drop i,z.1=x0)\/(s.2=true/\∀z∈l.drop i,z.1≠x0)))
  (λs hs=>by simp[Q4,dM])
  (λi y r s h1 h2 h3 h4 h5=>by
   left;have hy:l[i]=y:=by rw[AAI h1]at h2;exact Option.some.inj h2
   obtain⟨hlen,hs⟩:=h5;obtain⟨out,put⟩:=s;dsimp only at hlen hs ⊢;rw[h3]at hs;have hpw:(y::r).Pairwise (λa b=>a.1<b.1):=h3▸h.1.drop;have hyr:=(ABf.1 hpw).1;unfold Q4;dsimp only;rw[show decide ((i:Int)<(l.length:Int))=true by simpa using h1,ABR,PS h1,hy,PR h1 J];simp only[ABQ];have r1:∀(o:AAD)(w:PQ),o.length<=i+1->decide (o.length+[w].length<=E8)=true:=λo w ho=>TG J;rcases hs with⟨rfl,z,hz,hzx⟩|⟨rfl,hs⟩
   ·simp only[ABq,ABR,ABQ];by_cases he:y.1=x0
    ·rw[show decide (y.1>=x0)=true by simp;omega,ABR,r1 out _ J,ABR,ABQ];rw[show(y.1 != x0)=false by simp[he],ABS,ABQ];refine⟨(out++[(x0,x1,x2)],true),rfl,⟨by show(out++[_]).length<=i+1;rw[ABA,ABX];omega,.inr ⟨rfl,λw hw=>?_⟩⟩,?_⟩
     ·have:=hyr w (by rwa[h4]at hw);omega
     ·have:∀w∈r,(w.1==x0)=false:=λw hw=>by have:=hyr w hw;rw[<-ABm];simp;omega
      have e1:dM (x0,x1,x2) r=r:=by unfold dM;rw[ABy (g:=id) λw hw=>by dsimp only;rw[this w hw];rfl];simp
      simp only[dM,ABE,he,ABr,ABR,List.any_cons,Bool.true_or,Bool.or_true,ABi,AB3]
    ·have hzr:z∈r:=by
      rcases AAf.1 hz with e|e
      ·subst e;exact absurd hzx he
      ·exact e
     have uR:=hyr z hzr;rw[show decide (y.1>=x0)=false by simp;omega,ABS,ABQ];rw[show(y.1 != x0)=true by simpa using he,ABR,r1 out _ J,ABR,ABQ];refine⟨(out++[y],false),rfl,⟨by show(out++[_]).length<=i+1;rw[ABA,ABX];omega,.inl ⟨rfl,z,by rw[h4];exact hzr,hzx⟩⟩,?_⟩;have hb:(y.1==x0)=false:=ADg
     simp only[dM,ABE,hb,ABS,List.any_cons,Bool.false_or,ABi,AB3]
   ·simp only[ABZ,ABS,ABQ];have he:y.1≠x0:=hs y AAk;rw[show(y.1 != x0)=true by simpa using he,ABR,r1 out _ J,ABR,ABQ];refine⟨(out++[y],true),rfl,⟨by show(out++[_]).length<=i+1;rw[ABA,ABX];omega,.inr ⟨rfl,λw hw=>hs w (AAM _ (by rwa[h4]at hw))⟩⟩,?_⟩;have hb:(y.1==x0)=false:=ADg
    simp only[dM,ABE,hb,ABS,Bool.true_or,ABi,AB3])
  n ADF (([]:AAD),false) ⟨OF,.inl ⟨rfl,by simpa using hx⟩⟩
 unfold UN;grind
section
variable {α β γ δ:Type}
theorem YO{f:α->Option (α⊕γ)}{g:β->Option (β⊕δ)}(R:α->β->Prop)(S:γ->δ->Prop)(μ:α->Nat)
  (h:∀x y,R x y->(∃z w,f x=some (.inr z)/\g y=some (.inr w)/\S z w)\/(∃x' y',f x=some (.inl x')/\g y=some (.inl y')/\R x' y'/\μ x'<μ x)):
  ∀n x y,R x y->μ x<n->∃z w,S z w/\iter n f x=some z/\iter n g y=some w:=by
 intro n
 induction n with
 |zero=>omega
 |succ n ih=>
  intro x y hR hn;rcases h x y hR with⟨z,w,h1,h2,h3⟩|⟨x',y',h1,h2,h3,h4⟩
  ·exact⟨z,w,h3,Pw h1 n,Pw h2 n⟩
  ·obtain⟨z,w,h5,h6,h7⟩:=ih x' y' h3 J;exact⟨z,w,h5,(RO h1 n).trans h6,(RO h2 n).trans h7⟩
theorem du{f:α->Option (α⊕γ)}{g:β->Option (β⊕δ)}(R:α->β->Prop)(S:γ->δ->Prop)(μ:α->Nat)
  (h:∀x y,R x y->(∃z w,f x=some (.inr z)/\g y=some (.inr w)/\S z w)\/(∃x' y',f x=some (.inl x')/\g y=some (.inl y')/\R x' y'/\μ x'<μ x)):
  ∀n n' x y,R x y->μ x<n->μ x<n'->∃z w,S z w/\iter n f x=some z/\iter n' g y=some w:=by
 intro n
 induction n with
 |zero=>omega
 |succ n ih=>
  intro n' x y hR hn yZ;obtain⟨n',rfl⟩:∃k,n'=k+1:=⟨n'-1,J⟩;rcases h x y hR with⟨z,w,h1,h2,h3⟩|⟨x',y',h1,h2,h3,h4⟩
  ·exact⟨z,w,h3,Pw h1 n,Pw h2 n'⟩
  ·obtain⟨z,w,h5,h6,h7⟩:=ih n' x' y' h3 J J;exact⟨z,w,h5,(RO h1 n).trans h6,(RO h2 n').trans h7⟩
theorem XY{f:α->Option (α⊕γ)}(R:α->Prop)(S:γ->Prop)(μ:α->Nat)
  (h:∀x,R x->(∃z,f x=some (.inr z)/\S z)\/(∃x',f x=some (.inl x')/\R x'/\μ x'<μ x)):
  ∀n x,R x->μ x<n->∃z,S z/\iter n f x=some z:=by
 intro n
 induction n with
 |zero=>omega
 |succ n ih=>
  intro x hR hn;rcases h x hR with⟨z,h1,h3⟩|⟨x',h1,h3,h4⟩
  ·exact⟨z,h3,Pw h1 n⟩
  ·obtain⟨z,h5,h6⟩:=ih x' h3 J;exact⟨z,h5,(RO h1 n).trans h6⟩
end
section
variable {α:Type}{l:List α}{k:Nat}{y z:α}
def hole(l:List α)(k:Nat)(z:α):List α:=l.take k++z::l.drop k
theorem SF(h:k<=l.length):(hole l k z).length=l.length+1:=by simp[hole];omega
theorem bL(h:l[k]?=some y):(hole l (k+1) z)[k]?=some y:=by obtain⟨hk,e⟩:=AAK.1 h;unfold hole;grind
theorem ba(h:l[k]?=some y):(hole l (k+1) z).set (k+1) y=hole l k y:=by obtain⟨hk,e⟩:=AAK.1 h;unfold hole;rw[AB9 _ _ ADJ];rw[show k+1-(l.take (k+1)).length=0 by simp;omega,List.set_cons_zero,ABb hk,e,ABi,ABg hk,e];rfl
theorem Zx(h:k<=l.length)(x:α):(hole l k z).set k x=hole l k x:=by
 unfold hole;rw[AB9 _ _ ADJ,show k-(l.take k).length=0 by simp;omega,List.set_cons_zero]
theorem dq(x:α):(hole l k x).Perm (x::l):=by unfold hole;have:=List.perm_middle (a:=x) (l₁:=l.take k) (l₂:=l.drop k);rwa[AB2]at this
theorem aa{R:α->α->Prop}(htr:∀a b c,R a b->R b c->R a c)(hl:l.Pairwise R)(hk:k<=l.length){x:α}(h1:∀y∈l.drop k,R x y)(h2:∀y,l[k-1]?=some y->0<k->R y x):(hole l k x).Pairwise R:=by
 have zj:=hl;rw[<-AB2 k l,ABe]at zj;obtain⟨p1,p2,p3⟩:=zj;unfold hole;rw[ABe]
 have hx:∀a∈l.take k,R a x:=by
  intro a ha;obtain⟨j,hj,e⟩:=ABV.1 ha;have hj2:j<k/\j<l.length:=by simp at hj;omega
  have e2:l[j]=a:=by rw[<-e];simp
  have zO:k-1<l.length:=J
  have xe:=h2 l[k-1] (AAI zO) J;by_cases hjk:j=k-1
  ·subst hjk;rw[<-e2];exact xe
  ·have:=ABL.1 hl j (k-1) hj2.2 zO J;rw[<-e2];exact htr _ _ _ this xe
 refine⟨p1,ABf.2 ⟨h1,p2⟩,λa ha b hb=>?_⟩;grind
end
theorem fR(L:Int×By->Option ((Int×By)⊕(Int×By)))(lt:Int->Bool)(l:By)
  (hgo:∀k y z,l[k]?=some y->lt y=true->L (((k+1:Nat):Int),hole l (k+1) z)=some (.inl ((k:Int),hole l k y)))
  (hstop:∀k y z,l[k]?=some y->lt y=false->L (((k+1:Nat):Int),hole l (k+1) z)=some (.inr (((k+1:Nat):Int),hole l (k+1) z)))
  (hend:∀z,L (0,hole l 0 z)=some (.inr (0,hole l 0 z))) (n:Nat) (hn:l.length<n) (x:Int):
  ∃(k:Nat) (z:Int),iter n L ((l.length:Int),l++[x])=some ((k:Int),hole l k z)/\k<=l.length/\(∀y∈l.drop k,lt y=true)/\(∀y,l[k-1]?=some y->0<k->lt y=false):=by
 have:=XY (f:=L) (λs=>∃(k:Nat) (z:Int),s=((k:Int),hole l k z)/\k<=l.length/\∀y∈l.drop k,lt y=true)
  (λs=>∃(k:Nat) (z:Int),s=((k:Int),hole l k z)/\k<=l.length/\(∀y∈l.drop k,lt y=true)/\(∀y,l[k-1]?=some y->0<k->lt y=false)) (λs=>s.1.toNat) (λs hs=>by
   obtain⟨k,z,rfl,hk,hd⟩:=hs;cases k with
   |zero=>exact .inl ⟨_,hend z,0,z,rfl,hk,hd,λ_ _ h=>absurd h OF⟩
   |succ k=>
    have vh:k<l.length:=J
    have hg:l[k]?=some l[k]:=AAI vh;cases uR:lt l[k]with
    |true=>
     refine .inr ⟨_,hgo k l[k] z hg uR,⟨k,l[k],rfl,J,λy hy=>?_⟩,OF⟩;rw[ABg vh]at hy;rcases AAf.1 hy with rfl|hy
     ·exact uR
     ·exact hd y hy
    |false=>
     refine .inl ⟨_,hstop k l[k] z hg uR,k+1,z,rfl,hk,hd,λy hy _=>?_⟩;rw[Nat.add_sub_cancel,hg]at hy;injection hy with hy
     subst hy;exact uR) n ((l.length:Int),l++[x]) ⟨l.length,x,by simp[hole],AAb _,OF⟩ (by simpa using hn)
 grind
structure Ord(lt:Int->Int->Bool)(xs:By):Prop where
 si:∀x,lt x x=false
 tr:∀x y z,lt x y=true->lt y z=true->lt x z=true
 Rf:∀x∈xs,∀y∈xs,x≠y->lt x y=true\/lt y x=true
theorem ZF{lt:Int->Int->Bool}{xs a b:By}(ho:Ord lt xs)(ha:a.Pairwise λx y=>lt x y=true)(hb:b.Pairwise λx y=>lt x y=true)(pa:a.Perm xs)(pb:b.Perm xs):a=b:=
 List.Perm.eq_of_pairwise (le:=λx y=>lt x y=true) (λx y _ _ h1 h2=>by
  have:=ho.tr x y x h1 h2;rw[ho.si]at this;cases this) ha hb (pa.trans pb.symm)
theorem b8(L:By×Int->Option ((By×Int)⊕(By×Int)))(lt:Int->Int->Bool)(xs:By)(vd:xs.Nodup)(ho:Ord lt xs)
  (hstep:∀(i:Nat)(x:Int)(l:By),xs[i]?=some x->l.length=i->l.length<xs.length->(∀y∈l,y∈xs)->∃k≤l.length,L (l,(i:Int))=some (.inl (hole l k x,((i+1:Nat):Int)))/\(∀y∈l.drop k,lt x y=true)/\(∀y,l[k-1]?=some y->0<k->lt x y=false))
  (hend:∀l,L (l,(xs.length:Int))=some (.inr (l,(xs.length:Int)))) (n:Nat) (hn:xs.length<n):
  ∃l,iter n L ([],0)=some (l,(xs.length:Int))/\l.Perm xs/\l.Pairwise λx y=>lt x y=true:=by
 have:=XY (f:=L) (λs=>∃(i:Nat),s.2=(i:Int)/\i<=xs.length/\s.1.Perm (xs.take i)/\s.1.Pairwise λx y=>lt x y=true)
  (λs=>s.2=(xs.length:Int)/\s.1.Perm xs/\s.1.Pairwise λx y=>lt x y=true) (λs=>xs.length-s.2.toNat) (λs hs=>by
   obtain⟨i,h1,h2,h3,h4⟩:=hs;obtain⟨l,j⟩:=s;dsimp only at h1 h3 h4;subst h1;by_cases hi:i=xs.length
   ·subst hi;rw[ABz]at h3;exact .inl ⟨_,hend l,rfl,h3,h4⟩
   ·have vw:i<xs.length:=J
    have hx:xs[i]?=some xs[i]:=AAI vw;have hlen:l.length=i:=by rw[h3.length_eq];simp;omega
    have xR:∀y∈l,y∈xs:=λy hy=>AB5 (h3.mem_iff.1 hy);obtain⟨k,hk,e,q1,q2⟩:=hstep i xs[i] l hx hlen J xR
    have hnx:xs[i]∉xs.take i:=λhm=>by
     obtain⟨j,hj,e⟩:=ABV.1 hm;have hj2:j<i:=by simp at hj;omega
     have:=ABL.1 vd j i J vw hj2;exact this (by rw[<-e];simp)
    refine .inr ⟨_,e,⟨i+1,rfl,J,?_,?_⟩,by show xs.length-((i+1:Nat):Int).toNat<xs.length-(i:Int).toNat;omega⟩
    ·rw[ABb vw];exact(dq _).trans ((h3.cons _).trans (List.perm_append_singleton _ _).symm)
    ·refine aa (R:=λx y=>lt x y=true) (λa b c=>ho.tr a b c) h4 hk q1 λy hy yi=>?_;have hm:y∈l:=AAN hy;have uV:y≠xs[i]:=λe=>hnx (e▸h3.mem_iff.1 hm);rcases ho.Rf y (xR y hm) xs[i] (ABT vw) uV with h|h
     ·exact h
     ·have:=q2 y hy yi;rw[h]at this;cases this) n ([],0) ⟨0,rfl,J,OF,List.Pairwise.nil⟩ (by simpa using hn)
 grind
section
open Go.Sort
theorem bJ(l:By)(k:Nat)(x:Int)(h:l[k]?=some x):l.toArray[k]! = x:=No
theorem lM{l r:By}{k:Nat}{x:Int}(hk:k<l.length):swp (hole l (k+1) x++r).toArray (k+1) k=(hole l k x++r).toArray:=by
 have hg:=AAI hk;have e1:(hole l (k+1) x++r).toArray[k]! = l[k]:=bJ _ _ _ (by rw[AA9 (by rw[SF J];omega),bL hg])
 have e2:(hole l (k+1) x++r).toArray[k+1]! = x:=bJ _ _ _ (by
  rw[AA9 (by rw[SF J];omega)];unfold hole;grind)
 unfold swp;rw[e1,e2,List.setIfInBounds_toArray,List.setIfInBounds_toArray];rw[List.set_append_left _ _ (by rw[SF J];omega),ba hg,List.set_append_left _ _ (by rw[SF J];omega),Zx J]
theorem bz(lt:Int->Int->Bool)(l r:By)(x:Int):∀k,k<=l.length->(∀y∈l.drop k,lt x y=true)->
  ∃k'≤l.length,insInner lt 0 k (hole l k x++r).toArray=(hole l k' x++r).toArray/\(∀y∈l.drop k',lt x y=true)/\(∀y,l[k'-1]?=some y->0<k'->lt x y=false)
 |0,h,hd=>⟨0,h,rfl,hd,λ_ _ h=>absurd h J⟩
 |k+1,h,hd=>by
  have hk:k<l.length:=J
  have hg:=AAI hk;have e1:(hole l (k+1) x++r).toArray[k]! = l[k]:=bJ _ _ _ (by rw[AA9 (by rw[SF J];omega),bL hg])
  have e2:(hole l (k+1) x++r).toArray[k+1]! = x:=bJ _ _ _ (by
   rw[AA9 (by rw[SF J];omega)];unfold hole;grind)
  unfold insInner;rw[e1,e2];cases uR:lt x l[k]with
  |false=>
   grind
  |true=>
   rw[AAP OF,lM hk];refine bz lt l r x k J λy hy=>?_;rw[ABg hk]at hy;grind
theorem af(lt:Int->Int->Bool)(xs:By)(vd:xs.Nodup)(ho:Ord lt xs):∀d i l,i+d=xs.length->l.Perm (xs.take i)->(l.Pairwise λx y=>lt x y=true)->
  ∃m:By,insOuter lt 0 xs.length i (l++xs.drop i).toArray=m.toArray/\m.Perm xs/\m.Pairwise λx y=>lt x y=true
 |0,i,l,h,hp,hs=>by
  have:i=xs.length:=J
  subst this;rw[insOuter,AAQ J,List.drop_length,AA1];grind
 |d+1,i,l,h,h3,h4=>by
  have vw:i<xs.length:=J
  have hlen:l.length=i:=by rw[h3.length_eq];simp;omega
  have xR:∀y∈l,y∈xs:=λy hy=>AB5 (h3.mem_iff.1 hy);rw[insOuter,AAP vw,ABg vw];obtain⟨k,hk,e,q1,q2⟩:=bz lt l (xs.drop (i+1)) xs[i] l.length (AAb _) OF;rw[show hole l l.length xs[i]++xs.drop (i+1)=l++xs[i]::xs.drop (i+1) by simp[hole],hlen]at e;rw[e]
  have hnx:xs[i]∉xs.take i:=λhm=>by
   obtain⟨j,hj,e⟩:=ABV.1 hm;have hj2:j<i:=by simp at hj;omega
   have:=ABL.1 vd j i J vw hj2;grind
  refine af lt xs vd ho d (i+1) _ J ?_ ?_
  ·rw[ABb vw];exact(dq _).trans ((h3.cons _).trans (List.perm_append_singleton _ _).symm)
  ·refine aa (R:=λx y=>lt x y=true) (λa b c=>ho.tr a b c) h4 hk q1 λy hy yi=>?_;have hm:y∈l:=AAN hy;have uV:y≠xs[i]:=λe=>hnx (e▸h3.mem_iff.1 hm);rcases ho.Rf y (xR y hm) xs[i] (ABT vw) uV with h|h
   all_goals grind
end
theorem lJ{lt:Int->Int->Option Bool}{xs:By}(hx:∀x∈xs,∀y∈xs,(lt x y).isSome=true)(ym:xs.length<=20)(vd:xs.Nodup)(ho:Ord (OX lt) xs):
  ∃l,Mg lt xs=some l/\l.Perm xs/\l.Pairwise λx y=>OX lt x y=true:=by
 unfold Mg;by_cases h1:xs.length<=1
 ·rw[ABW h1];refine⟨xs,rfl,.refl _,?_⟩
  match xs,h1 with
  | [],_=>exact .nil
  | [x],_=>simp
 ·rw[ABa h1,ABW ym]
  have vY:(xs.all λx=>xs.all λy=>(lt x y).isSome)=true:=by rw[AAW];intro x hx';rw[AAW];intro y xB;exact hx x hx' y xB
  rw[vY]
  match xs,h1,vd,ho with
  |x::r,h1,vd,ho=>
   obtain⟨m,e,p,q⟩:=af (OX lt) (x::r) vd ho r.length 1 [x] ADJ OF OF;refine⟨m,?_,p,q⟩;show some (Go.Sort.insertionSort (OX lt) (x::r).toArray 0 (x::r).length).toList=some m;unfold Go.Sort.insertionSort;grind
theorem YG(L:By×Int->Option ((By×Int)⊕(By×Int)))(xs:By)(P:Int->Bool)
  (hstep:∀(i:Nat)(x:Int)(out:By),xs[i]?=some x->i<xs.length->out.length<=i->L (out,(i:Int))=some (.inl ((bif P x then out++[x]else out),((i+1:Nat):Int))))
  (hend:∀out,L (out,(xs.length:Int))=some (.inr (out,(xs.length:Int)))) (n:Nat) (hn:xs.length<n):iter n L ([],0)=some (xs.filter P,(xs.length:Int)):=by
 obtain⟨z,h1,h2⟩:=XY (f:=L) (λs=>∃i≤xs.length,s=((xs.take i).filter P,(i:Int))) (λs=>s=(xs.filter P,(xs.length:Int))) (λs=>xs.length-s.2.toNat) (λs hs=>by
  obtain⟨i,hi,rfl⟩:=hs;by_cases hi2:i=xs.length
  ·grind
  ·have vw:i<xs.length:=J
   have hx:xs[i]?=some xs[i]:=AAI vw;have hlen:((xs.take i).filter P).length<=i:=AA2 (ABo _ _) ADJ;refine .inr ⟨_,hstep i _ _ hx vw hlen,⟨i+1,J,?_⟩,by show xs.length-((i+1:Nat):Int).toNat<xs.length-(i:Int).toNat;omega⟩;rw[ABb vw,ACJ];grind) n ([],0) ⟨0,J,OF⟩ J
 rw[h2,h1]
def Qc(w h i:Int):By:=(bif decide (i.tdiv w>0)then [i-w]else [])++(bif decide (i.tmod w>0)then [i-1]else [])++(bif decide (i.tmod w<w-1)then [i+1]else [])++(bif decide (i.tdiv w<h-1)then [i+w]else [])
structure Cell(w h i:Int):Prop where
 w1:1<=w
 w2:w<=10
 h1:1<=h
 h2:h<=10
 i1:0<=i
 i2:i<w*h
theorem lU(h1:1<=w)(h2:w<=10)(h3:1<=h)(h4:h<=10):w*h<=100:=by have:=Int.mul_le_mul h2 h4 J (by omega:(0:Int)<=10);omega
theorem fG{i:Int}(c:Cell w h i):∃q r,i=w*q+r/\0<=r/\r<w/\0<=q/\q<=h-1/\i.tdiv w=q/\i.tmod w=r/\0<=w*q/\w*q+w<=w*h:=by obtain⟨w1,w2,h1,h2,i1,i2⟩:=c;have e1:i.tdiv w=i / w:=Int.tdiv_eq_ediv_of_nonneg i1;have e2:i.tmod w=i%w:=Int.tmod_eq_emod_of_nonneg i1;have e3:=Int.mul_ediv_add_emod i w;have r1:=Int.emod_nonneg i (show w≠0 by omega);have r2:=Int.emod_lt_of_pos i (show 0<w by omega);have q1:0<=i / w:=Int.ediv_nonneg i1 J;have q2:i / w<h:=Int.ediv_lt_of_lt_mul J (by rw[Int.mul_comm];exact i2);refine⟨i / w,i%w,e3.symm,r1,r2,q1,J,e1,e2,Int.mul_nonneg J q1,?_⟩;have:=Int.mul_le_mul_of_nonneg_left (show i / w+1<=h by omega) (show(0:Int)<=w by omega);grind
theorem XN{i:Int}(c:Cell w h i):(∀y∈Qc w h i,0<=y/\y<w*h/\y≠i)/\(Qc w h i).Nodup/\(Qc w h i).length<=4:=by
 obtain⟨q,r,e,r1,r2,q1,q2,e1,e2,m1,m2⟩:=fG c;obtain⟨w1,w2,h1,h2,i1,i2⟩:=c;unfold Qc;rw[e1,e2]
 have g1:0<q->w<=w*q:=λh=>by have:=Int.mul_le_mul_of_nonneg_left (show(1:Int)<=q by omega) (show(0:Int)<=w by omega);omega
 have g2:q<h-1->w*q+w+w<=w*h:=λhq=>by have:=Int.mul_le_mul_of_nonneg_left (show q+1+1<=h by omega) (show(0:Int)<=w by omega);grind
 have G1:q<=0\/w<=w*q:=by
  by_cases hq:0<q
  ·omega
  ·omega
 have G2:h-1<=q\/w*q+w+w<=w*h:=by
  by_cases hq:q<h-1
  ·omega
  ·omega
 clear g1 g2;generalize w*q=m at *;generalize w*h=t at *;subst e;by_cases a1:q>0<;>by_cases a2:r>0<;>by_cases a3:r<w-1<;>by_cases a4:q<h-1<;>simp[a1,a2,a3,a4]<;>omega
theorem Zr{i:Int}(c:Cell w h i)(cs:By):To w h cs i=some (Qc w h i):=by
 obtain⟨q,r,e,r1,r2,q1,q2,e1,e2,m1,m2⟩:=fG c;obtain⟨w1,w2,h1,h2,i1,i2⟩:=c;have hb:=lU w1 w2 h1 h2;unfold To Qc;rw[e1,e2];rw[show(w==0)=false by rw[ABY];omega];simp only[ABS,PY (show -9223372036854775808<=q by omega) J,PY (show -9223372036854775808<=i-w by omega) J,PY (show -9223372036854775808<=i-1 by omega) J,PY (show -9223372036854775808<=i+1 by omega) J,PY (show -9223372036854775808<=i+w by omega) J,PY (show -9223372036854775808<=w-1 by omega) J,PY (show -9223372036854775808<=h-1 by omega) J];generalize decide (q>0)=b1;generalize decide (r>0)=b2;generalize decide (r<w-1)=b3;generalize decide (q<h-1)=b4;cases b1<;>cases b2<;>cases b3<;>cases b4<;>rfl
theorem dX:YK=To:=rfl
def PU(c:By)(i:Int):Int:=c.getD i.toNat 0
theorem Wc{i:Int}(h:0<=i/\i<(c.length:Int)):Iy c i=some (PU c i):=by obtain⟨m,rfl⟩:∃m:Nat,i=m:=⟨i.toNat,J⟩;rw[PS J];simp[PU,List.getD,AAI (show m<c.length by omega)]
structure jC(w h:Int)(c:By):Prop where
 w1:1<=w
 w2:w<=10
 h1:1<=h
 h2:h<=10
 len:(c.length:Int)=w*h
theorem jC.cell(f:jC w h c){i:Int}(hi:0<=i/\i<(c.length:Int)):Cell w h i:=⟨f.w1,f.w2,f.h1,f.h2,hi.1,f.len▸hi.2⟩
theorem jC.le(f:jC w h c):c.length<=100:=by have:=lU f.w1 f.w2 f.h1 f.h2;have:=f.len;omega
theorem TS(hf:Ph w h c=true):jC w h c:=by unfold Ph P8 at hf;simp only[AAJ,AAe,AAT]at hf;obtain⟨⟨⟨⟨a,b⟩,⟨d,e⟩⟩,g⟩,_⟩:=hf;have h1:=lU a b d e;have h2:0<=w*h:=Int.mul_nonneg J J;rw[PY J J]at g;exact⟨a,b,d,e,g⟩
def Rm(w h:Int)(c:By)(i:Int)(a:Bool):By:=(Qc w h i).filter λk=>PU c k != 0 && !(a&&PU c k==2)
theorem ZY(f:jC w h c){i:Int}(hi:0<=i/\i<(c.length:Int))(a:Bool):(∀y∈Rm w h c i a,(0<=y/\y<(c.length:Int))/\y≠i)/\(Rm w h c i a).Nodup/\(Rm w h c i a).length<=4:=by obtain⟨h1,h2,h3⟩:=XN (f.cell hi);refine⟨λy hy=>?_,h2.filter _,AA2 (ABo _ _) h3⟩;have:=h1 y (ABj.1 hy).1;rw[f.len];omega
theorem Zm(f:jC w h c){i:Int}(hi:0<=i/\i<(c.length:Int))(a:Bool)(n:Nat)(hn:Pa<=n):Vh n w h c i a=some (Rm w h c i a):=by
 obtain⟨h1,h2,h3⟩:=XN (f.cell hi)
 have:=YG (Un c a (Qc w h i)) (Qc w h i) (λk=>PU c k != 0 && !(a&&PU c k==2)) (λj x out hx hj ho=>by
  have hxm:=h1 x (AAN hx);have hm:decide (out.length+[x].length<=E8)=true:=by rw[AAe];simp[E8];omega
  simp only[Un,PX hj,ABU,hx,ABQ,Wc (c:=c) (i:=x) (by rw[f.len];exact⟨hxm.1,hxm.2.1⟩),PR hj J,ABR,hm];grind) (λout=>by simp[Un]) n ADF
 unfold Vh;rw[Zr (f.cell hi),ABQ,this];rfl
theorem ZT(f:jC w h c){i:Int}(hi:0<=i/\i<(c.length:Int))(a:Bool)(n:Nat)(hn:Pa<=n):Yj n w h c i a=some (Rm w h c i a):=by
 obtain⟨h1,h2,h3⟩:=XN (f.cell hi)
 have:=YG (Vz c a (Qc w h i)) (Qc w h i) (λk=>PU c k != 0 && !(a&&PU c k==2)) (λj x out hx hj ho=>by
  have hxm:=h1 x (AAN hx);have hm:decide (out.length+[x].length<=E8)=true:=by rw[AAe];simp[E8];omega
  simp only[Vz,PX hj,ABU,hx,ABQ,Wc (c:=c) (i:=x) (by rw[f.len];exact⟨hxm.1,hxm.2.1⟩),PR hj J,ABR,hm];grind) (λout=>by simp[Vz]) n ADF
 unfold Yj;rw[dX,Zr (f.cell hi),ABQ,this];rfl
structure FJ(N:Nat)(q out:By):Prop where
 len:out.length=N
 sj:∀y∈q,0<=y/\y<(N:Int)
 Mm:∀x∈out, -1<=x/\x<(q.length:Int)
 PF:q.length+out.countP (λx=>decide (x<0))=N
theorem TV{out:By}{v:Int}(h:0<=v/\v<(out.length:Int)):Oi out v=true/\out[v.toNat]?=some (PU out v)/\PU out v∈out:=by
 obtain⟨m,rfl⟩:∃m:Nat,v=m:=⟨v.toNat,J⟩;have hm:m<out.length:=J
 have e:PU out (m:Int)=out[m]:=by simp[PU,List.getD,AAI hm]
 refine⟨PX hm,?_,?_⟩
 all_goals grind
theorem FJ.pQ{N:Nat}{q out:By}(h:FJ N q out){v a:Int}(hv:0<=v/\v<(N:Int))(ha:0<=a/\a<(N:Int))(hneg:PU out v<0):FJ N (q++[v]) (out.set v.toNat (PU out a+1)):=by
 obtain⟨_,e1,_⟩:=TV (out:=out) (v:=v) (by rw[h.len];exact hv);obtain⟨_,_,m2⟩:=TV (out:=out) (v:=a) (by rw[h.len];exact ha);have hb:=h.Mm _ m2;obtain⟨vX,e2⟩:=AAK.1 e1;refine⟨by simp[h.len],λy hy=>?_,λx hx=>?_,?_⟩
 ·rcases ABG.1 hy with hy|hy
  ·exact h.sj y hy
  grind
 ·rcases List.mem_or_eq_of_mem_set hx with hx|rfl
  ·have:=h.Mm x hx;simp;omega
  grind
 ·have hc:=h.PF;grind
theorem kJ(w h:Int)(c:By)(N:Nat)(hN:N<=100)(a:Int)(ha:0<=a/\a<(N:Int))(nl:By)(wa:∀y∈nl,0<=y/\y<(N:Int))(hl4:nl.length<=4)(k:Nat)(n n':Nat)(hn:Pa<=n)(yZ:Pa<=n')(q out:By)(hk:k<=q.length)(hJ:FJ N q out):
  ∃q' out',iter n (RK a nl) (q,0,out)=some (q',(nl.length:Int),out')/\iter n' (Sa a nl) (q.drop k,0,out)=some (q'.drop k,(nl.length:Int),out')/\k<=q'.length/\FJ N q' out':=by
 obtain⟨z,w',⟨q',out',rfl,rfl,h1,h2⟩,h3,h4⟩:=du (f:=RK a nl) (g:=Sa a nl)
  (λx y=>∃(i:Nat) (q out:By),x=(q,(i:Int),out)/\y=(q.drop k,(i:Int),out)/\i<=nl.length/\k<=q.length/\FJ N q out)
  (λz w=>∃(q out:By),z=(q,(nl.length:Int),out)/\w=(q.drop k,(nl.length:Int),out)/\k<=q.length/\FJ N q out)
  (λx=>nl.length-x.2.1.toNat) (λx y hR=>by
   obtain⟨i,q,out,rfl,rfl,hi,hk,hJ⟩:=hR;by_cases hi2:i=nl.length
   ·subst hi2;exact .inl ⟨(q,(nl.length:Int),out),(q.drop k,(nl.length:Int),out),by simp[RK],by simp[Sa],q,out,rfl,rfl,hk,hJ⟩
   ·right;have vw:i<nl.length:=J
    have hv:=wa nl[i] (ABT vw);have hx:nl[i]?=some nl[i]:=AAI vw;generalize nl[i]=v at hv hx;obtain⟨v1,v2,v3⟩:=TV (out:=out) (v:=v) (by rw[hJ.len];exact hv);obtain⟨a1,a2,a3⟩:=TV (out:=out) (v:=a) (by rw[hJ.len];exact ha);have hd:decide ((i:Int)<(nl.length:Int))=true:=by simpa using vw
    have hq:q.length<=100:=by have:=hJ.PF;omega
    have hw:PV (PU out a+1)=PU out a+1:=by have:=hJ.Mm _ a3;exact PY J J
    by_cases hneg:PU out v<0
    ·refine⟨(q++[v],((i+1:Nat):Int),out.set v.toNat (PU out a+1)),((q++[v]).drop k,((i+1:Nat):Int),out.set v.toNat (PU out a+1)),?_,?_,⟨i+1,_,_,rfl,rfl,J,ADJ,hJ.pQ hv ha hneg⟩,by show nl.length-((i+1:Nat):Int).toNat<nl.length-(i:Int).toNat;omega⟩
     ·have hm:decide (q.length+[v].length<=E8)=true:=by rw[AAe];simp[E8];omega
      simp only[RK,hd,PX vw,ABU,hx,ABQ,v1,v2,a1,a2,ABW hneg,ABR,hm,hw,PR vw J,QH]
     ·have hm:decide ((q.drop k).length+[v].length<=E8)=true:=by rw[AAe];simp[E8];omega
      simp only[Sa,hd,PX vw,ABU,hx,ABQ,v1,v2,a1,a2,ABW hneg,ABR,hm,hw,PR vw J,QH];rw[List.drop_append_of_le_length hk]
    ·refine⟨(q,((i+1:Nat):Int),out),(q.drop k,((i+1:Nat):Int),out),?_,?_,⟨i+1,_,_,rfl,rfl,J,hk,hJ⟩,by show nl.length-((i+1:Nat):Int).toNat<nl.length-(i:Int).toNat;omega⟩
     ·simp only[RK,hd,PX vw,ABU,hx,ABQ,v1,v2,ABa hneg,ABR,ABS,PR vw J]
     ·simp only[Sa,hd,PX vw,ABU,hx,ABQ,v1,v2,ABa hneg,ABR,ABS,PR vw J]) n n' (q,0,out) (q.drop k,0,out) ⟨0,q,out,rfl,rfl,J,hk,hJ⟩ (by show nl.length-(0:Int).toNat<n;unfold Pa at hn;omega) (by show nl.length-(0:Int).toNat<n';unfold Pa at yZ;omega)
 grind
theorem gX(c:By)(hl:c.length<=100)(n:Nat)(hn:Pa<=n):iter n (SX c) ([],0)=some (List.replicate c.length (-1),(c.length:Int)):=by
 have:=P0 (SX c) (λi=>(List.replicate i (-1),(i:Int))) c.length (List.replicate c.length (-1),(c.length:Int)) (λi hi=>by
  have hm:decide ((List.replicate i (-1:Int)).length+[(-1:Int)].length<=E8)=true:=by rw[AAe];simp[E8];omega
  simp only[SX,hm,PR hi J];rw[show decide ((i:Int)<(c.length:Int))=true by simpa using hi];simp[ACE]) (by simp[SX]) n ADF
 grind
theorem gC(L:Int×By->Option ((Int×By)⊕(Int×By)))(N:Nat)(x:Int)(hL:∀(i:Nat)(out:By),i<N->out.length=N->L ((i:Int),out)=some (.inl (((i+1:Nat):Int),out.set i x)))(he:∀out,out.length=N->L ((N:Int),out)=some (.inr ((N:Int),out)))(n:Nat)(hn:N<n):
  iter n L (0,List.replicate N 0)=some ((N:Int),List.replicate N x):=by
 have:=P0 L (λi=>((i:Int),List.replicate i x++List.replicate (N-i) 0)) N ((N:Int),List.replicate N x) (λi hi=>by
  rw[hL i _ hi ADJ];congr 3;rw[AB9 _ _ OF,List.length_replicate,Nat.sub_self,ACE];rw[show N-i=(N-(i+1))+1 by omega,List.replicate_succ,List.set_cons_zero,ABi];rfl) (by rw[he _ OF];simp) n hn
 grind
theorem ay(c:By)(hl:c.length<=100)(n:Nat)(hn:Pa<=n):iter n (VL c) (0,List.replicate (Int.toNat (c.length:Int)) 0)=some ((c.length:Int),List.replicate c.length (-1)):=by rw[ABU];refine gC _ c.length (-1) (λi out hi ho=>?_) (λout ho=>by simp[VL]) n ADF;simp only[VL,PX (ho▸hi),PR hi J,QH,ABU,ABR,List.length_replicate];grind
theorem Zv(f:jC w h c){t:Int}(ht:0<=t/\t<(c.length:Int))(b:Bool)(n n':Nat)(hn:Pa<=n)(yZ:Pa<=n'):
  ∃F,TN n w h c t b=some F/\U2 n' w h c t b=some F/\F.length=c.length/\∀x∈F, -1<=x/\x<(c.length:Int):=by
 have hN:=f.le;have hB:1048576<=n:=AA2 ADP hn;have hB':1048576<=n':=AA2 ADP yZ
 have hJ0:FJ c.length [t] ((List.replicate c.length (-1)).set t.toNat 0):=by
  have hr:∀x∈List.replicate c.length (-1:Int),x = -1:=λx hx=>(List.mem_replicate.1 hx).2;have htl:t.toNat<(List.replicate c.length (-1:Int)).length:=ADJ
  refine⟨OF,λy hy=>No,λx hx=>?_,?_⟩
  ·grind
  ·rw[List.countP_set htl];have:(List.replicate c.length (-1:Int)).countP (λx=>decide (x<0))=c.length:=by rw[List.countP_replicate];simp
   grind
 obtain⟨z,w',⟨F,hz,hw,h1,h2⟩,h3,h4⟩:=du (f:=SY n w h c t b) (g:=Td n' w h c t b)
  (λx y=>∃(k:Nat) (q out:By),x=(q,(k:Int),out)/\y=(q.drop k,out)/\k<=q.length/\FJ c.length q out)
  (λz w=>∃F,z.2.2=F/\w.2=F/\F.length=c.length/\∀x∈F, -1<=x/\x<(c.length:Int))
  (λx=>c.length-x.2.1.toNat) (λx y hR=>by
   obtain⟨k,q,out,rfl,rfl,hk,hJ⟩:=hR;have hq:q.length<=c.length:=by have:=hJ.PF;omega
   by_cases hk2:k=q.length
   ·subst hk2;refine .inl ⟨(q,(q.length:Int),out),([],out),by simp[SY],by simp[Td],out,rfl,rfl,hJ.len,λx hx=>?_⟩;have:=hJ.Mm x hx;omega
   ·right;have vh:k<q.length:=J
    have hx:q[k]?=some q[k]:=AAI vh;have hv:=hJ.sj q[k] (ABT vh);have hdc:q.drop k=q[k]::q.drop (k+1):=ABg vh;generalize q[k]=v at hx hv hdc;have hd:decide ((k:Int)<(q.length:Int))=true:=by simpa using vh
    have yM:decide (((q.drop k).length:Int)>0)=true:=by rw[AAe];simp;omega
    have vS:sub (q.drop k) (Int.toNat 1) (Int.toNat ((q.drop k).length:Int))=q.drop (k+1):=by rw[hdc];simp[sub,AB0]
    have hrng:(decide ((0:Nat)<=1)&&decide ((1:Int)<=((q.drop k).length:Int))&&decide (((q.drop k).length:Int)<=((q.drop k).length:Int)))=true:=ADJ
    have h0:(q.drop k)[Int.toNat 0]?=some v:=by rw[hdc];rfl
    have yh:Oi (q.drop k) 0=true:=by rw[hdc];exact PX (i:=0) OF
    have hwk:=PR vh J;have hkc:=Wc (c:=c) (i:=v) (by exact hv);by_cases hskip:(b&&v != t&&PU c v==2)=true
    ·refine⟨(q,((k+1:Nat):Int),out),(q.drop (k+1),out),?_,?_,⟨k+1,q,out,rfl,rfl,J,hJ⟩,No⟩
     ·simp only[SY,hd,PX vh,ABU,hx,ABQ,ABR,hkc,hwk];grind
     ·simp only[Td,yM,yh,h0,ABQ,ABR,hrng,hkc,vS];grind
    ·obtain⟨n1,n2,n3⟩:=ZY f hv false;obtain⟨q',out',e1,e2,e3,e4⟩:=kJ w h c c.length hN v hv (Rm w h c v false) (λy hy=>(n1 y hy).1) n3 (k+1) n n' hn yZ q out J hJ;refine⟨(q',((k+1:Nat):Int),out'),(q'.drop (k+1),out'),?_,?_,⟨k+1,q',out',rfl,rfl,e3,e4⟩,No⟩
     ·simp only[SY,hd,PX vh,ABU,hx,ABQ,ABR,hkc,hwk,Zm f hv false n hn,e1];grind
     ·simp only[Td,yM,yh,h0,ABQ,ABR,hrng,hkc,vS,ZT f hv false n' yZ,e2];grind) n n' ([t],0,(List.replicate c.length (-1)).set t.toNat 0) ([t],(List.replicate c.length (-1)).set t.toNat 0) ⟨0,[t],_,rfl,rfl,OF,hJ0⟩ J J
 have uO:Oi (List.replicate c.length (-1:Int)) t=true:=(TV No).1
 have hmr:(decide ((0:Int)<=(c.length:Int))&&decide ((c.length:Int)<=(E8:Int))&&decide ((c.length:Int)=(c.length:Int)))=true:=by
  have hm:(c.length:Int)<=(E8:Int):=by unfold E8;omega
  rw[ABW hm];simp
 refine⟨F,?_,?_,h1,h2⟩
 ·unfold TN;rw[gX c hN n hn,ABQ];dsimp only;rw[uO,QH,h3,<-hz];rfl
 ·unfold U2;rw[hmr,ay c hN n' yZ,ABR,ABQ];dsimp only;rw[uO,QH,h4,<-hw];rfl
theorem fL(f:jC w h c){t:Int}(ht:0<=t/\t<(c.length:Int))(b:Bool):
  ∃F,(∀n,Pa<=n->TN n w h c t b=some F/\U2 n w h c t b=some F)/\F.length=c.length/\∀x∈F, -1<=x/\x<(c.length:Int):=by
 obtain⟨F,h1,h2,h3,h4⟩:=Zv f ht b Pa Pa (AAb _) (AAb _);refine⟨F,λn hn=>⟨?_,?_⟩,h3,h4⟩
 ·obtain⟨G,g1,g2,_⟩:=Zv f ht b n Pa hn (AAb _);grind
 ·obtain⟨G,g1,g2,_⟩:=Zv f ht b Pa n (AAb _) hn;grind
theorem eW(a b c:Int):Pd a b c=some (decide (b<=a)&&decide (a<=c)):=by unfold Pd;grind
theorem bp(a b c:Int):Po a b c=some (decide (b<=a)&&decide (a<=c)):=by unfold Po;grind
def P6(t:Int×Int×Int×Int):Bool:=
 decide (1<=t.1)&&decide (t.1<=1000000)&&decide (1<=t.2.1)&&decide (t.2.1<=999)&&decide (1<=t.2.2.2)&&decide (t.2.2.2<=4)&&decide (0<=t.2.2.1)&&decide (t.2.2.1<=99)&&((t.2.2.1==0)==(t.2.2.2==1))
def Pu(t u:Int×Int×Int×Int):Bool:=
 (t.1==u.1&&t.2.1==u.2.1)||(!(t.2.2.2==1)&&(t.2.2.1==u.2.2.1||(t.2.1==u.2.1 && !(u.2.2.2==1))))
def RX:List (Int×Int×Int×Int)->List (Int×Int×Int×Int)->Bool
 |_,[]=>true
 |p,x::l=>P6 x&&p.all (λu => !Pu x u)&&RX (p++[x]) l
def Sk(l:List (Int×Int×Int×Int)):Bool:=decide (l.length<=60)&&RX [] l
theorem sub_zero(xs:List α)(i:Nat):sub xs (Int.toNat (0:Int)) (Int.toNat (i:Int))=xs.take i:=by simp[sub]
theorem gZ(x u:Int×Int×Int×Int)(i:Nat)(a:List (Int×Int×Int×Int))(k:Nat)(hk:k<(a.take i).length)(hu:(a.take i)[k]?=some u)(hm:a.length<=1048576):
  RA a i x k=some (bif Pu x u then .inr (.inr false)else .inl ((k+1:Nat):Int)):=by
 unfold RA;rw[sub_zero,TW,hu];have vh:decide ((k:Int)<((a.take i).length:Int))=true:=by simp only[AAe];omega
 rw[vh,ABR,PR hk ADJ];simp only[ABQ,Pu];grind
theorem hZ(x u:Int×Int×Int×Int)(i:Nat)(a:List (Int×Int×Int×Int))(k:Nat)(hk:k<i)(hu:a[k]?=some u)(hi:i<=a.length)(hm:a.length<=1048576):
  RI a i x k=some (bif Pu x u then .inr (.inr false)else .inl ((k+1:Nat):Int)):=by
 unfold RI;rw[TW,hu];have vh:decide ((k:Int)<(i:Int))=true:=by simp only[AAe];omega
 rw[vh,ABR,PR hk J];simp only[ABQ,Pu];grind
theorem gb(x:Int×Int×Int×Int)(i:Nat)(a:List (Int×Int×Int×Int))(hi:i<=a.length)(hm:a.length<=1048576)(n:Nat)(hn:Pa<=n):
  iter n (RA a i x) 0=some (bif(a.take i).all (λu => !Pu x u)then .inl (i:Int)else .inr false):=by
 have hl:(a.take i).length=i:=ADJ
 refine(WR (RA a i x) (a.take i) (λp l=>bif l.all (λu => !Pu x u)then .inl (i:Int)else .inr false) ?_ ?_ n ADF)
 ·unfold RA;rw[sub_zero,hl];simp[hl]
 ·intro k u l p h1 h2 h3 h4 h5;rw[gZ x u i a k h1 h2 hm];grind
theorem iA(x:Int×Int×Int×Int)(i:Nat)(a:List (Int×Int×Int×Int))(hi:i<=a.length)(hm:a.length<=1048576)(n:Nat)(hn:Pa<=n):
  iter n (RI a i x) 0=some (bif(a.take i).all (λu => !Pu x u)then .inl (i:Int)else .inr false):=by
 have hl:(a.take i).length=i:=ADJ
 refine(WR (RI a i x) (a.take i) (λp l=>bif l.all (λu => !Pu x u)then .inl (i:Int)else .inr false) ?_ ?_ n ADF)
 ·unfold RI;rw[hl];simp
 ·intro k u l p h1 h2 h3 h4 h5;have hk:k<i:=J
  rw[hZ x u i a k hk (by rw[List.getElem?_take_of_lt hk]at h2;exact h2) hi hm];grind
theorem jP(x:Int×Int×Int×Int):
  ((Po x.1 1 1000000).bind λ(x3:Bool)=>bif(!x3)then some true else(Po x.2.1 1 999).bind λ(x4:Bool)=>bif(!x4)then some true else(Po x.2.2.2 1 4).bind λ(x5:Bool)=>bif(!x5)then some true else
   bif((x.2.2.2==1) != (x.2.2.1==0))then some true else(Po x.2.2.1 0 99).bind λ(x6:Bool)=>some (!x6))=some (!P6 x):=by
 simp only[bp,ABQ,P6];grind
theorem js(x:Int×Int×Int×Int):
  ((Pd x.1 1 1000000).bind λ(x3:Bool)=>bif(!x3)then some true else(Pd x.2.1 1 999).bind λ(x4:Bool)=>bif(!x4)then some true else(Pd x.2.2.2 1 4).bind λ(x5:Bool)=>bif(!x5)then some true else
   (Pd x.2.2.1 0 99).bind λ(x6:Bool)=>bif(!x6)then some true else some ((x.2.2.1==0) != (x.2.2.2==1)))=some (!P6 x):=by
 simp only[eW,ABQ,P6]
 cases decide (1<=x.1)<;>cases decide (x.1<=1000000)<;>cases decide (1<=x.2.1)<;>cases decide (x.2.1<=999)<;>cases decide (1<=x.2.2.2)<;>cases decide (x.2.2.2<=4)<;>simp <;>
  cases(x.2.2.2==1)<;>cases(x.2.2.1==0)<;>cases decide (0<=x.2.2.1)<;>cases decide (x.2.2.1<=99)<;>simp
theorem ax(a:List (Int×Int×Int×Int))(hm:a.length<=1048576)(n:Nat)(hn:Pa<=n):Vx n a=some (Sk a):=by
 have key:iter n (Q9 n a) 0=some (bif RX [] a then .inl (a.length:Int)else .inr false):=by
  refine WR (Q9 n a) a (λp l=>bif RX p l then .inl (a.length:Int)else .inr false) ?_ ?_ n ADF
  ·unfold Q9;simp[RX]
  ·intro i x l p h1 h2 h3 h4 h5
   have e:Q9 n a i=some (bif P6 x&&p.all (λu => !Pu x u)then .inl ((i+1:Nat):Int)else .inr (.inr false)):=by
    unfold Q9;rw[show decide ((i:Int)<(a.length:Int))=true by grind,ABR,TW,h2];simp only[ABQ,jP,PR h1 J];cases hg:P6 x with
    |false=>simp
    |true=>
     rw[show(decide ((0:Int)<=(0:Int))&&decide ((0:Int)<=(i:Int))&&decide ((i:Int)<=(a.length:Int)))=true by simp;omega];rw[gb x i a J hm n hn,<-h5];grind
   rw[e];cases hg:(P6 x&&p.all λu => !Pu x u)with
   |true=>exact .inl ⟨OF,by simp[RX,hg]⟩
   |false=>exact .inr (by simp[RX,hg])
 unfold Vx;rw[key];cases h:RX [] a with
 |true=>simp[Sk,h];omega
 |false=>simp[Sk,h]
theorem X8(a:List (Int×Int×Int×Int))(hm:a.length<=1048576)(n:Nat)(hn:Pa<=n):Uk n a=some (Sk a):=by
 have key:iter n (RH n a) 0=some (bif RX [] a then .inl (a.length:Int)else .inr false):=by
  refine WR (RH n a) a (λp l=>bif RX p l then .inl (a.length:Int)else .inr false) ?_ ?_ n ADF
  ·unfold RH;simp[RX]
  ·intro i x l p h1 h2 h3 h4 h5
   have e:RH n a i=some (bif P6 x&&p.all (λu => !Pu x u)then .inl ((i+1:Nat):Int)else .inr (.inr false)):=by
    unfold RH;rw[show decide ((i:Int)<(a.length:Int))=true by grind,ABR,TW,h2];simp only[ABQ,js,PR h1 J];cases hg:P6 x with
    |false=>simp
    |true=>
     rw[iA x i a J hm n hn,<-h5];grind
   rw[e];cases hg:(P6 x&&p.all λu => !Pu x u)with
   |true=>exact .inl ⟨OF,by simp[RX,hg]⟩
   |false=>exact .inr (by simp[RX,hg])
 unfold Uk;rw[key];by_cases hl:a.length<=60
 ·rw[show decide ((a.length:Int)>60)=false by simp;omega];cases h:RX [] a with
  |true=>simp[Sk,h,hl]
  |false=>simp[Sk,h]
 ·rw[show decide ((a.length:Int)>60)=true by simp;omega];simp[Sk,hl]
def AS:List (Nat->Int)->Is->Int->Prop
 | [],_,x=>x=0
 |r::rs,S,x=>∃k∈S,∃y,AS rs (S.erase k) y/\x=r k+y
def ml(R:List (Nat->Int))(S:Is)(x:Int):Prop:=AS R S x/\∀y,AS R S y->x<=y
theorem ml.uniq{y:Int}(h1:ml R S x)(h2:ml R S y):x=y:=
 Int.le_antisymm (h1.2 y h2.1) (h2.2 x h1.1)
def Qs:By->Int
 | []=>0
 |x::l=>x+Qs l
theorem cZ:∀a b:By,Qs (a++b)=Qs a+Qs b
 | [],b=>by simp[Qs]
 |x::a,b=>by simp only[AA8,Qs,cZ a b];omega
theorem ZI(v:Nat->Int):∀(S:Is)(k:Nat),k∈S->Qs (S.map v)=v k+Qs ((S.erase k).map v)
 | [],k,h=>by cases h
 |a::S,k,h=>by
  by_cases e:a=k
  ·subst e;simp[Qs]
  ·have hk:k∈S:=by
    rcases AAf.1 h with h|h
    ·omega
    ·exact h
   have e2:(a==k)=false:=by simpa using e
   rw[List.erase_cons,e2];simp only[ABK,if_false,ABE,Qs,ZI v S k hk];omega
theorem gJ(v:Nat->Int):∀(S:Is),(∀k∈S,v k<=0)->Qs (S.map v)<=0
 | [],_=>by simp[Qs]
 |a::S,h=>by simp only[ABE,Qs];have:=gJ v S (λk hk=>h k (AAM _ hk));grind
theorem AS.ge(v:Nat->Int):∀(R:List (Nat->Int)) (u:By) (S:Is) (x:Int),u.length=R.length->(∀i (hi:i<R.length) (hu:i<u.length),∀k∈S,u[i]+v k<=R[i] k)->(∀k∈S,v k<=0)->AS R S x->Qs u+Qs (S.map v)<=x
 | [],u,S,x,hl,_,hv,hx=>by obtain rfl:u=[]:=AAO hl;have:=gJ v S hv;simp only[AS]at hx;simp only[Qs];omega
 |r::R,[],S,x,hl,_,_,_=>ADd
 |r::R,u0::u,S,x,hl,hc,hv,hx=>by
  obtain⟨k,hk,y,hy,rfl⟩:=hx
  have ih:=AS.ge v R u (S.erase k) y No (λi hi hu q hq=>by
   have:=hc (i+1) ADJ ADJ q (ABk hq);simpa using this) (λq hq=>hv q (ABk hq)) hy
  have h0:=hc 0 OF OF k hk;simp only[List.getElem_cons_zero]at h0;rw[ZI v S k hk];simp only[Qs];omega
theorem eF(f:Nat->Int):∀(S:Is),(∀k∈S,f k=0)->Qs (S.map f)=0
 | [],_=>rfl
 |a::S,h=>by simp only[ABE,Qs,eF f S (λk hk=>h k (AAM _ hk)),h a AAk];omega
theorem iG(f:Nat->Int):∀(cs S:Is),cs.Nodup->S.Nodup->(∀k∈cs,k∈S)->(∀k∈S,k∉cs->f k=0)->Qs (S.map f)=Qs (cs.map f)
 | [],S,_,_,_,h=>by rw[eF f S (λk hk=>h k hk OF)];rfl
 |k::cs,S,hn,hS,hs,h=>by
  obtain⟨h1,h2⟩:=AAc.1 hn;rw[ZI f S k (hs k AAk),iG f cs (S.erase k) h2 (hS.erase k) (λq hq=>?_) (λq hq hc=>?_)]
  ·rfl
  all_goals grind
theorem Za:∀(a b:Is),a.Nodup->(∀x∈a,x∈b)->a.length<=b.length
 | [],_,_,_=>OF
 |x::a,b,hn,hs=>by obtain⟨h1,h2⟩:=AAc.1 hn;have hx:=hs x AAk;have:=Za a (b.erase x) h2 (λq hq=>(List.mem_erase_of_ne (λe:q=x=>h1 (e▸hq))).2 (hs q (AAM _ hq)));grind
def jd:List (Nat->Int)->Is->Int
 |r::rs,k::ks=>r k+jd rs ks
 |_,_=>0
theorem AS.of:∀(R:List (Nat->Int)) (cs:Is) (S:Is),cs.length=R.length->cs.Nodup->(∀k∈cs,k∈S)->AS R S (jd R cs)
 | [],[],S,_,_,_=>rfl
 | [],c::cs,S,hl,_,_=>ADd
 |r::R,[],S,hl,_,_=>ADd
 |r::R,k::cs,S,hl,hn,hs=>by obtain⟨h1,h2⟩:=AAc.1 hn;refine⟨k,hs k AAk,jd R cs,AS.of R cs (S.erase k) ADi h2 (λq hq=>?_),rfl⟩;grind
def eR:Option Int->Option Int->Option Int
 |none,b=>b
 |some x,none=>some x
 |some x,some y=>some (if y<x then y else x)
theorem l7{a:Option Int}(h:eR a b=some x):a=some x\/b=some x:=by
 cases a with
 |none=>exact .inr h
 |some y=>cases b with
  |none=>exact .inl h
  |some z=>
   simp only[eR,Option.some.injEq]at h;grind
theorem nD{a:Option Int}{y:Int}(h:a=some y):∃z,eR a b=some z/\z<=y:=by
 subst h;cases b with
 |none=>exact⟨y,rfl,ACF _⟩
 |some z=>exact⟨_,rfl,J⟩
theorem nE{a:Option Int}{y:Int}(h:b=some y):∃z,eR a b=some z/\z<=y:=by
 subst h;cases a with
 |none=>exact⟨y,rfl,ACF _⟩
 |some z=>exact⟨_,rfl,J⟩
theorem Z5(g:Nat->Option Int):∀(l:Is)(b:Option Int),
  (∀x,l.foldl (λb k=>eR b (g k)) b=some x->b=some x\/∃k∈l,g k=some x)/\
  (∀y,b=some y->∃x,l.foldl (λb k=>eR b (g k)) b=some x/\x<=y)/\
  (∀k∈l,∀y,g k=some y->∃x,l.foldl (λb k=>eR b (g k)) b=some x/\x<=y)
 | [],b=>⟨λx h=>.inl h,λy h=>⟨y,h,ACF _⟩,λk hk=>by cases hk⟩
 |k::l,b=>by
  obtain⟨i1,i2,i3⟩:=Z5 g l (eR b (g k));simp only[List.foldl_cons];refine⟨λx hx=>?_,λy hy=>?_,λq hq y hy=>?_⟩
  ·rcases i1 x hx with h|⟨q,hq,e⟩
   ·rcases l7 h with h|h
    ·exact .inl h
    ·exact .inr ⟨k,AAk,h⟩
   grind
  ·obtain⟨z,h1,h2⟩:=nD (b:=g k) hy;grind
  ·rcases AAf.1 hq with rfl|hq
   ·obtain⟨z,h1,h2⟩:=nE (a:=b) hy;obtain⟨x,h3,h4⟩:=i2 z h1;exact⟨x,h3,J⟩
   grind
def aW:List (Nat->Int)->Is->Option Int
 | [],_=>some 0
 |r::rs,S=>S.foldl (λb k=>eR b ((aW rs (S.erase k)).map λy=>r k+y)) none
theorem Sn:∀(R:List (Nat->Int)) (S:Is),(∀x,aW R S=some x->ml R S x)/\(∀y,AS R S y->∃x,aW R S=some x/\x<=y)
 | [],S=>⟨λx h=>by
   simp only[aW,Option.some.injEq]at h;subst h;exact⟨rfl,λy hy=>by simp only[AS]at hy;omega⟩,λy hy=>⟨0,rfl,by simp only[AS]at hy;omega⟩⟩
 |r::R,S=>by
  obtain⟨f1,_,f3⟩:=Z5 (λk=>(aW R (S.erase k)).map λy=>r k+y) S none
  have up:∀y,AS (r::R) S y->∃x,aW (r::R) S=some x/\x<=y:=by
   rintro _ ⟨k,hk,y,hy,rfl⟩
   obtain⟨x,h1,h2⟩:=(Sn R (S.erase k)).2 y hy;obtain⟨z,h3,h4⟩:=f3 k hk (r k+x) (by rw[h1];rfl);exact⟨z,h3,J⟩
  refine⟨λx hx=>⟨?_,λy hy=>?_⟩,up⟩
  ·rcases f1 x hx with h|⟨k,hk,e⟩
   ·cases h
   ·cases hb:aW R (S.erase k)with
    |none=>rw[hb]at e;cases e
    |some y=>
     rw[hb]at e;simp only[AA0,Option.some.injEq]at e;exact⟨k,hk,y,((Sn R (S.erase k)).1 y hb).1,e.symm⟩
  grind
theorem iL(h:ml R S x):aW R S=some x:=by obtain⟨y,h1,h2⟩:=(Sn R S).2 x h.1;rw[h1,((Sn R S).1 y h1).uniq h]
theorem mr(R:List (Nat->Int))(S:Is)(hn:S.Nodup)(hl:R.length<=S.length):∃x,aW R S=some x:=by obtain⟨x,h,_⟩:=(Sn R S).2 _ (AS.of R (S.take R.length) S ADJ (hn.sublist (List.take_sublist _ _)) (λk hk=>AB5 hk));grind
theorem gR(h:aW R S=some x)(hc:∀r∈R,∀k∈S,0<=r k):0<=x:=by
 induction R generalizing S x with
 |nil=>simp only[aW,Option.some.injEq]at h;omega
 |cons r R ih=>
  obtain⟨⟨k,hk,y,hy,rfl⟩,_⟩:=(Sn _ _).1 x h;obtain⟨z,h1,h2⟩:=(Sn R (S.erase k)).2 y hy;have:=ih h1 (λr hr q hq=>hc r (AAM _ hr) q (ABk hq));have:=hc r AAk k hk;omega
theorem mu{M:Int}(h:aW R S=some x)(hM:0<=M)(hc:∀r∈R,∀k∈S,r k<=M):x<=M*R.length:=by
 induction R generalizing S x with
 |nil=>simp only[aW,Option.some.injEq]at h;simp;omega
 |cons r R ih=>
  obtain⟨⟨k,hk,y,hy,rfl⟩,_⟩:=(Sn _ _).1 x h;obtain⟨z,h1,h2⟩:=(Sn R (S.erase k)).2 y hy;have hl:=((Sn _ _).1 _ h).2 (r k+z) ⟨k,hk,z,((Sn _ _).1 z h1).1,rfl⟩;have i:=ih h1 (λr hr q hq=>hc r (AAM _ hr) q (ABk hq));have:=hc r AAk k hk;rw[ABD,Int.natCast_add,Int.mul_add];omega
def pk:List (Nat->Int)->Is->Is
 | [],_=>[]
 |r::rs,S=>match S.find? λk=>(aW rs (S.erase k)).map (λy=>r k+y)==aW (r::rs) S with
  |some k=>k::pk rs (S.erase k)
  |none=>[]
theorem iW{r:Nat->Int}(h:aW (r::R) S=some x):∃k∈S,(S.find? λk=>(aW R (S.erase k)).map (λy=>r k+y)==aW (r::R) S)=some k/\∃y,aW R (S.erase k)=some y/\x=r k+y:=by
 obtain⟨f1,_,_⟩:=Z5 (λk=>(aW R (S.erase k)).map λy=>r k+y) S none;rcases f1 x h with h2|⟨k,hk,e⟩
 ·cases h2
 cases hf:S.find? λk=>(aW R (S.erase k)).map (λy=>r k+y)==aW (r::R) S with
 |none=>
  grind
 |some q=>
  have hq:=List.find?_some hf;refine⟨q,ABn hf,rfl,?_⟩;rw[h]at hq;cases hb:aW R (S.erase q)with
  |none=>grind
  |some y=>
   grind
theorem me:∀(R:List (Nat->Int)) (S:Is),S.Nodup->R.length<=S.length->(pk R S).length=R.length/\(pk R S).Nodup/\∀k∈pk R S,k∈S
 | [],S,_,_=>by simp[pk]
 |r::R,S,hn,hl=>by
  obtain⟨x,hx⟩:=mr (r::R) S hn hl;obtain⟨k,hk,hf,_⟩:=iW hx;have hle:(S.erase k).length=S.length-1:=List.length_erase_of_mem hk;obtain⟨i1,i2,i3⟩:=me R (S.erase k) (hn.erase k) (by simp at hl;omega);have e:pk (r::R) S=k::pk R (S.erase k):=by simp only[pk,hf]
  grind
structure HF(C:Nat->Nat->Int)(n m:Nat)(u v:Nat->Int):Prop where
 kI:∀r j,1<=r->r<=n->1<=j->j<=m->u r+v j<=C r j
 nM:∀j,1<=j->j<=m->v j<=0
 pf:∀r,1<=r->r<=n->0<=u r
structure HM(m i:Nat)(w:Nat->Int):Prop where
 dN:∀j,1<=j->j<=m->0<=w j/\w j<(i:Int)
 inj:∀j k,1<=j->j<=m->1<=k->k<=m->w j=w k->0<w j->j=k
 nR:∀r:Nat,1<=r->r<i->∃j,1<=j/\j<=m/\w j=(r:Int)
structure HT(C:Nat->Nat->Int)(m:Nat)(u v w:Nat->Int):Prop where
 tight:∀j (r:Nat),1<=j->j<=m->1<=r->w j=(r:Int)->u r+v j=C r j
 free:∀j,1<=j->j<=m->w j=0->v j=0
theorem HM.open{w:Nat->Int}(h:HM m i w)(h1:1<=i)(hi:i<=m):∃j,1<=j/\j<=m/\w j=0:=by
 refine AAl λyO=>?_
 have hp:∀j,1<=j->j<=m->0<w j:=λj a b=>by have:=(h.dN j a b).1;grind
 have:=Za ((List.range m).map λk=>(w (k+1)).toNat) (List.range' 1 (i-1)) ?_ ?_
 ·grind
 ·unfold List.Nodup;rw[ABh];refine AB8 (fun {a b} ha hb hab e=>?_) (List.pairwise_lt_range (n:=m));rw[AAX]at ha hb;have p1:=hp (a+1) J J;have p2:=hp (b+1) J J;have:=h.inj (a+1) (b+1) J J J J J p1;omega
 ·intro x hx;obtain⟨k,hk,rfl⟩:=AAs.1 hx;rw[AAX]at hk;have p1:=hp (k+1) J J;have p2:=(h.dN (k+1) J J).2;grind
theorem HF.Mm{n:Nat}{w:Nat->Int}(hf:HF C n m u v)(ht:HT C m u v w)(hm:HM m i w)(h1:1<=i)(hi:i<=m)(uO:i<=n){M:Int}(hC:∀r j,1<=r->r<=n->1<=j->j<=m->0<=C r j/\C r j<=M):
  (∀r,1<=r->r<=n->0<=u r/\u r<=M)/\∀j,1<=j->j<=m -> -M<=v j/\v j<=0:=by
 obtain⟨f,f1,f2,f3⟩:=hm.open h1 hi
 have hu:∀r,1<=r->r<=n->0<=u r/\u r<=M:=λr a b=>by have:=hf.kI r f a b f1 f2;rw[ht.free f f1 f2 f3]at this;have:=(hC r f a b f1 f2).2;exact⟨hf.pf r a b,J⟩
 refine⟨hu,λj a b=>⟨?_,hf.nM j a b⟩⟩;obtain⟨q1,q2⟩:=hm.dN j a b;by_cases h0:w j=0
 ·rw[ht.free j a b h0];grind
 ·have:=ht.tight j (w j).toNat a b J J;grind
def Ch(P:Nat->Nat->Prop):Is->Prop
 | []=>True
 |a::l=>(a=0/\l=[])\/(1<=a/\(∃x∈l,P a x)/\Ch P l)
theorem Ch.mono{P Q:Nat->Nat->Prop}:∀ {l:Is},(∀a x,a∈l->x∈l->P a x->Q a x)->Ch P l->Ch Q l
 | [],_,_=>trivial
 |a::l,h,hc=>by
  rcases hc with hc|⟨h1,⟨x,hx,hP⟩,h3⟩
  ·exact .inl hc
  ·exact .inr ⟨h1,⟨x,hx,h a x AAk (AAM _ hx) hP⟩,Ch.mono (λa x ha hx=>h a x (AAM _ ha) (AAM _ hx)) h3⟩
theorem Ch.tail{P:Nat->Nat->Prop}{a:Nat}{l:Is}(h:Ch P (a::l)):Ch P l:=by
 rcases h with⟨_,h⟩|⟨_,_,h⟩
 ·rw[h];trivial
 ·exact h
theorem Ch.drop{P:Nat->Nat->Prop}{l:Is}:∀ {p:Is},Ch P (p++l)->Ch P l
 | [],h=>h
 |a::p,h=>Ch.drop (p:=p) (Ch.tail h)
def Fr(C:Nat->Nat->Int)(u v w fr:Nat->Int)(a x:Nat):Prop:=fr a=(x:Int)/\∃r:Nat,1<=r/\w x=(r:Int)/\u r+v a=C r a
structure HG(C:Nat->Nat->Int)(n m:Nat)(u v w ls fr:Nat->Int)(Q:Is)(j0:Nat):Prop where
 hf:HF C n m u v
 ht:HT C m u v w
 pq:j0<=m
 nd:(j0::Q).Nodup
 qm:∀j∈Q,j<=m
 qp:∀j∈Q,1<=w j
 ch:Ch (Fr C u v w fr) (j0::Q)
 l1:∀j,1<=j->j<=m->j∉Q->∀b∈Q,∀r:Nat,w b=(r:Int)->ls j<=C r j-u r-v j
 l2:Q=[]\/∀j,1<=j->j<=m->j∉Q->∃b∈Q,fr j=(b:Int)/\∃r:Nat,1<=r/\w b=(r:Int)/\ls j=C r j-u r-v j
structure HS(C:Nat->Nat->Int)(n m:Nat)(u v w ls fr:Nat->Int)(Q:Is):Prop where
 hf:HF C n m u v
 ht:HT C m u v w
 nd:Q.Nodup
 qm:∀j∈Q,j<=m
 qp:∀j∈Q,1<=w j
 ch:Ch (Fr C u v w fr) Q
 l1:∀j,1<=j->j<=m->j∉Q->∀b∈Q,∀r:Nat,w b=(r:Int)->ls j<=C r j-u r-v j
 l2:∀j,1<=j->j<=m->j∉Q->∃b∈Q,fr j=(b:Int)/\∃r:Nat,1<=r/\w b=(r:Int)/\ls j=C r j-u r-v j
theorem HG.scan{C:Nat->Nat->Int}{n m:Nat}{u v w ls fr ye fr':Nat->Int}{Q:Is}{j0:Nat}(h:HG C n m u v w ls fr Q j0){i0:Nat}(hi:1<=i0)(hw:w j0=(i0:Int))
  (hfar:Q=[]->∀j,1<=j->j<=m->C i0 j-u i0-v j<ls j)
  (hused:∀j,j<=m->j∈j0::Q->fr' j=fr j)
  (hnew:∀j,1<=j->j<=m->j∉j0::Q->(C i0 j-u i0-v j<ls j/\ye j=C i0 j-u i0-v j/\fr' j=(j0:Int))\/(¬C i0 j-u i0-v j<ls j/\ye j=ls j/\fr' j=fr j)):
  HS C n m u v w ye fr' (j0::Q):=by
 refine⟨h.hf,h.ht,h.nd,λj hj=>?_,λj hj=>?_,?_,λj a b hj x hx r hr=>?_,λj a b hj=>?_⟩
 ·rcases AAf.1 hj with rfl|hj
  ·exact h.pq
  ·exact h.qm j hj
 ·rcases AAf.1 hj with rfl|hj
  ·omega
  ·exact h.qp j hj
 ·refine h.ch.mono λa x ha hx hP=>⟨?_,hP.2⟩;rw[hused a ?_ ha]
  ·exact hP.1
  ·rcases AAf.1 ha with rfl|ha
   ·exact h.pq
   ·exact h.qm a ha
 ·have hjQ:j∉Q:=λe=>hj (AAM _ e);rcases hnew j a b hj with⟨h1,h2,h3⟩|⟨h1,h2,h3⟩
  ·rcases AAf.1 hx with rfl|hx
   ·grind
   ·have:=h.l1 j a b hjQ x hx r hr;omega
  ·rcases AAf.1 hx with rfl|hx
   ·grind
   ·rw[h2];exact h.l1 j a b hjQ x hx r hr
 ·have hjQ:j∉Q:=λe=>hj (AAM _ e);rcases hnew j a b hj with⟨h1,h2,h3⟩|⟨h1,h2,h3⟩
  ·grind
  ·rcases h.l2 with e|e
   all_goals grind
theorem HS.step{C:Nat->Nat->Int}{n m i:Nat}{u v w ls fr u' v' ye:Nat->Int}{Q:Is}(h:HS C n m u v w ls fr Q)(hm:HM m i w)(hw0:w 0=(i:Int))(uO:i<=n){d:Int}{j1:Nat}
  (a1:1<=j1) (a2:j1<=m) (a3:j1∉Q) (hd:ls j1=d) (hmin:∀j,1<=j->j<=m->j∉Q->d<=ls j)
  (hu1:∀r:Nat,1<=r->r<=n->(∃b∈Q,w b=(r:Int))->u' r=u r+d)
  (hu2:∀r:Nat,1<=r->r<=n->¬(∃b∈Q,w b=(r:Int))->u' r=u r)
  (zT:∀j,1<=j->j<=m->j∈Q->v' j=v j-d) (hv2:∀j,1<=j->j<=m->j∉Q->v' j=v j)
  (hl:∀j,1<=j->j<=m->j∉Q->ye j=ls j-d):0<=d/\HG C n m u' v' w ye fr Q j1:=by
 have rn:∀b∈Q,∀r:Nat,w b=(r:Int)->1<=r/\r<=n:=λb hb r hr=>by
  have h1:=h.qp b hb;refine⟨J,?_⟩;by_cases yT:b=0
  ·grind
  ·have:=hm.dN b J (h.qm b hb);omega
 have hd0:0<=d:=by obtain⟨b,hb,_,r,p2,p3,p4⟩:=h.l2 j1 a1 a2 a3;obtain⟨r1,r2⟩:=rn b hb r p3;have:=h.hf.kI r j1 r1 r2 a1 a2;omega
 have inQ:∀j (r:Nat),1<=j->j<=m->j∉Q->1<=r->w j=(r:Int)->¬ ∃b∈Q,w b=(r:Int):=λj r c1 c2 c3 c4 c5=>by
  rintro ⟨b,hb,e⟩
  by_cases yT:b=0
  ·subst yT;have:=hm.dN j c1 c2;omega
  ·have:=hm.inj j b c1 c2 J (h.qm b hb) J J;grind
 have tq:∀a x,a∈Q->1<=a->x∈Q->Fr C u v w fr a x->Fr C u' v' w fr a x:=λa x ha ha1 hx hP=>by obtain⟨p1,r,p2,p3,p4⟩:=hP;obtain⟨r1,r2⟩:=rn x hx r p3;refine⟨p1,r,p2,p3,?_⟩;rw[hu1 r r1 r2 ⟨x,hx,p3⟩,zT a ha1 (h.qm a ha) ha];omega
 refine⟨hd0,⟨λr j r1 r2 j1 j2=>?_,λj c1 c2=>?_,λr c1 c2=>?_⟩,⟨λj r c1 c2 c3 c4=>?_,λj c1 c2 c3=>?_⟩,a2,AAc.2 ⟨a3,h.nd⟩,h.qm,h.qp,?_,λj c1 c2 hj b hb r hr=>?_,.inr λj c1 c2 hj=>?_⟩
 ·have hf:=h.hf.kI r j r1 r2 j1 j2;by_cases hr:∃b∈Q,w b=(r:Int)
  ·rw[hu1 r r1 r2 hr];by_cases hj:j∈Q
   ·grind
   ·obtain⟨b,hb,e⟩:=hr;have:=h.l1 j j1 j2 hj b hb r e;grind
  ·rw[hu2 r r1 r2 hr];by_cases hj:j∈Q
   all_goals grind
 ·have:=h.hf.nM j c1 c2;by_cases hj:j∈Q
  all_goals grind
 ·have:=h.hf.pf r c1 c2;by_cases hr:∃b∈Q,w b=(r:Int)
  ·grind
  ·rw[hu2 r c1 c2 hr];omega
 ·have ht:=h.ht.tight j r c1 c2 c3 c4;have:=hm.dN j c1 c2;have hrn:r<=n:=J
  by_cases hj:j∈Q
  ·grind
  ·rw[hv2 j c1 c2 hj,hu2 r c3 hrn (inQ j r c1 c2 hj c3 c4)];omega
 ·have hj:j∉Q:=λhj=>No
  rw[hv2 j c1 c2 hj,h.ht.free j c1 c2 c3]
 ·refine .inr ⟨a1,?_,?_⟩
  ·obtain⟨b,hb,p1,r,p2,p3,p4⟩:=h.l2 j1 a1 a2 a3;obtain⟨r1,r2⟩:=rn b hb r p3;refine⟨b,hb,p1,r,p2,p3,?_⟩;grind
  ·have key:∀(l:Is),(∀a∈l,a∈Q)->Ch (Fr C u v w fr) l->Ch (Fr C u' v' w fr) l:=by
    intro l
    induction l with
    |nil=>intro _ _;trivial
    |cons a l ih=>
     intro hs hc;rcases hc with hc|⟨h1,⟨x,hx,hP⟩,h3⟩
     ·exact .inl hc
     ·exact .inr ⟨h1,⟨x,hx,tq a x (hs a AAk) h1 (hs x (AAM _ hx)) hP⟩,ih (λb hb=>hs b (AAM _ hb)) h3⟩
   exact key Q (λa ha=>ha) h.ch
 ·obtain⟨r1,r2⟩:=rn b hb r hr;have:=h.l1 j c1 c2 hj b hb r hr;rw[hl j c1 c2 hj,hu1 r r1 r2 ⟨b,hb,hr⟩,hv2 j c1 c2 hj];omega
 ·obtain⟨b,hb,p1,r,p2,p3,p4⟩:=h.l2 j c1 c2 hj;obtain⟨r1,r2⟩:=rn b hb r p3;refine⟨b,hb,p1,r,p2,p3,?_⟩;grind
structure HA(C:Nat->Nat->Int)(m i:Nat)(u v fr w:Nat->Int)(j0:Nat)(Q:Is):Prop where
 nd:(j0::Q).Nodup
 lm:∀j∈j0::Q,j<=m
 ch:Ch (Fr C u v w fr) (j0::Q)
 inj:∀j k,j<=m->k<=m->j≠j0->k≠j0->w j=w k->0<w j->j=k
 nR:∀r:Nat,1<=r->r<=i->∃j,j<=m/\j≠j0/\w j=(r:Int)
 dN:∀j,j<=m->j≠j0->0<=w j/\w j<=(i:Int)
 tight:∀j (r:Nat),1<=j->j<=m->j≠j0->1<=r->w j=(r:Int)->u r+v j=C r j
 free:∀j,1<=j->j<=m->j≠j0->w j=0->v j=0
theorem HG.sw{n:Nat}{w ls fr:Nat->Int}{Q:Is}{j0:Nat}(h:HG C n m u v w ls fr Q j0)(hm:HM m i w)(hw0:w 0=(i:Int))(h1:1<=i)(hj:w j0=0):HA C m i u v fr w j0 Q:=by
 have hj0:j0≠0:=λe=>No
 refine⟨h.nd,λj hj=>?_,h.ch,λj k a b c d e f=>?_,λr a b=>?_,λj a b=>?_,λj r a b _ c d=>h.ht.tight j r a b c d,λj a b _ c=>h.ht.free j a b c⟩
 ·rcases AAf.1 hj with rfl|hj
  ·exact h.pq
  ·exact h.qm j hj
 ·by_cases j00:j=0
  ·by_cases k00:k=0
   ·rw[j00,k00]
   ·subst j00;have:=hm.dN k J b;omega
  ·by_cases k00:k=0
   ·subst k00;have:=hm.dN j J a;omega
   ·exact hm.inj j k J a J b e f
 ·by_cases hr:r=i
  ·grind
  ·obtain⟨j,a1,a2,a3⟩:=hm.nR r a J;grind
 ·by_cases j00:j=0
  ·grind
  ·have:=hm.dN j J a;omega
theorem HA.next{fr w:Nat->Int}{j0:Nat}{Q:Is}(h:HA C m i u v fr w j0 Q)(hj:1<=j0):∃x Q',fr j0=((x:Nat):Int)/\x<=m/\Q'.length<Q.length/\x≠j0/\
  ∀w':Nat->Int,(w' j0=w x)->(∀j,j<=m->j≠j0->w' j=w j)->HA C m i u v fr w' x Q':=by
 rcases h.ch with⟨h0,_⟩|⟨_,⟨x,hx,hP⟩,hc⟩
 ·omega
 obtain⟨p1,r,p2,p3,p4⟩:=hP;obtain⟨pre,Q',hQ⟩:=List.append_of_mem hx;obtain⟨n1,n2⟩:=AAc.1 h.nd;have hxj:x≠j0:=λe=>n1 (e▸hx);have hxm:x<=m:=h.lm x (AAM _ hx);have sub:∀j∈x::Q',j∈Q:=λj hj=>No
 refine⟨x,Q',p1,hxm,No,hxj,λw' e1 e2=>⟨?_,λj hj=>h.lm j (AAM _ (sub j hj)),?_,λj k a b c d e f=>?_,λs a b=>?_,λj a b=>?_,λj s a b c d e=>?_,λj a b c d=>?_⟩⟩
 ·grind
 ·have hc2:Ch (Fr C u v w fr) (x::Q'):=by rw[hQ]at hc;exact Ch.drop hc
  refine hc2.mono λa y ha hy hP=>?_;obtain⟨q1,s,q2,q3,q4⟩:=hP;have hyj:y≠j0:=λe=>n1 (e▸sub y hy);exact⟨q1,s,q2,by rw[e2 y (h.lm y (AAM _ (sub y hy))) hyj,q3],q4⟩
 ·by_cases hj0:j=j0
  ·by_cases yi:k=j0
   ·rw[hj0,yi]
   ·rw[hj0,e1,e2 k b yi]at e;rw[hj0,e1]at f;exact absurd (h.inj x k hxm b hxj yi e f).symm d
  ·by_cases yi:k=j0
   ·rw[yi,e1,e2 j a hj0]at e;rw[e2 j a hj0]at f;exact absurd (h.inj j x a hxm hj0 hxj e f) c
   ·rw[e2 j a hj0,e2 k b yi]at e;rw[e2 j a hj0]at f;exact h.inj j k a b hj0 yi e f
 ·obtain⟨j,a1,a2,a3⟩:=h.nR s a b;by_cases hjx:j=x
  ·exact⟨j0,h.lm j0 AAk,λe=>hxj e.symm,by rw[e1,<-hjx,a3]⟩
  grind
 ·by_cases hj0:j=j0
  ·rw[hj0,e1];exact h.dN x hxm hxj
  ·rw[e2 j a hj0];exact h.dN j a hj0
 ·by_cases hj0:j=j0
  ·grind
  ·rw[e2 j b hj0]at e;exact h.tight j s a b hj0 d e
 ·by_cases hj0:j=j0
  ·grind
  ·rw[e2 j b hj0]at d;exact h.free j a b hj0 d
theorem HA.done{fr w:Nat->Int}{Q:Is}(h:HA C m i u v fr w 0 Q):HM m (i+1) w/\HT C m u v w:=
 ⟨⟨λj a b=>by have:=h.dN j b J;omega,λj k a b c d e f=>h.inj j k b d J J e f,λr a b=>by
   obtain⟨j,a1,a2,a3⟩:=h.nR r a J;grind⟩,⟨λj r a b c d=>h.tight j r a b J c d,λj a b c=>h.free j a b J c⟩⟩
def ga(l:By)(i:Nat):Int:=l.getD i 0
theorem US{l:By}(h:i<l.length):l[i]?=some (ga l i):=by unfold ga;grind
theorem UT{l:By}(h:i<l.length)(x:Int)(j:Nat):ga (l.set i x) j=if j=i then x else ga l j:=by unfold ga;grind
theorem Xh(m:Nat)(x:Int)(j:Nat)(h:j<m):ga (List.replicate m x) j=x:=by unfold ga;grind
structure CM(a0:List By)(m:Nat):Prop where
 row:∀r∈a0,r.length=m
 nm:a0.length<=m
 m10:m<=10
 Mm:∀r∈a0,∀x∈r,0<=x/\x<=100000
def cC(a0:List By)(r j:Nat):Int:=ga (a0.getD (r-1) []) (j-1)
theorem CM.at(h:CM a0 m){r:Nat}(r1:1<=r)(r2:r<=a0.length)(j1:1<=j)(j2:j<=m):
  ∃l,Iy a0 (PV ((r:Int)-1))=some l/\Iy l (PV ((j:Int)-1))=some (cC a0 r j)/\0<=cC a0 r j/\cC a0 r j<=100000:=by
 have hm:=h.m10;have hn:=h.nm;have hr:r-1<a0.length:=J
 have e1:PV ((r:Int)-1)=((r-1:Nat):Int):=by rw[PY J J];omega
 have e2:PV ((j:Int)-1)=((j-1:Nat):Int):=by rw[PY J J];omega
 have hl:=h.row _ (ABT hr);have hj:j-1<a0[r-1].length:=J
 have e3:cC a0 r j=a0[r-1][j-1]:=by unfold cC ga;rw[List.getD,List.getD,AAI hr,AA7,AAI hj];rfl
 refine⟨a0[r-1],by rw[e1,PS hr],by rw[e2,PS hj,e3],?_⟩;rw[e3];exact h.Mm _ (ABT hr) _ (ABT hj)
theorem HM.congr{w w':Nat->Int}(h:HM m i w)(e:∀j,1<=j->j<=m->w' j=w j):HM m i w':=
 ⟨λj a b=>by rw[e j a b];exact h.dN j a b,λj k a b c d=>by rw[e j a b,e k c d];exact h.inj j k a b c d,λr a b=>by
  obtain⟨j,p,q,s⟩:=h.nR r a b;grind⟩
theorem HT.congr{w w':Nat->Int}(h:HT C m u v w)(e:∀j,1<=j->j<=m->w' j=w j):HT C m u v w':=
 ⟨λj r a b c d=>h.tight j r a b c No,λj a b c=>h.free j a b No⟩
theorem gl(m:Nat)(hm:m<=10)(n:Nat)(hn:Pa<=n):iter n (S2 (m:Int)) (0,List.replicate (m+1) 0)=some (((m+1:Nat):Int),List.replicate (m+1) 1099511627776):=by
 have:=P0 (S2 (m:Int)) (λi=>((i:Int),List.replicate i 1099511627776++List.replicate (m+1-i) 0)) (m+1) (((m+1:Nat):Int),List.replicate (m+1) 1099511627776) (λi hi=>by
  have hd:decide ((i:Int)<=(m:Int))=true:=by rw[AAe];omega
  have hl:i<(List.replicate i (1099511627776:Int)++List.replicate (m+1-i) 0).length:=ADJ
  simp only[S2,hd,ABR,PX hl,ABU,QH,PR hi J];congr 3;rw[AB9 _ _ OF,List.length_replicate,Nat.sub_self,show m+1-i=(m+1-(i+1))+1 by omega,List.replicate_succ,List.set_cons_zero,ACE (n:=i)];simp) (by
  have hd:decide (((m+1:Nat):Int)<=(m:Int))=false:=by rw[AAn];omega
  simp only[S2,hd,ABS];simp) n ADF
 grind
theorem fX{a0:List By}{m i:Nat}(hc:CM a0 m){u v ls fr w:By}{us:ADT}{Q:Is}{j0 i0:Nat}(hj0:j0<=m)
  (lu:u.length=a0.length+1) (lv:v.length=m+1) (ll:ls.length=m+1) (lf:fr.length=m+1)
  (hus:∀k,k<=m->(us.set j0 true)[k]?=some (decide (k∈j0::Q))) (hlu:us.length=m+1)
  (hi1:1<=i0) (hi2:i0<=a0.length) (hub:0<=ga u i0/\ga u i0<=100000) (hvb:∀j,1<=j->j<=m -> -100000<=ga v j/\ga v j<=0)
  (n:Nat) (hn:Pa<=n):
  ∃(d:Int) (j1:Nat) (ye fr':By),iter n (QY a0 (m:Int) ((j0:Int),u,v,ls,fr,us) (i0:Int)) (1099511627776,0,1,ls,fr)=some (d,(j1:Int),((m+1:Nat):Int),ye,fr')/\
   ye.length=m+1/\fr'.length=m+1/\(∀k,k<=m->k∈j0::Q->ga fr' k=ga fr k)/\
   (∀k,1<=k->k<=m->k∉j0::Q->(cC a0 i0 k-ga u i0-ga v k<ga ls k/\ga ye k=cC a0 i0 k-ga u i0-ga v k/\ga fr' k=(j0:Int))\/(¬cC a0 i0 k-ga u i0-ga v k<ga ls k/\ga ye k=ga ls k/\ga fr' k=ga fr k))/\
   (∀k,1<=k->k<=m->k∉j0::Q->d<=ga ye k)/\((∀k,1<=k->k<=m->k∈j0::Q)\/(1<=j1/\j1<=m/\j1∉j0::Q/\ga ye j1=d)):=by
 have hm:=hc.m10
 obtain⟨z,⟨d,j1,ye,fr',e,h1⟩,h2⟩:=XY (f:=QY a0 (m:Int) ((j0:Int),u,v,ls,fr,us) (i0:Int))
  (λx=>∃(d:Int) (j1 j:Nat) (ye fr':By),x=(d,(j1:Int),(j:Int),ye,fr')/\1<=j/\j<=m+1/\ye.length=m+1/\fr'.length=m+1/\
   (∀k,j<=k->k<=m->ga ye k=ga ls k/\ga fr' k=ga fr k)/\(∀k,k<=m->k∈j0::Q->ga fr' k=ga fr k)/\
   (∀k,1<=k->k<j->k∉j0::Q->(cC a0 i0 k-ga u i0-ga v k<ga ls k/\ga ye k=cC a0 i0 k-ga u i0-ga v k/\ga fr' k=(j0:Int))\/(¬cC a0 i0 k-ga u i0-ga v k<ga ls k/\ga ye k=ga ls k/\ga fr' k=ga fr k))/\
   (∀k,1<=k->k<j->k∉j0::Q->d<=ga ye k)/\((d=1099511627776/\∀k,1<=k->k<j->k∈j0::Q)\/(1<=j1/\j1<j/\j1∉j0::Q/\ga ye j1=d)))
  (λz=>∃(d:Int) (j1:Nat) (ye fr':By),z=(d,(j1:Int),((m+1:Nat):Int),ye,fr')/\ye.length=m+1/\fr'.length=m+1/\(∀k,k<=m->k∈j0::Q->ga fr' k=ga fr k)/\
   (∀k,1<=k->k<=m->k∉j0::Q->(cC a0 i0 k-ga u i0-ga v k<ga ls k/\ga ye k=cC a0 i0 k-ga u i0-ga v k/\ga fr' k=(j0:Int))\/(¬cC a0 i0 k-ga u i0-ga v k<ga ls k/\ga ye k=ga ls k/\ga fr' k=ga fr k))/\
   (∀k,1<=k->k<=m->k∉j0::Q->d<=ga ye k)/\((∀k,1<=k->k<=m->k∈j0::Q)\/(1<=j1/\j1<=m/\j1∉j0::Q/\ga ye j1=d)))
  (λx=>m+1-x.2.2.1.toNat) (λx hx=>by
   obtain⟨d,j1,j,ye,fr',rfl,b1,b2,l1,l2,g1,g2,g3,g4,g5⟩:=hx;by_cases hj:j=m+1
   ·left;have hd:decide ((j:Int)<=(m:Int))=false:=by rw[AAn];omega
    refine⟨(d,(j1:Int),(j:Int),ye,fr'),by simp only[QY,hd,ABS],d,j1,ye,fr',by rw[hj],l1,l2,g2,λk a b c=>g3 k a J c,λk a b c=>g4 k a J c,?_⟩;rcases g5 with⟨_,g5⟩|⟨p1,p2,p3,p4⟩
    ·exact .inl λk a b=>g5 k a J
    ·exact .inr ⟨p1,J,p3,p4⟩
   ·right;have hjm:j<=m:=J
    have hd:decide ((j:Int)<=(m:Int))=true:=by rw[AAe];omega
    have hu1:=hus j hjm;have hul:j<(us.set j0 true).length:=ADJ
    have hw:PV ((j:Int)+1)=((j+1:Nat):Int):=PR (show j<m+1 by omega) J;have hmu:m+1-((j+1:Nat):Int).toNat<m+1-((j:Nat):Int).toNat:=J
    by_cases hQ:j∈j0::Q
    ·rw[ABW hQ]at hu1;refine⟨(d,(j1:Int),((j+1:Nat):Int),ye,fr'),?_,⟨d,j1,j+1,ye,fr',rfl,J,J,l1,l2,λk a b=>g1 k J b,g2,λk a b c=>g3 k a ?_ c,λk a b c=>g4 k a ?_ c,?_⟩,hmu⟩
     ·simp only[QY,hd,ABR,ABU,QH,PX hul,hu1,ABQ,hw]
     ·by_cases e:k=j
      ·exact absurd (e▸hQ) c
      ·omega
     ·by_cases e:k=j
      ·exact absurd (e▸hQ) c
      ·omega
     ·rcases g5 with⟨p1,p2⟩|⟨p1,p2,p3,p4⟩
      ·refine .inl ⟨p1,λk a b=>?_⟩;by_cases e:k=j
       ·rw[e];exact hQ
       ·exact p2 k a J
      ·exact .inr ⟨p1,J,p3,p4⟩
    ·rw[ABa hQ]at hu1;obtain⟨l,c1,c2,c3,c4⟩:=hc.at hi1 hi2 b1 hjm;have hvj:=hvb j b1 hjm
     have hcur:PV (PV (cC a0 i0 j-ga u i0)-ga v j)=cC a0 i0 j-ga u i0-ga v j:=by rw[PY (n:=cC a0 i0 j-ga u i0) J J];exact PY J J
     have i1:Oi u (i0:Int)=true:=PX J;have i2:Oi v (j:Int)=true:=PX J;have i3:Oi ye (j:Int)=true:=PX J;have i4:Oi fr' (j:Int)=true:=PX J;have e1:=US (l:=u) (i:=i0) J;have e2:=US (l:=v) (i:=j) J;have e3:=US (l:=ye) (i:=j) J;obtain⟨g1a,g1b⟩:=g1 j (AAb _) hjm;generalize uv:cC a0 i0 j-ga u i0-ga v j=cur at hcur;have hcb:cur<=200000:=J
     have key:∀(ls2 fr2:By),ls2.length=m+1->fr2.length=m+1->(∀k,k≠j->ga ls2 k=ga ye k/\ga fr2 k=ga fr' k)->
       ((cur<ga ls j/\ga ls2 j=cur/\ga fr2 j=(j0:Int))\/(¬cur<ga ls j/\ga ls2 j=ga ls j/\ga fr2 j=ga fr j))->(∀d2 j2,(ga ls2 j<d/\d2=ga ls2 j/\j2=j\/¬ga ls2 j<d/\d2=d/\j2=j1)->
       ∃(d':Int) (j1' j':Nat) (ye fr':By),(d2,((j2:Nat):Int),((j+1:Nat):Int),ls2,fr2)=(d',(j1':Int),(j':Int),ye,fr')/\1<=j'/\j'<=m+1/\ye.length=m+1/\fr'.length=m+1/\
   (∀k,j'<=k->k<=m->ga ye k=ga ls k/\ga fr' k=ga fr k)/\(∀k,k<=m->k∈j0::Q->ga fr' k=ga fr k)/\
   (∀k,1<=k->k<j'->k∉j0::Q->(cC a0 i0 k-ga u i0-ga v k<ga ls k/\ga ye k=cC a0 i0 k-ga u i0-ga v k/\ga fr' k=(j0:Int))\/(¬cC a0 i0 k-ga u i0-ga v k<ga ls k/\ga ye k=ga ls k/\ga fr' k=ga fr k))/\
   (∀k,1<=k->k<j'->k∉j0::Q->d'<=ga ye k)/\((d'=1099511627776/\∀k,1<=k->k<j'->k∈j0::Q)\/(1<=j1'/\j1'<j'/\j1'∉j0::Q/\ga ye j1'=d'))):=by
      intro ls2 fr2 q1 q2 q3 q4 d2 j2 q5;refine⟨d2,j2,j+1,ls2,fr2,rfl,J,J,q1,q2,λk a b=>?_,λk a b=>?_,λk a b c=>?_,λk a b c=>?_,?_⟩
      ·rw[(q3 k J).1,(q3 k J).2];exact g1 k J b
      ·have uV:k≠j:=λe=>hQ (e▸b);rw[(q3 k uV).2];exact g2 k a b
      ·by_cases e:k=j
       ·subst e;rw[uv];exact q4
       ·rw[(q3 k e).1,(q3 k e).2];exact g3 k a J c
      ·by_cases e:k=j
       ·subst e;rcases q5 with⟨p1,p2,p3⟩|⟨p1,p2,p3⟩<;>omega
       ·rw[(q3 k e).1];have:=g4 k a J c;rcases q5 with⟨p1,p2,p3⟩|⟨p1,p2,p3⟩<;>omega
      ·have uR:ga ls2 j<=200000:=by rcases q4 with⟨p1,p2,_⟩|⟨p1,p2,_⟩<;>omega
       rcases q5 with⟨p1,p2,p3⟩|⟨p1,p2,p3⟩
       ·exact .inr ⟨J,J,by rw[p3];exact hQ,by rw[p3,p2]⟩
       ·rcases g5 with⟨r1,r2⟩|⟨r1,r2,r3,r4⟩
        ·omega
        ·exact .inr ⟨J,J,by rw[p3];exact r3,by rw[p3,p2,(q3 j1 J).1,r4]⟩
     by_cases zd:cur<ga ls j
     ·have hcl':decide (cur<ga ye j)=true:=by rw[AAe,g1a];exact zd
      have il:Oi (ye.set j cur) (j:Int)=true:=PX ADJ;have el:(ye.set j cur)[j]?=some cur:=by rw[List.getElem?_set_self J]
      have kk:=key (ye.set j cur) (fr'.set j (j0:Int)) (by simp[l1]) (by simp[l2]) (λk hk=>⟨by rw[UT J,AAQ hk],by rw[UT J,AAQ hk]⟩) (.inl ⟨zd,by rw[UT J,AAP rfl],by rw[UT J,AAP rfl]⟩);rw[UT J,AAP rfl]at kk;by_cases hdl:cur<d
      ·refine⟨(cur,(j:Int),((j+1:Nat):Int),ye.set j cur,fr'.set j (j0:Int)),?_,kk cur j (.inl ⟨hdl,rfl,rfl⟩),hmu⟩;simp only[QY,hd,ABR,ABU,QH,PX hul,hu1,ABQ,hw,ABS,c1,c2,i1,i2,i3,i4,e1,e2,e3,hcur,hcl',il,el,ABW hdl]
      ·refine⟨(d,(j1:Int),((j+1:Nat):Int),ye.set j cur,fr'.set j (j0:Int)),?_,kk d j1 (.inr ⟨hdl,rfl,rfl⟩),hmu⟩;simp only[QY,hd,ABR,ABU,QH,PX hul,hu1,ABQ,hw,ABS,c1,c2,i1,i2,i3,i4,e1,e2,e3,hcur,hcl',il,el,ABa hdl]
     ·have hcl':decide (cur<ga ye j)=false:=by rw[AAn,g1a];exact zd
      have kk:=key ye fr' l1 l2 (λk hk=>⟨rfl,rfl⟩) (.inr ⟨zd,g1a,g1b⟩);by_cases hdl:ga ye j<d
      ·refine⟨(ga ye j,(j:Int),((j+1:Nat):Int),ye,fr'),?_,kk (ga ye j) j (.inl ⟨hdl,rfl,rfl⟩),hmu⟩;simp only[QY,hd,ABR,ABU,QH,PX hul,hu1,ABQ,hw,ABS,c1,c2,i1,i2,i3,i4,e1,e2,e3,hcur,hcl',ABW hdl]
      ·refine⟨(d,(j1:Int),((j+1:Nat):Int),ye,fr'),?_,kk d j1 (.inr ⟨hdl,rfl,rfl⟩),hmu⟩;simp only[QY,hd,ABR,ABU,QH,PX hul,hu1,ABQ,hw,ABS,c1,c2,i1,i2,i3,i4,e1,e2,e3,hcur,hcl',ABa hdl])
  n (1099511627776,0,1,ls,fr) ⟨1099511627776,0,1,ls,fr,rfl,AAb _,J,ll,lf,λk _ _=>⟨rfl,rfl⟩,λk _ _=>rfl,λk a b=>J,λk a b=>J,.inl ⟨rfl,λk a b=>J⟩⟩ (by show m+1-(1:Int).toNat<n;unfold Pa at hn;omega)
 grind
theorem gn{N m i:Nat}{u v ls w:By}{us:ADT}{Q:Is}{j0:Nat}(hm:m<=10)(fr0:By)(x16:Int×Int×Int×By×By)
  (lu:u.length=N+1) (lv:v.length=m+1) (ll:ls.length=m+1) (lw:w.length=m+1)
  (hus:∀k,k<=m->(us.set j0 true)[k]?=some (decide (k∈j0::Q))) (hlu:us.length=m+1)
  (hw:∀k,k<=m->k∈j0::Q->1<=ga w k/\ga w k<=N) (hinj:∀k b,k<=m->b<=m->k∈j0::Q->b∈j0::Q->ga w k=ga w b->k=b)
  (hd:0<=x16.1/\x16.1<=200000) (hub:∀r,1<=r->r<=N->0<=ga u r/\ga u r<=100000) (hvb:∀j,1<=j->j<=m -> -100000<=ga v j/\ga v j<=0)
  (hlb:∀k,1<=k->k<=m->k∉j0::Q->0<=ga ls k/\ga ls k<=200000) (ls0:By) (h0:0∈j0::Q)
  (n:Nat) (hn:Pa<=n):
  ∃(u' v' ye:By),iter n (R0 w (m:Int) ((j0:Int),u,v,ls0,fr0,us) x16) (0,u,v,ls)=some (((m+1:Nat):Int),u',v',ye)/\
   u'.length=N+1/\v'.length=m+1/\ye.length=m+1/\
   (∀r:Nat,1<=r->r<=N->(∃b∈j0::Q,b<=m/\ga w b=(r:Int))->ga u' r=ga u r+x16.1)/\
   (∀r:Nat,1<=r->r<=N->¬(∃b∈j0::Q,b<=m/\ga w b=(r:Int))->ga u' r=ga u r)/\
   (∀j,1<=j->j<=m->j∈j0::Q->ga v' j=ga v j-x16.1)/\(∀j,1<=j->j<=m->j∉j0::Q->ga v' j=ga v j)/\
   (∀j,1<=j->j<=m->j∉j0::Q->ga ye j=ga ls j-x16.1):=by
 obtain⟨z,⟨j,u',v',ye,e,hje,h1⟩,h2⟩:=XY (f:=R0 w (m:Int) ((j0:Int),u,v,ls0,fr0,us) x16)
  (λx=>∃(j:Nat) (u' v' ye:By),x=((j:Int),u',v',ye)/\j<=m+1/\u'.length=N+1/\v'.length=m+1/\ye.length=m+1/\
   (∀r:Nat,1<=r->r<=N->(∃b∈j0::Q,b<j/\ga w b=(r:Int))->ga u' r=ga u r+x16.1)/\
   (∀r:Nat,1<=r->r<=N->¬(∃b∈j0::Q,b<j/\ga w b=(r:Int))->ga u' r=ga u r)/\
   (∀k,1<=k->k<=m->k∈j0::Q->ga v' k=if k<j then ga v k-x16.1 else ga v k)/\(∀k,1<=k->k<=m->k∉j0::Q->ga v' k=ga v k)/\
   (∀k,1<=k->k<=m->k∉j0::Q->ga ye k=if k<j then ga ls k-x16.1 else ga ls k))
  (λx=>∃(j:Nat) (u' v' ye:By),x=((j:Int),u',v',ye)/\j=m+1/\u'.length=N+1/\v'.length=m+1/\ye.length=m+1/\
   (∀r:Nat,1<=r->r<=N->(∃b∈j0::Q,b<j/\ga w b=(r:Int))->ga u' r=ga u r+x16.1)/\
   (∀r:Nat,1<=r->r<=N->¬(∃b∈j0::Q,b<j/\ga w b=(r:Int))->ga u' r=ga u r)/\
   (∀k,1<=k->k<=m->k∈j0::Q->ga v' k=if k<j then ga v k-x16.1 else ga v k)/\(∀k,1<=k->k<=m->k∉j0::Q->ga v' k=ga v k)/\
   (∀k,1<=k->k<=m->k∉j0::Q->ga ye k=if k<j then ga ls k-x16.1 else ga ls k))
  (λx=>m+1-x.1.toNat) (λx hx=>by
   obtain⟨j,u',v',ye,rfl,b,l1,l2,l3,g1,g2,g3,g4,g5⟩:=hx;by_cases hj:j=m+1
   ·left;have hdd:decide ((j:Int)<=(m:Int))=false:=by rw[AAn];omega
    exact⟨((j:Int),u',v',ye),by simp only[R0,hdd,ABS],j,u',v',ye,rfl,hj,l1,l2,l3,g1,g2,g3,g4,g5⟩
   ·right;have hjm:j<=m:=J
    have hdd:decide ((j:Int)<=(m:Int))=true:=by rw[AAe];omega
    have hu1:=hus j hjm;have hul:j<(us.set j0 true).length:=ADJ
    have hw1:PV ((j:Int)+1)=((j+1:Nat):Int):=PR (show j<m+1 by omega) J;have hmu:m+1-((j+1:Nat):Int).toNat<m+1-((j:Nat):Int).toNat:=J
    by_cases hQ:j∈j0::Q
    ·rw[ABW hQ]at hu1;obtain⟨w1,w2⟩:=hw j hjm hQ;obtain⟨r,hr⟩:∃r:Nat,ga w j=(r:Int):=⟨(ga w j).toNat,J⟩;have i1:Oi w (j:Int)=true:=PX J;have i2:Oi u' (r:Int)=true:=PX J;have i3:Oi v' (j:Int)=true:=PX J;have e1:=US (l:=w) (i:=j) J;rw[hr]at e1;have e2:=US (l:=u') (i:=r) J;have e3:=US (l:=v') (i:=j) J
     have yN:¬ ∃b∈j0::Q,b<j/\ga w b=(r:Int):=by
      rintro ⟨b,hb,uR,e⟩
      have:=hinj b j J hjm hb hQ J;omega
     have uY:=g2 r J J yN;have hub':=hub r J J;refine⟨(((j+1:Nat):Int),u'.set r (PV (ga u' r+x16.1)),v'.set j (PV (ga v' j-x16.1)),ye),?_,⟨j+1,u'.set r (PV (ga u' r+x16.1)),v'.set j (PV (ga v' j-x16.1)),ye,rfl,J,by simp[l1],by simp[l2],l3,λs s1 s2 hs=>?_,λs s1 s2 hs=>?_,λk k1 k2 hk=>?_,λk k1 k2 hk=>?_,λk k1 k2 hk=>?_⟩,hmu⟩
     ·simp only[R0,hdd,ABR,ABU,QH,PX hul,hu1,ABQ,hw1,i1,i2,i3,e1,e2,e3]
     ·rw[UT J];by_cases e:s=r
      ·rw[AAP e,e,PY J J];omega
      ·rw[AAQ e];obtain⟨b,hb,uR,eb⟩:=hs;have hbj:b≠j:=λe2=>by rw[e2,hr]at eb;omega
       exact g1 s s1 s2 ⟨b,hb,J,eb⟩
     ·have e:s≠r:=λe=>hs ⟨j,hQ,J,by rw[hr,e]⟩;rw[UT J,AAQ e];exact g2 s s1 s2 λ⟨b,hb,uR,eb⟩=>hs ⟨b,hb,J,eb⟩
     ·rw[UT J];by_cases e:k=j
      ·have h3:=g3 k k1 k2 hk;rw[AAQ J]at h3;have:=hvb k k1 k2;rw[AAP e,AAP J,<-e,h3,PY J J]
      ·rw[AAQ e,g3 k k1 k2 hk];by_cases e2:k<j
       ·rw[AAP e2,AAP J]
       ·rw[AAQ e2,AAQ J]
     ·have e:k≠j:=λe=>hk (e▸hQ);rw[UT J,AAQ e];exact g4 k k1 k2 hk
     ·have e:k≠j:=λe=>hk (e▸hQ);rw[g5 k k1 k2 hk];by_cases e2:k<j
      ·rw[AAP e2,AAP J]
      ·rw[AAQ e2,AAQ J]
    ·rw[ABa hQ]at hu1
     have hj1:1<=j:=by
      rcases Nat.eq_zero_or_pos j with e|e
      ·exact absurd (e▸h0) hQ
      ·exact e
     have i3:Oi ye (j:Int)=true:=PX J;have e3:=US (l:=ye) (i:=j) J;have h5:=g5 j hj1 hjm hQ;rw[AAQ J]at h5;have hlb':=hlb j hj1 hjm hQ
     have sm:∀r:Nat,(∃b∈j0::Q,b<j+1/\ga w b=(r:Int))↔∃b∈j0::Q,b<j/\ga w b=(r:Int):=λr=>
      ⟨λ⟨b,hb,h1,h2⟩=>⟨b,hb,by
       have:b≠j:=λe=>hQ (e▸hb);omega,h2⟩,λ⟨b,hb,h1,h2⟩=>⟨b,hb,J,h2⟩⟩
     refine⟨(((j+1:Nat):Int),u',v',ye.set j (PV (ga ye j-x16.1))),?_,⟨j+1,u',v',ye.set j (PV (ga ye j-x16.1)),rfl,J,l1,l2,by simp[l3],λs s1 s2 hs=>g1 s s1 s2 ((sm s).1 hs),λs s1 s2 hs=>g2 s s1 s2 λh=>hs ((sm s).2 h),λk k1 k2 hk=>?_,g4,λk k1 k2 hk=>?_⟩,hmu⟩
     ·simp only[R0,hdd,ABR,ABS,ABU,QH,PX hul,hu1,ABQ,hw1,i3,e3]
     ·have e:k≠j:=λe=>hQ (e▸hk);rw[g3 k k1 k2 hk];by_cases e2:k<j
      ·rw[AAP e2,AAP J]
      ·rw[AAQ e2,AAQ J]
     ·rw[UT J];by_cases e:k=j
      ·rw[AAP e,AAP J,e,h5,PY J J]
      ·rw[AAQ e,g5 k k1 k2 hk];by_cases e2:k<j
       ·rw[AAP e2,AAP J]
       ·rw[AAQ e2,AAQ J])
  n (0,u,v,ls) ⟨0,u,v,ls,rfl,J,lu,lv,ll,λr _ _ h=>by obtain⟨b,_,hb,_⟩:=h;omega,λr _ _ _=>rfl,λk _ _ _=>by rw[AAQ J],λk _ _ _=>rfl,λk _ _ _=>by rw[AAQ J]⟩ (by show m+1-(0:Int).toNat<n;unfold Pa at hn;omega)
 obtain⟨l1,l2,l3,g1,g2,g3,g4,g5⟩:=h1;subst hje;refine⟨u',v',ye,by rw[h2,e],l1,l2,l3,λr r1 r2 ⟨b,hb,hbm,eb⟩=>g1 r r1 r2 ⟨b,hb,J,eb⟩,λr r1 r2 h=>g2 r r1 r2 λ⟨b,hb,hbm,eb⟩=>h ⟨b,hb,J,eb⟩,λj j1 j2 hj=>?_,g4,λj j1 j2 hj=>?_⟩
 all_goals grind
theorem U6{α γ:Type}{f:α->Option (α⊕γ)}(R:Nat->α->Prop)(S:γ->Prop)
  (h:∀k x,R k x->(∃z,f x=some (.inr z)/\S z)\/(∃x' k',f x=some (.inl x')/\R k' x'/\k'<k)):
  ∀n k x,R k x->k<n->∃z,S z/\iter n f x=some z:=by
 intro n
 induction n with
 |zero=>omega
 |succ n ih=>
  intro k x hR hn;rcases h k x hR with⟨z,h1,h3⟩|⟨x',k',h1,h3,h4⟩
  ·exact⟨z,h3,Pw h1 n⟩
  ·obtain⟨z,h5,h6⟩:=ih k' x' h3 J;exact⟨z,h5,(RO h1 n).trans h6⟩
theorem Ch.zero{P:Nat->Nat->Prop}:∀ {a:Nat} {l:Is},Ch P (a::l)->0∈a::l
 |a,[],h=>by
  rcases h with⟨h,_⟩|⟨_,⟨x,hx,_⟩,_⟩
  all_goals grind
 |a,b::l,h=>by
  rcases h with⟨_,h⟩|⟨_,_,h⟩
  ·cases h
  ·exact AAM _ (Ch.zero h)
theorem fY{a0:List By}{m i:Nat}(hc:CM a0 m){w:By}(lw:w.length=m+1)(hm:HM m i (ga w))(hw0:ga w 0=(i:Int))(h1i:1<=i)(hiN:i<=a0.length)(n:Nat)(hn:Pa<=n)
  {u v ls fr:By} {us:ADT} {j0:Nat} {Q:Is} (lu:u.length=a0.length+1) (lv:v.length=m+1) (ll:ls.length=m+1) (lf:fr.length=m+1) (mS:us.length=m+1)
  (hG:HG (cC a0) a0.length m (ga u) (ga v) (ga w) (ga ls) (ga fr) Q j0) (hu:∀k,k<=m->us[k]?=some (decide (k∈Q))) (nh:1<=ga w j0) (hfar:Q=[]->∀k,k<=m->ga ls k=1099511627776):
  ∃(j1:Nat) (u' v' ye fr':By),u'.length=a0.length+1/\v'.length=m+1/\ye.length=m+1/\fr'.length=m+1/\HG (cC a0) a0.length m (ga u') (ga v') (ga w) (ga ye) (ga fr') (j0::Q) j1/\
   (∀k,k<=m->(us.set j0 true)[k]?=some (decide (k∈j0::Q)))/\0<=ga w j1/\(j0::Q).length<=m+1/\
   Rz n a0 w (m:Int) ((j0:Int),u,v,ls,fr,us)=bif ga w j1==0 then some (.inr ((j1:Int),u',v',ye,fr',us.set j0 true))else some (.inl ((j1:Int),u',v',ye,fr',us.set j0 true)):=by
 have hm10:=hc.m10;have hnm:=hc.nm;have hj0:=hG.pq
 obtain⟨bu,bv⟩:=hG.hf.Mm hG.ht hm h1i J hiN (M:=100000) (λr j r1 r2 j1 j2=>by
  obtain⟨_,_,_,p,q⟩:=hc.at r1 r2 j1 j2;omega)
 have wle:∀k,k<=m->ga w k<=(a0.length:Int):=λk hk=>by
  by_cases e:k=0
  ·grind
  ·have:=hm.dN k ADI hk;omega
 obtain⟨i0,yh⟩:∃i0:Nat,ga w j0=(i0:Int):=⟨(ga w j0).toNat,J⟩;have hi01:1<=i0:=ADI
 have hi02:i0<=a0.length:=by have:=wle j0 hj0;clear hn;omega
 have wN:∀k,k<=m->(us.set j0 true)[k]?=some (decide (k∈j0::Q)):=λk hk=>No
 obtain⟨d,j1,ye,fr',s1,l1,l2,s2,s3,s4,s5⟩:=fX (i:=i) hc (w:=w) hj0 lu lv ll lf wN mS hi01 hi02 (bu i0 hi01 hi02) bv n hn
 have hfar2:Q=[]->∀j,1<=j->j<=m->cC a0 i0 j-ga u i0-ga v j<ga ls j:=λe j a b=>by rw[hfar e j b];obtain⟨_,_,_,p,q⟩:=hc.at hi01 hi02 a b;grind
 have hS:HS (cC a0) a0.length m (ga u) (ga v) (ga w) (ga ye) (ga fr') (j0::Q):=hG.scan hi01 yh hfar2 s2 s3
 have rN:∀b∈j0::Q,∀r:Nat,ga w b=(r:Int)->1<=r/\r<=a0.length:=λb hb r hr=>by have:=hS.qp b hb;have:=wle b (hS.qm b hb);omega
 have hlb:∀k,1<=k->k<=m->k∉j0::Q->0<=ga ye k/\ga ye k<=200000:=λk a b c=>by obtain⟨q,hq,_,r,r1,r2,r3⟩:=hS.l2 k a b c;obtain⟨p1,p2⟩:=rN q hq r r2;have:=hS.hf.kI r k p1 p2 a b;obtain⟨_,_,_,p,q⟩:=hc.at p1 p2 a b;have:=bu r p1 p2;have:=bv k a b;omega
 rcases s5 with s5|⟨a1,a2,a3,a4⟩
 ·obtain⟨f,f1,f2,f3⟩:=hm.open h1i ADI;grind
 have hdb:=hlb j1 a1 a2 a3;rw[a4]at hdb
 have hinj:∀k b,k<=m->b<=m->k∈j0::Q->b∈j0::Q->ga w k=ga w b->k=b:=λk b c1 c2 c3 c4 c5=>by
  have p1:=hS.qp k c3;by_cases k0:k=0
  ·by_cases b0:b=0
   ·omega
   ·have:=hm.dN b ADI c2;grind
  ·by_cases b0:b=0
   ·have:=hm.dN k ADI c1;grind
   ·exact hm.inj k b J c1 J c2 c5 J
 have h00:0∈j0::Q:=Ch.zero hG.ch;obtain⟨u',v',ls'',t1,t2,t3,t4,t5,t6,t7,t8,t9⟩:=gn (m:=m) (i:=i) (u:=u) (v:=v) (ls:=ye) (w:=w) hm10 fr (d,(j1:Int),((m+1:Nat):Int),ye,fr') lu lv l1 lw wN mS (λk a b=>⟨hS.qp k b,wle k a⟩) hinj hdb bu bv hlb ls h00 n hn;obtain⟨hd0,hG'⟩:=hS.step (u':=ga u') (v':=ga v') (ye:=ga ls'') hm hw0 hiN a1 a2 a3 a4 s4 (λr r1 r2 ⟨b,hb,eb⟩=>t5 r r1 r2 ⟨b,hb,hS.qm b hb,eb⟩) (λr r1 r2 h=>t6 r r1 r2 λ⟨b,hb,_,eb⟩=>h ⟨b,hb,eb⟩) t7 t8 t9;have i1:Oi us (j0:Int)=true:=PX J;have i2:Oi w (j0:Int)=true:=PX J;have i3:Oi w (j1:Int)=true:=PX J;have e2:=US (l:=w) (i:=j0) J;have e3:=US (l:=w) (i:=j1) J;rw[yh]at e2
 have hlen:(j0::Q).length<=m+1:=by have:=Za (j0::Q) (List.range (m+1)) hS.nd (λx hx=>by rw[AAX];have:=hS.qm x hx;omega);simpa using this
 refine⟨j1,u',v',ls'',fr',t2,t3,t4,l2,hG',wN,(hm.dN j1 a1 a2).1,hlen,?_⟩;simp only[Rz,i1,i2,i3,ABR,ABU,e2,e3,ABQ,s1,t1,QH]
abbrev GT:=Int×By×By×By×By×ADT
structure GS(a0:List By)(m:Nat)(w:By)(k:Nat)(x:GT)(j0:Nat)(Q:Is):Prop where
 j:x.1=(j0:Int)
 lu:x.2.1.length=a0.length+1
 lv:x.2.2.1.length=m+1
 ll:x.2.2.2.1.length=m+1
 lf:x.2.2.2.2.1.length=m+1
 mS:x.2.2.2.2.2.length=m+1
 hG:HG (cC a0) a0.length m (ga x.2.1) (ga x.2.2.1) (ga w) (ga x.2.2.2.1) (ga x.2.2.2.2.1) Q j0
 hu:∀k,k<=m->x.2.2.2.2.2[k]?=some (decide (k∈Q))
 nh:1<=ga w j0
 hfar:Q=[]->∀k,k<=m->ga x.2.2.2.1 k=1099511627776
 hk:k+Q.length=m+1
structure GE(a0:List By)(m:Nat)(w:By)(x:GT)(j0:Nat)(Q:Is):Prop where
 j:x.1=(j0:Int)
 lu:x.2.1.length=a0.length+1
 lv:x.2.2.1.length=m+1
 lf:x.2.2.2.2.1.length=m+1
 hG:HG (cC a0) a0.length m (ga x.2.1) (ga x.2.2.1) (ga w) (ga x.2.2.2.1) (ga x.2.2.2.2.1) Q j0
 hz:ga w j0=0
theorem gm(hc:CM a0 m){w:By}(lw:w.length=m+1)(hm:HM m i (ga w))(hw0:ga w 0=(i:Int))(h1i:1<=i)(hiN:i<=a0.length)(n:Nat)(hn:Pa<=n)(k:Nat)(x:GT)(hx:∃j0 Q,GS a0 m w k x j0 Q):
  (∃z,Rz n a0 w (m:Int) x=some (.inr z)/\∃j0 Q,GE a0 m w z j0 Q)\/(∃x' k',Rz n a0 w (m:Int) x=some (.inl x')/\(∃j0 Q,GS a0 m w k' x' j0 Q)/\k'<k):=by
 obtain⟨x1,u,v,ls,fr,us⟩:=x;obtain⟨j0,Q,⟨j,lu,lv,ll,lf,mS,hG,hu,nh,hfar,hk⟩⟩:=hx;dsimp only at j lu lv ll lf mS hG hu hfar;subst j;obtain⟨j1,u',v',ye,fr',t2,t3,t4,l2,hG',wN,hw1,hlen,hstep⟩:=fY hc lw hm hw0 h1i hiN n hn lu lv ll lf mS hG hu nh hfar;clear hG hu hfar hn;rw[ABD]at hlen;by_cases hz:ga w j1=0
 ·rw[show(ga w j1==0)=true by grind,ABR]at hstep;exact .inl ⟨_,hstep,j1,j0::Q,⟨rfl,t2,t3,l2,hG',hz⟩⟩
 ·rw[show(ga w j1==0)=false by grind,ABS]at hstep;have h1:1<=ga w j1:=by clear hstep hG' wN;omega
  exact .inr ⟨_,k-1,hstep,⟨j1,j0::Q,⟨rfl,t2,t3,t4,l2,No,hG',wN,h1,(λh=>nomatch h),No⟩⟩,J⟩
theorem fW{a0:List By}{m i:Nat}(hc:CM a0 m){w:By}(lw:w.length=m+1)(hm:HM m i (ga w))(hw0:ga w 0=(i:Int))(h1i:1<=i)(hiN:i<=a0.length)(n:Nat)(hn:Pa<=n)
  {u v ls fr:By} {us:ADT} (lu:u.length=a0.length+1) (lv:v.length=m+1) (ll:ls.length=m+1) (lf:fr.length=m+1) (mS:us.length=m+1)
  (hf:HF (cC a0) a0.length m (ga u) (ga v)) (ht:HT (cC a0) m (ga u) (ga v) (ga w)) (vx:∀k,k<=m->ga ls k=1099511627776) (hus:∀k,k<=m->us[k]?=some false):
  ∃z,(∃j0 Q,GE a0 m w z j0 Q)/\iter n (Rz n a0 w (m:Int)) (0,u,v,ls,fr,us)=some z:=by
 have hm10:=hc.m10
 have h0:GS a0 m w (m+1) (0,u,v,ls,fr,us) 0 []:=
  ⟨rfl,lu,lv,ll,lf,mS,⟨hf,ht,J,OF,OF,OF,.inl ⟨rfl,rfl⟩,λ_ _ _ _ b hb=>(nomatch hb),.inl rfl⟩,λk hk=>No,J,λ_=>vx,OF⟩
 exact U6 (λk x=>∃j0 Q,GS a0 m w k x j0 Q) (λz=>∃j0 Q,GE a0 m w z j0 Q) (gm hc lw hm hw0 h1i hiN n hn) n (m+1) _ ⟨0,[],h0⟩ ADF
theorem gk{C:Nat->Nat->Int}{m i:Nat}{u v fr:By}(x27:Int×By×By×By×By×ADT)(hx:x27.2.2.2.2.1=fr)(lf:fr.length=m+1)(n:Nat)(hn:Pa<=n){w:By}(lw:w.length=m+1){j0:Nat}{Q:Is}(hm:m<=10)
  (h:HA C m i (ga u) (ga v) (ga fr) (ga w) j0 Q):∃z,(∃w' Q',z=((0:Int),w')/\w'.length=m+1/\HA C m i (ga u) (ga v) (ga fr) (ga w') 0 Q')/\iter n (Uo x27) ((j0:Int),w)=some z:=by
 refine U6 (λk x=>∃(j0:Nat) (Q:Is) (w:By),x=((j0:Int),w)/\w.length=m+1/\HA C m i (ga u) (ga v) (ga fr) (ga w) j0 Q/\k=Q.length) _ (λk x hx'=>?_) n Q.length ((j0:Int),w) ⟨j0,Q,w,rfl,lw,h,rfl⟩ ?_
 ·obtain⟨j0,Q,w,rfl,lw,h,rfl⟩:=hx';by_cases hj:j0=0
  ·left;subst hj;exact⟨((0:Int),w),by simp[Uo],w,Q,rfl,lw,h⟩
  ·right;have hjm:j0<=m:=h.lm j0 AAk;obtain⟨x,Q',p1,p2,p3,p4,p5⟩:=h.next J;have uV:((j0:Int) != 0)=true:=ADJ
   have i1:Oi fr (j0:Int)=true:=PX J;have i2:Oi w (x:Int)=true:=PX J;have i3:Oi w (j0:Int)=true:=PX J;have e1:=US (l:=fr) (i:=j0) J;have e2:=US (l:=w) (i:=x) J;rw[p1]at e1;refine⟨((x:Int),w.set j0 (ga w x)),Q'.length,?_,⟨x,Q',w.set j0 (ga w x),rfl,by simp[lw],p5 _ ?_ (λj a b=>?_),rfl⟩,p3⟩
   ·simp only[Uo,uV,ABR,hx,i1,i2,i3,ABU,e1,e2,ABQ,QH]
   ·rw[UT J,AAP rfl]
   ·rw[UT J,AAQ b]
 ·have:=Za Q (List.range (m+1)) (AAc.1 h.nd).2 (λx hx=>by rw[AAX];have:=h.lm x (AAM _ hx);omega);simp at this;unfold Pa at hn;omega
theorem jT{a0:List By}{m i:Nat}(hc:CM a0 m){u v w:By}(lu:u.length=a0.length+1)(lv:v.length=m+1)(lw:w.length=m+1)(h1i:1<=i)(hiN:i<=a0.length)
  (hf:HF (cC a0) a0.length m (ga u) (ga v)) (ht:HT (cC a0) m (ga u) (ga v) (ga w)) (hm:HM m i (ga w)) (hw0:ga w 0=(i:Int)) (n:Nat) (hn:Pa<=n):
  ∃u' v' w',XB n a0 u v w (m:Int)=some (u',v',w')/\u'.length=a0.length+1/\v'.length=m+1/\w'.length=m+1/\HF (cC a0) a0.length m (ga u') (ga v')/\HT (cC a0) m (ga u') (ga v') (ga w')/\HM m (i+1) (ga w'):=by
 have hm10:=hc.m10;have e0:PV ((m:Int)+1)=((m+1:Nat):Int):=PR (show m<m+1 by omega) J
 have g0:(decide (0<=((m+1:Nat):Int))&&decide (((m+1:Nat):Int)<=(E8:Int))&&decide (((m+1:Nat):Int)=((m+1:Nat):Int)))=true:=by rw[ABW (show 0<=((m+1:Nat):Int) by omega),ABW (show((m+1:Nat):Int)<=(E8:Int) by unfold E8;omega)];simp
 obtain⟨⟨x1,u',v',ls,fr,us⟩,⟨j0,Q,⟨j,lu',lv',lf',hG,hz⟩⟩,h2⟩:=fW hc lw hm hw0 h1i hiN n hn (ls:=List.replicate (m+1) 1099511627776) (fr:=List.replicate (m+1) 0) (us:=List.replicate (m+1) false) lu lv OF OF OF hf ht (λk hk=>Xh _ _ _ J) (λk hk=>by grind);dsimp only at j lu' lv' lf' hG;subst j;obtain⟨z2,⟨w',Q',rfl,lw',hA⟩,h3⟩:=gk (fr:=fr) ((j0:Int),u',v',ls,fr,us) rfl lf' n hn lw hm10 (hG.sw hm hw0 h1i hz);obtain⟨d1,d2⟩:=hA.done;refine⟨u',v',w',?_,lu',lv',lw',hG.hf,d2,d1⟩;unfold XB;rw[e0,g0];simp only[ABR,ABU,gl m hm10 n hn,ABQ,h2,h3]
def P4(a0:List By):List (Nat->Int):=a0.map ga
theorem eC(a0:List By){r:Nat}(h:r<a0.length)(k:Nat):((P4 a0)[r]'(by simp only[P4,ABt];exact h)) k=cC a0 (r+1) (k+1):=by have e:(a0.map ga)[r]'(by simpa using h)=ga a0[r]:=ABl ..;show((a0.map ga)[r]'(by simpa using h)) k=_;rw[e];unfold cC;grind
theorem iO{P:Nat->Nat->Prop}:∀N:Nat,(∀r,r<N->∃k,P r k)->∃cs:Is,cs.length=N/\∀r (h:r<cs.length),P r cs[r]
 |0,_=>⟨[],rfl,λr h=>ADO⟩
 |N+1,h=>by obtain⟨cs,h1,h2⟩:=iO N (λr hr=>h r J);obtain⟨k,hk⟩:=h N J;refine⟨cs++[k],by simp[h1],λr hr=>?_⟩;grind
theorem fv(f:Nat->Int):∀(R:List (Nat->Int)) (cs:Is),cs.length=R.length->(∀r (h1:r<R.length) (h2:r<cs.length),R[r] cs[r]=f cs[r])->jd R cs=Qs (cs.map f)
 | [],[],_,_=>rfl
 | [],c::cs,h,_=>ADO
 |r::R,[],h,_=>ADO
 |r::R,c::cs,h,he=>by
  have h0:=he 0 OF OF;simp only[List.getElem_cons_zero]at h0;simp only[jd,ABE,Qs]
  rw[h0,fv f R cs ADQ (λr h1 h2=>by
   have:=he (r+1) ADJ ADJ;simpa only[List.getElem_cons_succ]using this)]
theorem iv(f h:Nat->Int):∀(cs:Is)(u:By),u.length=cs.length->(∀r (h1:r<cs.length) (h2:r<u.length),f cs[r]=u[r]+h cs[r])->Qs (cs.map f)=Qs u+Qs (cs.map h)
 | [],[],_,_=>rfl
 | [],c::cs,h,_=>ADO
 |r::R,[],h,_=>ADO
 |c::cs,x::u,hl,he=>by
  have h0:=he 0 OF OF;simp only[List.getElem_cons_zero]at h0
  have:=iv f h cs u No (λr h1 h2=>by
   have:=he (r+1) ADJ ADJ;grind)
  simp only[ABE,Qs];omega
theorem cA(hc:CM a0 m)(n:Nat)(hn:Pa<=n):∃s,SC n a0=some s/\ml (P4 a0) (List.range m) s:=by
 have hm10:=hc.m10;have hnm:=hc.nm;by_cases h0:a0.length=0
 ·have:a0=[]:=AAO h0;subst this;exact⟨0,by simp[SC],rfl,λy hy=>by simp only[P4,List.map_nil,AS]at hy;omega⟩
 have hg0:Iy a0 0=some a0[0]:=PS (show 0<a0.length by omega);have vq:a0[0].length=m:=hc.row _ (ABT (show 0<a0.length by omega));have uV:((a0.length:Int)==0)=false:=by simp;intro h;exact h0 (by simp[h])
 have e0:∀k:Nat,k<=10->PV ((k:Int)+1)=((k+1:Nat):Int)/\(decide (0<=((k+1:Nat):Int))&&decide (((k+1:Nat):Int)<=(E8:Int))&&decide (((k+1:Nat):Int)=((k+1:Nat):Int)))=true:=λk hk=>by refine⟨PR (show k<k+1 by omega) J,?_⟩;rw[ABW (show 0<=((k+1:Nat):Int) by omega),ABW (show((k+1:Nat):Int)<=(E8:Int) by unfold E8;omega)];simp
 obtain⟨z,⟨u,v,w,rfl,lu,lv,lw,hf,ht,hm⟩,hz⟩:=U6 (f:=T7 n a0 a0[0])
  (λk x=>∃(i:Nat) (u v w:By),x=((i:Int),u,v,w)/\1<=i/\k+i=a0.length+1/\u.length=a0.length+1/\v.length=m+1/\w.length=m+1/\HF (cC a0) a0.length m (ga u) (ga v)/\HT (cC a0) m (ga u) (ga v) (ga w)/\HM m i (ga w))
  (λz=>∃(u v w:By),z=(((a0.length+1:Nat):Int),u,v,w)/\u.length=a0.length+1/\v.length=m+1/\w.length=m+1/\HF (cC a0) a0.length m (ga u) (ga v)/\HT (cC a0) m (ga u) (ga v) (ga w)/\HM m (a0.length+1) (ga w))
  (λk x hx=>by
   obtain⟨i,u,v,w,rfl,h1,hk,lu,lv,lw,hf,ht,hm⟩:=hx;by_cases hi:i=a0.length+1
   ·left;subst hi;have hd:decide (((a0.length+1:Nat):Int)<=(a0.length:Int))=false:=by rw[AAn];omega
    exact⟨_,by simp only[T7,hd,ABS],u,v,w,rfl,lu,lv,lw,hf,ht,hm⟩
   ·right;have hd:decide ((i:Int)<=(a0.length:Int))=true:=by rw[AAe];omega
    have i0:Oi w 0=true:=PX (show 0<w.length by omega);have hs:∀j,1<=j->j<=m->ga (w.set 0 (i:Int)) j=ga w j:=λj a b=>by rw[UT J,AAQ J]
    obtain⟨u',v',w',g1,g2,g3,g4,g5,g6,g7⟩:=jT hc lu lv (w:=w.set 0 (i:Int)) (by simp[lw]) h1 J hf (ht.congr hs) (hm.congr hs) (by rw[UT J,AAP rfl]) n hn;refine⟨(((i+1:Nat):Int),u',v',w'),k-1,?_,⟨i+1,u',v',w',rfl,J,J,g2,g3,g4,g5,g6,g7⟩,J⟩;simp only[T7,hd,ABR,i0,QH,vq,g1,ABQ,PR (show i<a0.length+1 by omega) J,Int.toNat_zero])
  n a0.length (1,List.replicate (a0.length+1) 0,List.replicate (m+1) 0,List.replicate (m+1) 0) ⟨1,_,_,_,rfl,J,rfl,OF,OF,OF,⟨λr j r1 r2 j1 j2=>by
   rw[Xh _ _ _ J,Xh _ _ _ J];obtain⟨_,_,_,p,_⟩:=hc.at r1 r2 j1 j2;omega,λj a b=>by rw[Xh _ _ _ J];omega,λr a b=>by rw[Xh _ _ _ J];omega⟩,⟨λj r a b c d=>by rw[Xh _ _ _ J]at d;omega,λj a b c=>Xh _ _ _ J⟩,⟨λj a b=>by rw[Xh _ _ _ J];omega,λj k a b c d e f=>by rw[Xh _ _ _ J]at f;omega,λr a b=>J⟩⟩ ADF
 let f:Nat->Int:=λk=>if 0<ga w (k+1)then cC a0 (ga w (k+1)).toNat (k+1)else 0
 have fdef:∀k,f k=if 0<ga w (k+1)then cC a0 (ga w (k+1)).toNat (k+1)else 0:=λk=>rfl
 clear_value f
 have fb:∀k,k<m->0<=f k/\f k<=100000:=λk hk=>by
  rw[fdef];by_cases h:0<ga w (k+1)
  ·rw[AAP h];have:=hm.dN (k+1) J J;obtain⟨_,_,_,p,q⟩:=hc.at (r:=(ga w (k+1)).toNat) (j:=k+1) J J J J;exact⟨p,q⟩
  omega
 have sb:∀k:Nat,k<=m->0<=Qs ((List.range k).map f)/\Qs ((List.range k).map f)<=100000*(k:Int):=by
  intro k
  induction k with
  |zero=>intro _;simp[Qs]
  |succ k ih=>
   intro hk;obtain⟨p,q⟩:=ih J;have:=fb k J;rw[AB1,List.map_append,cZ];simp only[ABE,List.map_nil,Qs];omega
 have hsum:iter n (RL a0 a0[0] (((a0.length+1:Nat):Int),u,v,w)) (0,1)=some (Qs ((List.range m).map f),((m+1:Nat):Int)):=by
  have:=P0 (RL a0 a0[0] (((a0.length+1:Nat):Int),u,v,w)) (λk=>(Qs ((List.range k).map f),((k+1:Nat):Int))) m (Qs ((List.range m).map f),((m+1:Nat):Int)) (λk hk=>by
   have hd:decide (((k+1:Nat):Int)<=(a0[0].length:Int))=true:=by rw[AAe];omega
   have i1:Oi w ((k+1:Nat):Int)=true:=PX J;have e1:=US (l:=w) (i:=k+1) J;have hw1:PV (((k+1:Nat):Int)+1)=((k+1+1:Nat):Int):=PR (show k+1<m+1 by omega) J
   have hS:Qs ((List.range (k+1)).map f)=Qs ((List.range k).map f)+f k:=by rw[AB1,List.map_append,cZ];simp[Qs]
   by_cases h:0<ga w (k+1)
   ·have hdw:decide (ga w (k+1)>0)=true:=ABW h;have hfk:f k=cC a0 (ga w (k+1)).toNat (k+1):=No
    have:=hm.dN (k+1) J J;obtain⟨l,c1,c2,_,_⟩:=hc.at (r:=(ga w (k+1)).toNat) (j:=k+1) J J J J;have hcast:(((ga w (k+1)).toNat:Nat):Int)=ga w (k+1):=J
    rw[hcast]at c1;have b1:=sb k J;have b2:=fb k hk
    have hw2:PV (Qs ((List.range k).map f)+cC a0 (ga w (k+1)).toNat (k+1))=Qs ((List.range (k+1)).map f):=by rw[hS,hfk];exact PY J J
    simp only[RL,hd,ABR,i1,ABU,e1,ABQ,hdw,c1,c2,hw1,hw2]
   ·have hdw:decide (ga w (k+1)>0)=false:=ABa h;have hfk:f k=0:=No
    have hw2:Qs ((List.range k).map f)=Qs ((List.range (k+1)).map f):=by rw[hS,hfk];omega
    simp only[RL,hd,ABR,ABS,i1,ABU,e1,ABQ,hdw,hw1];rw[hw2]) (by
   have hd:decide (((m+1:Nat):Int)<=(a0[0].length:Int))=false:=by rw[AAn];omega
   simp only[RL,hd,ABS]) n ADF
  simpa[Qs]using this
 obtain⟨cs,cl,cp⟩:=iO (P:=λr k=>k<m/\ga w (k+1)=((r+1:Nat):Int)) a0.length (λr hr=>by
  obtain⟨j,j1,j2,e⟩:=hm.nR (r+1) J J;exact⟨j-1,J,No⟩)
 have cnd:cs.Nodup:=by unfold List.Nodup;rw[ABL];intro a b ha hb hab e;have p1:=(cp a ha).2;have p2:=(cp b hb).2;rw[e,p2]at p1;omega
 have cin:∀k∈cs,k∈List.range m:=λk hk=>by obtain⟨a,ha,rfl⟩:=ABV.1 hk;grind
 have coff:∀k∈List.range m,k∉cs->ga w (k+1)=0:=λk hk hn=>by
  rw[AAX]at hk;have hr:=hm.dN (k+1) J J;refine AAl λuV=>hn ?_;have uR:(ga w (k+1)).toNat-1<cs.length:=J
  obtain⟨p1,p2⟩:=cp _ uR;have:=hm.inj (cs[(ga w (k+1)).toNat-1]+1) (k+1) J J J J J J;grind
 have hR:(P4 a0).length=a0.length:=by simp[P4]
 have fc:∀r (h:r<cs.length),f cs[r]=cC a0 (r+1) (cs[r]+1):=λr h=>by have p2:=(cp r h).2;rw[fdef,p2,AAP J,ABU]
 have w8:Qs ((List.range m).map f)=Qs (cs.map f):=iG f cs (List.range m) cnd AB6 cin (λk hk hn=>by
  grind)
 have yE:jd (P4 a0) cs=Qs (cs.map f):=fv f (P4 a0) cs (by rw[hR,cl]) (λr h1 h2=>by
  rw[fc r h2,eC _ J])
 have hs3:Qs (cs.map f)=Qs ((List.range a0.length).map λr=>ga u (r+1))+Qs (cs.map λk=>ga v (k+1)):=iv f (λk=>ga v (k+1)) cs _ (by simp[cl]) (λr h1 h2=>by
  rw[fc r h1,ABl,List.getElem_range];obtain⟨p1,p2⟩:=cp r h1;exact(ht.tight (cs[r]+1) (r+1) J J J p2).symm)
 have hs4:Qs ((List.range m).map λk=>ga v (k+1))=Qs (cs.map λk=>ga v (k+1)):=iG _ cs (List.range m) cnd AB6 cin (λk hk hn=>by
  have hw:=coff k hk hn;rw[AAX]at hk;exact ht.free (k+1) J J hw)
 refine⟨Qs ((List.range m).map f),?_,?_,λy hy=>?_⟩
 ·unfold SC;rw[uV,ABS,hg0,ABQ,vq,(e0 a0.length J).1,(e0 m hm10).1,(e0 a0.length J).2,(e0 m hm10).2];simp only[ABR,ABU,hz,ABQ,hsum]
 ·rw[w8,<-yE];exact AS.of (P4 a0) cs (List.range m) (by rw[hR,cl]) cnd cin
 ·have:=AS.ge (λk=>ga v (k+1)) (P4 a0) ((List.range a0.length).map λr=>ga u (r+1)) (List.range m) y (by simp[P4]) (λr hr hu k hk=>by
   rw[AAX]at hk;have hra:r<a0.length:=by rw[hR]at hr;exact hr
   have:=hf.kI (r+1) (k+1) J J J J;rw[ABl,List.getElem_range];have e:(P4 a0)[r] k=cC a0 (r+1) (k+1):=eC _ hra k;rw[e];exact this) (λk hk=>by
   rw[AAX]at hk;exact hf.nM (k+1) J J) hy
  omega
structure RB(R:List (Nat->Int))(m:Nat):Prop where
 b:∀r∈R,∀k,k<m->0<=r k/\r k<=100000
 l:R.length<=10
theorem CM.rb(h:CM a0 m):RB (P4 a0) m:=by
 refine⟨λr hr k hk=>?_,?_⟩
 ·obtain⟨l,hl,rfl⟩:=AAs.1 hr;have:=h.row l hl;have hg:l[k]?=some (ga l k):=US J;exact h.Mm l hl _ (AAN hg)
 ·have:=h.nm;have:=h.m10;simp only[P4,ABt];omega
theorem aD(hc:CM a0 m)(n:Nat)(hn:Pa<=n):V4 n a0=some true:=by
 have hm10:=hc.m10;have hnm:=hc.nm
 have h1:=TU (Tx n a0) a0 (λ_=>true) (λi x hi hx=>by
  obtain⟨_,rfl⟩:=AAK.1 hx;have hl:=hc.row _ (ABT hi);have h0:0<a0.length:=J
  have vq:=hc.row _ (ABT h0)
  have h2:=TU (Tz a0 (i:Int)) a0[i] (λ_=>true) (λk y hk hy=>by
   obtain⟨_,rfl⟩:=AAK.1 hy;have hb:=hc.Mm _ (ABT hi) _ (ABT hk);have hd:decide ((k:Int)<(a0[i].length:Int))=true:=by rw[AAe];omega
   have uO:Pd a0[i][k] 0 100000=some true:=by rw[Qh];unfold P8;rw[ABW hb.1,ABW hb.2];rfl
   simp only[Tz,hd,ABR,PS hi,PS hk,ABQ,uO,ABZ,ABS,PR hk J]) (by
   have hd:decide ((a0[i].length:Int)<(a0[i].length:Int))=false:=OF
   simp only[Tz,PS hi,ABQ,hd,ABS]) n ADF
  have hd:decide ((i:Int)<(a0.length:Int))=true:=by rw[AAe];omega
  have vY:a0[i].all (λ_=>true)=true:=OF
  rw[vY,ABR]at h2;have hg0:Iy a0 0=some a0[0]:=PS h0;have uV:((m:Int) != (m:Int))=false:=OF
  have h10:decide ((m:Int)>10)=false:=by rw[AAn];omega
  have uR:decide ((m:Int)<(a0.length:Int))=false:=by rw[AAn];omega
  simp only[Tx,hd,ABR,PS hi,hg0,ABQ,vq,hl,uV,h10,uR,ABS,h2,PR hi J]
  ) (by
  have hd:decide ((a0.length:Int)<(a0.length:Int))=false:=OF
  simp only[Tx,hd,ABS]) n ADF
 have vY:a0.all (λ_=>true)=true:=OF
 rw[vY,ABR]at h1;unfold V4;grind
def Pc(l:Is):By:=l.map λk:Nat=>(k:Int)
theorem Zu(h:S.Nodup)(hj:j<S.length):S.erase S[j]=S.eraseIdx j:=by
 have hs:S=S.take j++S[j]::S.drop (j+1):=by rw[<-ABg hj,AB2]
 grind
theorem cI(h:S.Nodup)(hi:i<S.length)(hj:j<S.length)(e:S[i]=S[j]):i=j:=by
 rcases ABd i j with h1|h1|h1
 ·exact absurd e (ABL.1 h i j hi hj h1)
 ·exact h1
 ·exact absurd e.symm (ABL.1 h j i hj hi h1)
theorem jK(g:Nat->Nat)(hn:S.Nodup)(hg:∀a∈S,∀b∈S,g a=g b->a=b){k:Nat}(hk:k∈S):(S.map g).erase (g k)=(S.erase k).map g:=by
 have hm:(S.map g).Nodup:=by unfold List.Nodup;rw[ABh];exact AB8 (fun {a b} ha hb hab e=>hab (hg a ha b hb e)) hn
 rw[hm.erase_eq_filter,hn.erase_eq_filter,List.filter_map];congr 1;refine List.filter_congr λx hx=>?_;grind
theorem AS.rename(g:Nat->Nat):∀(R:List (Nat->Int)) (S:Is) (x:Int),S.Nodup->(∀a∈S,∀b∈S,g a=g b->a=b)->(AS (R.map λr k=>r (g k)) S x↔AS R (S.map g) x)
 | [],S,x,_,_=>Iff.rfl
 |r::R,S,x,hn,hg=>by
  have ih:∀k∈S,∀y,AS (R.map λr k=>r (g k)) (S.erase k) y↔AS R ((S.map g).erase (g k)) y:=λk hk y=>by rw[jK g hn hg hk];exact AS.rename g R (S.erase k) y (hn.erase k) (λa ha b hb=>hg a (ABk ha) b (ABk hb))
  refine⟨λ⟨k,hk,y,hy,e⟩=>⟨g k,List.mem_map_of_mem hk,y,(ih k hk y).1 hy,e⟩,λ⟨q,hq,y,hy,e⟩=>?_⟩;obtain⟨k,hk,rfl⟩:=AAs.1 hq;exact⟨k,hk,y,(ih k hk y).2 hy,e⟩
theorem AS.mv:∀(R R2:List (Nat->Int)) (S:Is) (x:Int),R.length=R2.length->(∀i (h1:i<R.length) (h2:i<R2.length),∀k∈S,R[i] k=R2[i] k)->AS R S x->AS R2 S x
 | [],[],S,x,_,_,h=>h
 | [],r::R2,S,x,hl,_,_=>ADd
 |r::R,[],S,x,hl,_,_=>ADd
 |r::R,r2::R2,S,x,hl,hc,⟨k,hk,y,hy,e⟩=>by have h0:=hc 0 OF OF k hk;simp only[List.getElem_cons_zero]at h0;refine⟨k,hk,y,AS.mv R R2 (S.erase k) y No (λi h1 h2 q hq=>?_) hy,by rw[e,h0]⟩;have:=hc (i+1) ADJ ADJ q (ABk hq);simpa only[List.getElem_cons_succ]using this
def Q6(rows:List By)(S:Is):List By:=rows.map λr=>S.map (ga r)
theorem ik(rows:List By)(hn:S.Nodup)(x:Int):AS (P4 (Q6 rows S)) (List.range S.length) x↔AS (P4 rows) S x:=by
 have hS:(List.range S.length).map (λk=>S.getD k 0)=S:=by apply AB7 OF;intro i h1 h2;simp[AAI h2]
 have e:AS ((P4 rows).map λ(r:Nat->Int) k=>r (S.getD k 0)) (List.range S.length) x↔AS (P4 rows) S x:=by
  have:=AS.rename (λk=>S.getD k 0) (P4 rows) (List.range S.length) x AB6 (λa ha b hb h=>by
   rw[AAX]at ha hb;simp only[List.getD,AAI ha,AAI hb,AA7]at h;exact cI hn ha hb h)
  rw[hS]at this;exact this
 have same:∀i (h1:i<(P4 (Q6 rows S)).length) (h2:i<((P4 rows).map λ(r:Nat->Int) k=>r (S.getD k 0)).length),∀k∈List.range S.length,(P4 (Q6 rows S))[i] k=((P4 rows).map λ(r:Nat->Int) k=>r (S.getD k 0))[i] k:=λi h1 h2 k hk=>by
  rw[AAX]at hk;have hi:i<rows.length:=by simpa[P4,Q6]using h1
  have e1:(P4 (Q6 rows S))[i]=ga (S.map (ga rows[i])):=by simp[P4,Q6]
  have e2:((P4 rows).map λ(r:Nat->Int) k=>r (S.getD k 0))[i]=λk=>ga rows[i] (S.getD k 0):=by simp[P4]
  rw[e1,e2];show ga (S.map (ga rows[i])) k=ga rows[i] (S.getD k 0);rw[List.getD,AAI hk,AA7];generalize ga rows[i]=f;unfold ga;grind
 have hl:(P4 (Q6 rows S)).length=((P4 rows).map λ(r:Nat->Int) k=>r (S.getD k 0)).length:=by simp[P4,Q6]
 exact⟨λh=>e.1 (AS.mv _ _ _ x hl same h),λh=>AS.mv _ _ _ x hl.symm (λi h1 h2 k hk=>(same i h2 h1 k hk).symm) (e.2 h)⟩
theorem mG(hc:CM a0 m)(i:Nat)(hs:∀k∈S,k<m)(hl:a0.length-i<=S.length)(h10:S.length<=10):CM (Q6 (a0.drop i) S) S.length:=by
 refine⟨λr hr=>?_,by simp[Q6];omega,h10,λr hr x hx=>?_⟩
 ·obtain⟨q,_,rfl⟩:=AAs.1 hr;simp
 ·obtain⟨q,hq,rfl⟩:=AAs.1 hr;obtain⟨k,hk,rfl⟩:=AAs.1 hx;have hq2:=List.mem_of_mem_drop hq;have:=hc.row q hq2;have hg:q[k]?=some (ga q k):=US No;exact hc.Mm q hq2 _ (AAN hg)
theorem Xe(x:List α)(j:Nat):sub x 0 j=x.take j:=by simp[sub]
theorem Zn(x:List α)(j:Nat):sub x j x.length=x.drop j:=by unfold sub;exact AB0 OF
theorem Zl(rows:List By)(hl:rows.length<=10)(h10:S.length<=10)(hj:j<S.length)(n:Nat)(hn:Pa<=n):R1 n (Q6 rows S) (j:Int)=some (Q6 (rows.drop 1) (S.eraseIdx j)):=by
 have hL:(Q6 rows S).length=rows.length:=by simp[Q6]
 by_cases h0:rows.length=0
 ·have:rows=[]:=AAO h0;subst this;obtain⟨k,rfl⟩:∃k,n=k+1:=⟨n-1,ADF⟩;unfold R1;rw[Pw (z:=(([]:List By),(1:Int))) (by simp[RS,Q6])];rfl
 have hw:PV ((j:Int)+1)=((j+1:Nat):Int):=PR hj J
 have:=P0 (RS (Q6 rows S) (j:Int)) (λi=>((Q6 (rows.drop 1) (S.eraseIdx j)).take i,((i+1:Nat):Int))) (rows.length-1) (Q6 (rows.drop 1) (S.eraseIdx j),(rows.length:Int)) (λi hi=>by
  have hi1:i+1<(Q6 rows S).length:=by rw[hL];omega
  have hd:decide (((i+1:Nat):Int)<((Q6 rows S).length:Int))=true:=by rw[AAe];omega
  have hg:Iy (Q6 rows S) ((i+1:Nat):Int)=some (S.map (ga (rows[i+1]'(by omega)))):=by rw[PS hi1];simp[Q6]
  generalize hr:rows[i+1]'(by omega)=r at hg;have hlen:(S.map (ga r)).length=S.length:=OF
  have c1:decide (0<=(0:Int))=true:=rfl;have c2:decide ((0:Int)<=(j:Int))=true:=by rw[AAe];omega
  have c3:decide ((j:Int)<=((S.map (ga r)).length:Int))=true:=by rw[AAe,hlen];omega
  have c4:decide ((0:Int)<=((j+1:Nat):Int))=true:=by rw[AAe];omega
  have c5:decide (((j+1:Nat):Int)<=((S.map (ga r)).length:Int))=true:=by rw[AAe,hlen];omega
  have c6:decide (((S.map (ga r)).length:Int)<=((S.map (ga r)).length:Int))=true:=OF
  have c7:decide (([]:By).length+(sub (S.map (ga r)) 0 j).length<=E8)=true:=by rw[Xe,AAe];simp[E8];omega
  have c8:decide ((([]:By)++sub (S.map (ga r)) 0 j).length+(sub (S.map (ga r)) (j+1) (S.map (ga r)).length).length<=E8)=true:=by rw[Xe,Zn,AAe];simp[E8];omega
  have c9:∀q:By,decide (((Q6 (rows.drop 1) (S.eraseIdx j)).take i).length+[q].length<=E8)=true:=λq=>by rw[AAe];simp[E8,Q6];omega
  have hw2:PV (((i+1:Nat):Int)+1)=((i+1+1:Nat):Int):=PR (show i+1<rows.length by omega) J
  have wW:([]:By)++sub (S.map (ga r)) 0 j++sub (S.map (ga r)) (j+1) (S.map (ga r)).length=(S.eraseIdx j).map (ga r):=by rw[Xe,Zn,AAv,List.eraseIdx_eq_take_drop_succ,List.map_append,List.map_take,List.map_drop]
  simp only[RS,hd,ABR,hg,ABQ,c1,c2,c3,hw,c4,c5,c6,ACD,Int.toNat_zero,ABU,c7,c8,c9,hw2,wW];congr 4;have hi2:i<(Q6 (rows.drop 1) (S.eraseIdx j)).length:=by simp[Q6];omega
  rw[ABb hi2];congr 2;simp only[Q6,ABl,List.getElem_drop];rw[<-hr];congr 3;omega) (by
  have hd:decide (((rows.length-1+1:Nat):Int)<((Q6 rows S).length:Int))=false:=by rw[AAn,hL];omega
  simp only[RS,hd,ABS];rw[AB0 (by simp[Q6]),show rows.length-1+1=rows.length by omega]) n ADF
 unfold R1;grind
theorem Yu(hc:CM a0 m)(h0:a0=[]->m=0)(n:Nat)(hn:Pa<=n):∃s,Wi n a0=some (Pc (pk (P4 a0) (List.range m)),s)/\aW (P4 a0) (List.range m)=some s:=by
 have hm10:=hc.m10;have hnm:=hc.nm;have rb:=hc.rb;have hR:(P4 a0).length=a0.length:=by simp[P4]
 obtain⟨s0,hs0,hL0⟩:=cA hc n hn;have yT:=iL hL0
 have hnames:iter n (Th a0) (([]:By),0)=some (Pc (List.range m),(m:Int)):=by
  have:=P0 (Th a0) (λi=>(Pc (List.range i),(i:Int))) m (Pc (List.range m),(m:Int)) (λi hi=>by
   have hl:0<a0.length:=by
    rcases Nat.eq_zero_or_pos a0.length with e|e
    ·have:=h0 (AAO e);omega
    ·exact e
   have hd:decide ((a0.length:Int)>0)=true:=by rw[AAe];omega
   have hg:Iy a0 0=some a0[0]:=PS hl;have hd2:decide ((i:Int)<(a0[0].length:Int))=true:=by rw[AAe,hc.row _ (ABT hl)];omega
   have hr:decide ((Pc (List.range i)).length+[(i:Int)].length<=E8)=true:=TG (by simp[Pc];omega);simp only[Th,hd,ABR,hg,ABQ,hd2,hr,PR hi J];congr 3;simp[Pc,AB1]) (by
   by_cases e:a0=[]
   ·subst e;rw[h0 rfl];rfl
   ·have hl:0<a0.length:=List.length_pos_iff.2 e;have hd:decide ((a0.length:Int)>0)=true:=by rw[AAe];omega
    have hg:Iy a0 0=some a0[0]:=PS hl;have hd2:decide ((m:Int)<(a0[0].length:Int))=false:=by rw[AAn,hc.row _ (ABT hl)];omega
    simp only[Th,hd,ABR,hg,ABQ,hd2,ABS]) n ADF
  simpa[Pc]using this
 obtain⟨z,hz1,hz⟩:=U6 (f:=VR n)
  (λk x=>∃(i:Nat) (S:Is) (out:By) (left:Int),x=(out,left,Q6 (a0.drop i) S,Pc S)/\i+k=a0.length/\S.Nodup/\(∀k∈S,k<m)/\a0.length-i<=S.length/\S.length<=10/\aW ((P4 a0).drop i) S=some left/\out++Pc (pk ((P4 a0).drop i) S)=Pc (pk (P4 a0) (List.range m))/\out.length=i)
  (λz=>z.1=Pc (pk (P4 a0) (List.range m)))
  (λk x hx=>by
   obtain⟨i,S,out,left,rfl,hk,vd,hsm,hl,h10,hb,wU,hol⟩:=hx;have hLen:(Q6 (a0.drop i) S).length=a0.length-i:=by simp[Q6]
   by_cases hi:i=a0.length
   ·left;subst hi;have hd:decide (((Q6 (a0.drop a0.length) S).length:Int)>0)=false:=by rw[AAn,hLen];omega
    refine⟨(out,left,Q6 (a0.drop a0.length) S,Pc S),by simp only[VR,hd,ABS],?_⟩;rw[List.drop_of_length_le (by rw[hR];exact AAb _)]at wU;simpa only[pk,Pc,List.map_nil,AA1]using wU
   ·right;have vw:i<a0.length:=J
    have hd:decide (((Q6 (a0.drop i) S).length:Int)>0)=true:=by rw[AAe,hLen];omega
    have hdrop:(P4 a0).drop i=ga a0[i]::(P4 a0).drop (i+1):=by rw[ABg J];congr 1;exact ABl ..
    have uZ:=hb;rw[hdrop]at uZ;obtain⟨q,hq,hf,y,hy,hxy⟩:=iW uZ;obtain⟨hpq,pre,bs,hSab,hfail⟩:=List.find?_eq_some_iff_append.1 hf;have hj:pre.length<S.length:=by rw[hSab];simp
    have hSj:S[pre.length]=q:=by simp[hSab]
    have hg0:Iy (Q6 (a0.drop i) S) 0=some (S.map (ga a0[i])):=by rw[show(0:Int)=((0:Nat):Int)from rfl,PS (by rw[hLen];omega)];simp[Q6]
    have hRd:∀i,P4 (a0.drop i)=(P4 a0).drop i:=λi=>by simp[P4,List.map_drop]
    have lst:∀j (hj:j<S.length),∃v,SC n (Q6 (a0.drop (i+1)) (S.eraseIdx j))=some v/\aW ((P4 a0).drop (i+1)) (S.erase S[j])=some v/\0<=v/\v<=1000000:=λj hj=>by
     have hnd2:(S.eraseIdx j).Nodup:=vd.sublist (List.eraseIdx_sublist ..);have uk:(S.eraseIdx j).length=S.length-1:=by rw[List.length_eraseIdx,AAP hj]
     have hsm2:∀k∈S.eraseIdx j,k<m:=λk hk=>hsm k (List.mem_of_mem_eraseIdx hk);obtain⟨v,v1,v2⟩:=cA (mG hc (i+1) hsm2 J J) n hn
     have v3:ml ((P4 a0).drop (i+1)) (S.erase S[j]) v:=by rw[Zu vd hj,<-hRd];exact⟨(ik _ hnd2 v).1 v2.1,λy hy=>v2.2 y ((ik _ hnd2 y).2 hy)⟩
     have v4:=iL v3;refine⟨v,v1,v4,gR v4 (λr hr k hk=>(rb.b r (List.mem_of_mem_drop hr) k (hsm k (ABk hk))).1),?_⟩;have:=mu v4 (M:=100000) J (λr hr k hk=>(rb.b r (List.mem_of_mem_drop hr) k (hsm k (ABk hk))).2);rw[List.length_drop,hR]at this;omega
    have wo:∀j,j<S.length->R1 n (Q6 (a0.drop i) S) (j:Int)=some (Q6 (a0.drop (i+1)) (S.eraseIdx j)):=λj hj=>by
     rw[Zl (a0.drop i) ADJ h10 hj n hn,List.drop_drop]
    have cost:∀j (hj:j<S.length),Iy (S.map (ga a0[i])) (j:Int)=some (ga a0[i] S[j])/\0<=ga a0[i] S[j]/\ga a0[i] S[j]<=100000:=λj hj=>by refine⟨?_,rb.b (ga a0[i]) (List.mem_map_of_mem (ABT vw)) _ (hsm _ (ABT hj))⟩;rw[PS ADW];simp
    have uO:iter n (Ti n) (out,left,Q6 (a0.drop i) S,Pc S,0)=some (out++[(q:Int)],y,Q6 (a0.drop (i+1)) (S.erase q),Pc (S.erase q),(pre.length:Int)):=by
     have:=P0 (Ti n) (λj=>(out,left,Q6 (a0.drop i) S,Pc S,(j:Int))) pre.length (out++[(q:Int)],y,Q6 (a0.drop (i+1)) (S.erase q),Pc (S.erase q),(pre.length:Int)) (λj hja=>by
      have hjS:j<S.length:=J
      have hdj:decide ((j:Int)<((S.map (ga a0[i])).length:Int))=true:=by rw[AAe];simp;omega
      obtain⟨v,v1,v2,v3,v4⟩:=lst j hjS;obtain⟨c1,c2,c3⟩:=cost j hjS;have hww:PV (ga a0[i] S[j]+v)=ga a0[i] S[j]+v:=PY J J
      have uV:(ga a0[i] S[j]+v==left)=false:=by
       have xR:S[j]∈pre:=by
        have:S[j]=pre[j]:=by simp[hSab,hja]
        rw[this];exact ABT hja
       have:=hfail S[j] xR;rw[v2,uZ]at this;simpa using this
      simp only[Ti,hg0,ABQ,hdj,ABR,wo j hjS,c1,v1,hww,uV,ABS,PR hja J]) (by
      have hdj:decide ((pre.length:Int)<((S.map (ga a0[i])).length:Int))=true:=by rw[AAe];simp;omega
      obtain⟨v,v1,v2,v3,v4⟩:=lst pre.length hj;obtain⟨c1,c2,c3⟩:=cost pre.length hj;rw[hSj]at v2 c1 c2 c3;rw[hy]at v2;injection v2 with v2
      subst v2;have hww:PV (ga a0[i] q+y)=ga a0[i] q+y:=PY J J;have he:(ga a0[i] q+y==left)=true:=by rw[<-hxy];simp
      have zd:(Pc S).length=S.length:=by simp[Pc]
      have i1:Oi (Pc S) (pre.length:Int)=true:=PX J
      have e1:(Pc S)[pre.length]?=some (q:Int):=by unfold Pc;rw[AAZ,AAI hj,hSj];rfl
      have r1:decide (out.length+[(q:Int)].length<=E8)=true:=TG J;have nh:PV ((pre.length:Int)+1)=((pre.length+1:Nat):Int):=PR hj J;have hwl:PV (left-ga a0[i] q)=y:=by rw[hxy,PY J J];omega
      have d1:decide (0<=(0:Int))=true:=rfl;have d2:decide ((0:Int)<=(pre.length:Int))=true:=by rw[AAe];omega
      have d3:decide ((pre.length:Int)<=((Pc S).length:Int))=true:=by rw[AAe,zd];omega
      have d4:decide ((0:Int)<=((pre.length+1:Nat):Int))=true:=by rw[AAe];omega
      have d5:decide (((pre.length+1:Nat):Int)<=((Pc S).length:Int))=true:=by rw[AAe,zd];omega
      have d6:decide (((Pc S).length:Int)<=((Pc S).length:Int))=true:=OF
      have c7:decide (([]:By).length+(sub (Pc S) 0 pre.length).length<=E8)=true:=by rw[Xe,AAe];simp[E8,Pc];omega
      have c8:decide ((([]:By)++sub (Pc S) 0 pre.length).length+(sub (Pc S) (pre.length+1) (Pc S).length).length<=E8)=true:=by rw[Xe,Zn,AAe];simp[E8,Pc];omega
      have wW:([]:By)++sub (Pc S) 0 pre.length++sub (Pc S) (pre.length+1) (Pc S).length=Pc (S.erase q):=by rw[Xe,Zn,AAv,<-hSj,Zu vd hj,List.eraseIdx_eq_take_drop_succ];simp[Pc]
      have wy:S.eraseIdx pre.length=S.erase q:=by rw[<-Zu vd hj,hSj]
      simp only[Ti,hg0,ABQ,hdj,ABR,wo pre.length hj,c1,v1,hww,he,i1,e1,r1,d1,d2,d3,d4,d5,d6,nh,hwl,ACD,Int.toNat_zero,ABU,c7,c8,wW];rw[wy]) n ADF
     simpa using this
    have we:pk ((P4 a0).drop i) S=q::pk ((P4 a0).drop (i+1)) (S.erase q):=by rw[hdrop];simp only[pk,hf]
    have uk:(S.erase q).length=S.length-1:=List.length_erase_of_mem hq;refine⟨(out++[(q:Int)],y,Q6 (a0.drop (i+1)) (S.erase q),Pc (S.erase q)),k-1,?_,⟨i+1,S.erase q,out++[(q:Int)],y,rfl,J,vd.erase q,λk hk=>hsm k (ABk hk),J,J,hy,?_,by simp[hol]⟩,J⟩
    ·simp only[VR,hd,ABR,uO,ABQ]
    ·rw[<-wU,we];simp[Pc])
  n a0.length (([]:By),s0,a0,Pc (List.range m)) ⟨0,List.range m,[],s0,by
   congr 3;rw[List.drop_zero];unfold Q6;apply AB7 OF;intro r h1 h2;rw[ABl];have hl:=hc.row _ (ABT h1);apply AB7 (by simp[hl]);intro k k1 k2;rw[ABl,List.getElem_range];unfold ga;rw[List.getD,AAI k1,AA7],J,AB6,λk hk=>AAX.1 hk,ADJ,ADJ,yT,rfl,rfl⟩ ADF
 refine⟨s0,?_,yT⟩;unfold Wi;rw[aD hc n hn];grind
theorem bS{β:Type}(L:List β×Int->Option ((List β×Int)⊕(List β×Int)))(f:Nat->β)(m:Nat)
  (hL:∀i,i<m->L ((List.range i).map f,(i:Int))=some (.inl ((List.range i).map f++[f i],((i+1:Nat):Int)))) (he:L ((List.range m).map f,(m:Int))=some (.inr ((List.range m).map f,(m:Int)))) (n:Nat) (hn:m<n):
  iter n L ([],0)=some ((List.range m).map f,(m:Int)):=by
 have:=P0 L (λi=>((List.range i).map f,(i:Int))) m ((List.range m).map f,(m:Int)) (λi hi=>by
  rw[hL i hi,AB1,List.map_append];rfl) he n hn
 grind
def VE(w h:Int)(c:By)(a b:Int):Int:=(Sx Pa w h c a b).getD (-1)
theorem cX(hc:c.length<=1048576)(hf:Ph w h c=true)(a b:Int)(n:Nat)(hn:Pa<=n):
  Sx n w h c a b=some (VE w h c a b)/\U0 n w h c a b=some (VE w h c a b) /\ -1<=VE w h c a b/\VE w h c a b<100:=by
 have f:=TS hf;have hN:=f.le
 have ur:∀(n:Nat),Pa<=n->∀i,S0 n w h c i=some (P8 i 0 ((c.length:Int)-1)):=λn hn i=>by unfold S0;rw[P3 w h c hc n hn,hf,show PV ((c.length:Int)-1)=(c.length:Int)-1 from PY ADI ADI];simp only[ABQ,ABR,Qh]
 have hic:∀i,Sr w h c i=some (P8 i 0 ((c.length:Int)-1)):=λi=>by unfold Sr;rw[show PV ((c.length:Int)-1)=(c.length:Int)-1 from PY ADI ADI];simp only[ABQ,bp];rfl
 have key:∃s, -1<=s/\s<100/\∀n,Pa<=n->Sx n w h c a b=some s/\U0 n w h c a b=some s:=by
  cases hb:QQ c b with
  |false=>
   refine⟨-1,J,J,λn hn=>⟨?_,?_⟩⟩
   ·unfold Sx Wh;rw[ur n hn b];cases hi:P8 b 0 ((c.length:Int)-1)with
    |false=>rfl
    |true=>
     obtain⟨m,rfl,hm⟩:=XG hi;unfold QQ at hb;rw[hi,ABp]at hb;have hg:(c[m]==0)=true:=by simpa[hm]using hb
     simp only[ABQ,ABZ,ABS,PS hm,hg,ABR];rfl
   ·obtain⟨k,k1,k2⟩:=Sq w h c hc hf b n hn;rw[hb]at k2;have k3:(k==0)=true:=by simpa using k2
    unfold U0;rw[k1];simp only[ABQ,k3,ABR]
  |true=>
   have hbr:0<=b/\b<(c.length:Int):=by unfold QQ P8 at hb;simp only[AAJ,AAe]at hb;omega
   have hib:P8 b 0 ((c.length:Int)-1)=true:=by unfold P8;simp only[AAJ,AAe];omega
   obtain⟨m,rfl,hm⟩:=XG hib
   have hg:(c[m]==0)=false:=by unfold QQ at hb;rw[hib,ABp]at hb;simpa[hm]using hb
   obtain⟨F,hF,hl,hbd⟩:=fL f hbr false;have uV:((F.length:Int)==0)=false:=by simp;intro e;rw[e]at hl;simp at hl;omega
   have hsf:∀n,Pa<=n->Wh n w h c (m:Int) false=some F:=λn hn=>by unfold Wh;simp only[ur n hn,hib,ABQ,ABZ,ABS,PS hm,hg,(hF n hn).1]
   have hkk:∀n,Pa<=n->∃k,Q0 n w h c (m:Int)=some k/\(k==0)=false:=λn hn=>by obtain⟨k,k1,k2⟩:=Sq w h c hc hf (m:Int) n hn;rw[hb]at k2;exact⟨k,k1,by simpa using k2⟩
   cases hia:P8 a 0 ((c.length:Int)-1)with
   |false=>
    refine⟨-1,J,J,λn hn=>⟨?_,?_⟩⟩
    ·unfold Sx;simp only[hsf n hn,ABQ,uV,ABS,ur n hn,hia,ABq,ABR]
    ·obtain⟨k,k1,k2⟩:=hkk n hn;unfold U0;simp only[k1,ABQ,k2,ABS,hic,hia,ABq,ABR]
   |true=>
    obtain⟨q,rfl,hq⟩:=XG hia;have hqF:q<F.length:=J
    have w6:=hbd _ (ABT hqF);refine⟨F[q],w6.1,J,λn hn=>⟨?_,?_⟩⟩
    ·unfold Sx;simp only[hsf n hn,ABQ,uV,ABS,ur n hn,hia,ABZ,PX hqF,ABU,AAI hqF,ABR]
    ·obtain⟨k,k1,k2⟩:=hkk n hn;unfold U0;simp only[k1,ABQ,k2,ABS,hic,hia,ABZ,(hF n hn).2,PX hqF,ABU,AAI hqF,ABR]
 obtain⟨s,s1,s2,s3⟩:=key;have e:VE w h c a b=s:=by unfold VE;rw[(s3 Pa (AAb _)).1];rfl
 grind
def Ux(w h:Int)(c:By)(a b:Int):Int:=if VE w h c a b<0 then 100000 else VE w h c a b
def R5(a:It)(id:Int):Int:=(Qf Pa a id).getD (-1)
theorem Ro(a:It)(hl:a.length<=1048576)(id:Int)(n:Nat)(hn:Pa<=n):Qf n a id=some (R5 a id)/\(R5 a id = -1/\(∀p∈a,p.1≠id)\/∃i,∃h:i<a.length,R5 a id=(i:Int)/\a[i].1=id):=by
 have hs:∀(i:Nat)(x:Pb),i<a.length->a[i]?=some x->Rc a id (i:Int)=some (bif x.1==id then .inr (.inr (i:Int))else .inl ((i+1:Nat):Int)):=λi x h1 h2=>by
  have hx:a[i]=x:=by rw[AAI h1]at h2;exact Option.some.inj h2
  simp only[Rc,PS h1,hx,ABQ,PR h1 (show a.length<=9223372036854775807 by clear hn;omega)];rw[show decide ((i:Int)<(a.length:Int))=true by simpa using h1];cases hq:(x.1==id)<;>rfl
 have he:Rc a id (a.length:Int)=some (.inr (.inl (a.length:Int))):=by simp[Rc]
 have key:∃v:Int,(∀n,Pa<=n->Qf n a id=some v)/\(v = -1/\(∀p∈a,p.1≠id)\/∃i,∃h:i<a.length,v=(i:Int)/\a[i].1=id):=by
  cases hf:a.findIdx? λp=>p.1==id with
  |none=>
   have yO:∀p∈a,p.1≠id:=λp hp=>by have:=List.findIdx?_eq_none_iff.1 hf p hp;simpa using this
   refine⟨-1,λn hn=>?_,.inl ⟨rfl,yO⟩⟩
   have:=P0 (Rc a id) (λi=>(i:Int)) a.length (.inl (a.length:Int)) (λi hi=>by
    rw[hs i a[i] hi (AAI hi),show(a[i].1==id)=false by simpa using yO _ (ABT hi),ABS]) he n ADF
   unfold Qf;rw[show((0:Nat):Int)=0 from rfl]at this;rw[this];rfl
  |some i=>
   obtain⟨hi,hp,hb⟩:=List.findIdx?_eq_some_iff_getElem.1 hf;have hp':a[i].1=id:=by simpa using hp
   refine⟨(i:Int),λn hn=>?_,.inr ⟨i,hi,rfl,hp'⟩⟩
   have:=P0 (Rc a id) (λi=>(i:Int)) i (.inr (i:Int)) (λj hj=>by
    have uZ:=hb j hj;rw[hs j a[j] J (AAI J),show(a[j].1==id)=false by simpa using uZ,ABS]) (by
    rw[hs i a[i] hi (AAI hi),show(a[i].1==id)=true by simpa using hp',ABR]) n ADF
   unfold Qf;rw[show((0:Nat):Int)=0 from rfl]at this;rw[this];rfl
 obtain⟨v,v1,v2⟩:=key;have e:R5 a id=v:=by unfold R5;rw[v1 Pa (AAb _)];rfl
 grind
theorem cL:Wb=Qf:=rfl
abbrev Pt:=Int×Int×Int×Bool×Int
abbrev ADC:=List Pt
abbrev Pm:=Int×Int×Int×Int
abbrev AAH:=List Pm
def eN(l:AAH)(r:Pt):Bool:=r.2.2.1 == -1 && !r.2.2.2.1&&l.all λt => !(t.2.2.1==r.1)
def UD(crew:ADC)(l:AAH)(i:Nat):Bool:=match crew[i]? with
 |some r=>eN l r
 |none=>false
def Pn(crew:ADC)(l:AAH):Is:=((List.range crew.length).filter (UD crew l)).take 10
theorem Y7{crew:ADC}{l:AAH}{k:Nat}(h:k∈Pn crew l):∃hk:k<crew.length,eN l crew[k]=true:=by have:=AB5 h;obtain⟨h1,h2⟩:=ABj.1 this;rw[AAX]at h1;refine⟨h1,?_⟩;unfold UD at h2;grind
theorem Y6(crew:ADC)(l:AAH):(Pn crew l).length<=10:=by unfold Pn;grind
theorem jO(crew:ADC)(l:AAH):(Pn crew l).Nodup:=(AB6.filter _).sublist (List.take_sublist _ _)
theorem jw(xs:Is)(k m:Nat):(xs++[k]).take m=if xs.length<m then xs.take m++[k]else xs.take m:=by
 by_cases h:xs.length<m
 ·rw[AAP h,AB0 ADJ,AB0 J]
 grind
theorem eV(crew:ADC)(hc:crew.length<=1048576)(l:AAH)(hl:l.length<=1048576)(n:Nat)(hn:Pa<=n):WD n crew l=some (Pc (Pn crew l)):=by
 have uO:∀(i:Nat)(hi:i<crew.length)(out:By)(b:Bool),iter n (SR crew l (out,(i:Int))) (b,0)=some (b||l.any λt=>t.2.2.1==crew[i].1,(l.length:Int)):=λi hi out b=>by
  have:=P0 (SR crew l (out,(i:Int))) (λk=>(b||(l.take k).any λt=>t.2.2.1==crew[i].1,(k:Int))) l.length (b||l.any λt=>t.2.2.1==crew[i].1,(l.length:Int)) (λk hk=>by
   rw[ABb hk,List.any_append];simp only[SR,PS hk,PS hi,ABQ,PR hk (show l.length<=9223372036854775807 by clear hn;omega),List.any_cons,List.any_nil,Bool.or_false];rw[show decide ((k:Int)<(l.length:Int))=true by simpa using hk];cases b<;>cases(l.take k).any (λt=>t.2.2.1==crew[i].1)<;>rfl) (by simp[SR]) n ADF
  simpa using this
 obtain⟨z,hz1,hz⟩:=U6 (f:=SQ n crew l)
  (λk x=>∃i:Nat,x=(Pc (((List.range i).filter (UD crew l)).take 10),(i:Int))/\i+k=crew.length)
  (λz=>z.1=Pc (Pn crew l)) (λk x hx=>by
   obtain⟨i,rfl,hk⟩:=hx;have hlen:(Pc (((List.range i).filter (UD crew l)).take 10)).length=min 10 ((List.range i).filter (UD crew l)).length:=by simp[Pc]
   by_cases hi:i<crew.length
   ·by_cases h10:((List.range i).filter (UD crew l)).length<10
    ·right;have hd:decide ((i:Int)<(crew.length:Int))=true:=ADR
     have hd2:decide (((Pc (((List.range i).filter (UD crew l)).take 10)).length:Int)<10)=true:=by rw[AAe,hlen];clear hn;omega
     have uX:decide ((Pc (((List.range i).filter (UD crew l)).take 10)).length+[(i:Int)].length<=E8)=true:=TG (by rw[hlen];clear hn;omega);have hidle:UD crew l i=eN l crew[i]:=by unfold UD;rw[AAI hi]
     refine⟨(Pc (((List.range (i+1)).filter (UD crew l)).take 10),((i+1:Nat):Int)),k-1,?_,⟨i+1,rfl,ADI⟩,ADI⟩;rw[AB1,ACJ];simp only[SQ,hd,ABR,hd2,ABQ,PS hi,uO i hi,uX,PR hi (show crew.length<=9223372036854775807 by clear hn;omega)]
     have hany:(l.any λt=>t.2.2.1==crew[i].1) = !(l.all λt => !(t.2.2.1==crew[i].1)):=by rw[List.not_all_eq_any_not];simp
     rw[hany];generalize hA:(l.all λt => !(t.2.2.1==crew[i].1))=A;have h2:UD crew l i=(crew[i].2.2.1 == -1 && !crew[i].2.2.2.1&&A):=by rw[hidle,<-hA];rfl
     rw[show(crew[i].2.2.1 != -1) = !(crew[i].2.2.1 == -1)from rfl];cases q1:(crew[i].2.2.1 == -1)<;>cases q2:crew[i].2.2.2.1<;>cases A<;>rw[q1,q2]at h2<;>simp[h2,jw,h10,Pc]
    ·left;refine⟨(Pc (((List.range i).filter (UD crew l)).take 10),(i:Int)),?_,?_⟩
     ·have hd:decide ((i:Int)<(crew.length:Int))=true:=ADR
      have hd2:decide (((Pc (((List.range i).filter (UD crew l)).take 10)).length:Int)<10)=false:=by rw[AAn,hlen];clear hn;omega
      simp only[SQ,hd,ABR,hd2,ABQ,ABS]
     ·show Pc _=Pc _;unfold Pn;congr 1
      have:List.range crew.length=List.range i++(List.range (crew.length-i)).map (i + ·):=by rw[<-List.range_add];congr 1;clear hn;omega
      rw[this,ACJ,List.take_append_of_le_length ADI]
   ·left;have hie:i=crew.length:=ADI
    refine⟨(Pc (((List.range i).filter (UD crew l)).take 10),(i:Int)),?_,by rw[hie];rfl⟩;have hd:decide ((i:Int)<(crew.length:Int))=false:=ADR
    simp only[SQ,hd,ABS,ABQ])
  n crew.length ([],0) ⟨0,rfl,ADI⟩ ADF
 unfold WD;grind
theorem kE{β:Type}(f:Int->Option (Int⊕(Int⊕Bool)))(xs:List β)(P:β->Bool)(hs:∀(i:Nat)(x:β),i<xs.length->xs[i]?=some x->f (i:Int)=some (bif P x then .inr (.inr true)else .inl ((i+1:Nat):Int)))
  (he:f (xs.length:Int)=some (.inr (.inl (xs.length:Int)))):∀n,xs.length<n->iter n f 0=some (bif xs.any P then .inr true else .inl (xs.length:Int)):=by
 intro n hn;refine WR f xs (λp l=>bif l.any P then .inr true else .inl (xs.length:Int)) ?_ ?_ n hn
 all_goals grind
theorem QO(a:By)(h:a.length<=1048576)(c:Int)(n:Nat)(hn:Pa<=n):Qk n a c=some (a.any λx=>x==c):=by
 unfold Qk
 rw[kE (T8 a c) a (λx=>x==c) (λi x h1 h2=>by
  have hx:a[i]=x:=by rw[AAI h1]at h2;exact Option.some.inj h2
  simp only[T8,PS h1,hx];rw[show decide ((i:Int)<(a.length:Int))=true by simpa using h1];cases hq:(x==c)<;>simp[hq,PR h1 J]) (by simp[T8]) n ADF]
 grind
theorem XS:P5=Qk:=rfl
def Vf(s:By)(x:PQ):By:=bif s.any (λy=>y==x.1)then s else s++[x.1]
theorem Z7(s:By)(x:PQ):(Vf s x).length<=s.length+1:=by unfold Vf;grind
def Su(a:AAD):By:=a.foldl Vf []
theorem Xb:∀(a:AAD)(s:By),(a.foldl Vf s).length<=s.length+a.length
 | [],s=>OF
 |x::a,s=>by have h1:=Xb a (Vf s x);have h2:=Z7 s x;grind
theorem Wj(a:AAD)(h:a.length<=1048576)(n:Nat)(hn:Pa<=n):UM n a=some (Su a):=by
 have hc:=Ps (σ:=By) (Uj n a) (λi s=>(s,(i:Int))) a (λl s=>(l.foldl Vf s,(a.length:Int))) (λi s=>s.length<=i)
  (λs hs=>by simp[Uj])
  (λi x l s h1 h2 h3 h4 h5=>by
   left;have hx:a[i]=x:=by rw[AAI h1]at h2;exact Option.some.inj h2
   have hr:decide (s.length+1<=E8)=true:=TG J;have ha:=QO s J x.1 n hn;refine⟨Vf s x,?_,by have:=Z7 s x;omega,OF⟩;simp only[Uj,PS h1,hx,ABQ,ha,PR h1 J];rw[show decide ((i:Int)<(a.length:Int))=true by simpa using h1];unfold Vf;grind)
  n ADF [] (AAb _)
 unfold UM;rw[show((0:Nat):Int)=0 from rfl]at hc;rw[hc];rfl
theorem YJ(a:AAD)(h:a.length<=1048576)(n:Nat)(hn:Pa<=n):Ve n a=some (Su a):=by
 have hc:=Ps (σ:=By) (UZ n a) (λi s=>(s,(i:Int))) a (λl s=>(l.foldl Vf s,(a.length:Int))) (λi s=>s.length<=i)
  (λs hs=>by simp[UZ])
  (λi x l s h1 h2 h3 h4 h5=>by
   left;have hx:a[i]=x:=by rw[AAI h1]at h2;exact Option.some.inj h2
   have hr:decide (s.length+1<=E8)=true:=TG J;have ha:=QO s J x.1 n hn;refine⟨Vf s x,?_,by have:=Z7 s x;omega,OF⟩;simp only[UZ,PS h1,hx,ABQ,XS,ha,PR h1 J];rw[show decide ((i:Int)<(a.length:Int))=true by simpa using h1];unfold Vf;grind)
  n ADF [] (AAb _)
 unfold Ve;rw[show((0:Nat):Int)=0 from rfl]at hc;rw[hc];rfl
theorem W6(c:Int)(p:By)(h:p.length<=1048576)(n:Nat)(hn:Pa<=n):iter n (RG c p) (([]:ADK),0)=some (p.map λx=>(c,x,(0:Int),(1:Int)),(p.length:Int)):=by
 have hc:=Ps (σ:=ADK) (RG c p) (λi s=>(s,(i:Int))) p (λl s=>(s++l.map λx=>(c,x,(0:Int),(1:Int)),(p.length:Int))) (λi s=>s.length<=i)
  (λs hs=>by simp[RG])
  (λi x l s h1 h2 h3 h4 h5=>by
   left;have hx:p[i]=x:=by rw[AAI h1]at h2;exact Option.some.inj h2
   have hr:decide (s.length+1<=E8)=true:=TG J;exact⟨s++[(c,x,0,1)],by simp[RG,h1,PX h1,hx,PR h1 J,hr],ADJ,OF⟩)
  n ADF [] (AAb _)
 grind
theorem bC(a:PL)(h:a.2.2.2.1.length<=1048576)(n:Nat)(hn:Pa<=n):WB n a.1 a.2.1 a.2.2.1 a.2.2.2.1 a.2.2.2.2=some ((Su a.2.2.2.1).map λx=>(a.1,x,(0:Int),(1:Int))):=by
 have hp:(Su a.2.2.2.1).length<=1048576:=by have:=Xb a.2.2.2.1 [];simp at this;exact AA2 this h
 unfold WB;rw[Wj _ h n hn,ABQ,W6 a.1 _ hp n hn];rfl
theorem ee:X4=RG:=rfl
theorem aw(a:PL)(h:a.2.2.2.1.length<=1048576)(n:Nat)(hn:Pa<=n):Xl n a.1 a.2.1 a.2.2.1 a.2.2.2.1 a.2.2.2.2=some ((Su a.2.2.2.1).map λx=>(a.1,x,(0:Int),(1:Int))):=by
 have hp:(Su a.2.2.2.1).length<=1048576:=by have:=Xb a.2.2.2.1 [];simp at this;exact AA2 this h
 unfold Xl;rw[YJ _ h n hn,ABQ,ee,W6 a.1 _ hp n hn];rfl
def Zd(a:It)(tk:By)(t:Pm):Bool:=t.2.2.2==1&&decide (R5 a t.2.1>=0) && !(tk.any λy=>y==t.2.1)
def Zc(a:It):Nat->By->Nat->AAH->Is
 |0,_,_,_=>[]
 |_+1,_,_,[]=>[]
 |m+1,tk,i,t::ts=>bif Zd a tk t then i::Zc a m (tk++[t.2.1]) (i+1) ts else Zc a (m+1) tk (i+1) ts
theorem lF(a:It)(m:Nat)(tk:By)(i:Nat)(t:Pm)(ts:AAH):Zc a (m+1) tk i (t::ts)=bif Zd a tk t then i::Zc a m (tk++[t.2.1]) (i+1) ts else Zc a (m+1) tk (i+1) ts:=rfl
theorem bO(a:It)(m:Nat)(tk:By)(i:Nat):Zc a m tk i []=[]:=by cases m<;>rfl
theorem Ze(a:It):∀(ts:AAH)(m:Nat)(tk:By)(i:Nat),(Zc a m tk i ts).length<=m
 | [],m,tk,i=>by rw[bO];simp
 |t::ts,0,tk,i=>by simp[Zc]
 |t::ts,m+1,tk,i=>by
  unfold Zc;cases Zd a tk t with
  |true=>have:=Ze a ts m (tk++[t.2.1]) (i+1);grind
  |false=>simpa only[ABS]using Ze a ts (m+1) tk (i+1)
theorem cM(a:It):∀(ts:AAH)(m:Nat)(tk:By)(i:Nat),∀x∈Zc a m tk i ts,i<=x/\∃h:x-i<ts.length,ts[x-i].2.2.2=1/\R5 a ts[x-i].2.1>=0/\ts[x-i].2.1∉tk
 | [],m,tk,i=>by rw[bO];simp
 |t::ts,0,tk,i=>by simp[Zc]
 |t::ts,m+1,tk,i=>by
  intro x hx
  have up:∀(h:i+1<=x) (h2:x-(i+1)<ts.length),∃h:x-i<(t::ts).length,(t::ts)[x-i]=ts[x-(i+1)]:=λh h2=>No
  unfold Zc at hx;cases hr:Zd a tk t with
  |true=>
   rw[hr,ABR]at hx;rcases AAf.1 hx with rfl|hx
   ·unfold Zd at hr;grind
   ·obtain⟨h1,h2,h3,h4,h5⟩:=cM a ts m (tk++[t.2.1]) (i+1) x hx;grind
  |false=>
   rw[hr,ABS]at hx;obtain⟨h1,h2,h3,h4,h5⟩:=cM a ts (m+1) tk (i+1) x hx;grind
theorem cN(a:It):∀(ts:AAH)(m:Nat)(tk:By)(i:Nat),(Zc a m tk i ts).Pairwise λx y=>x<y/\∀(hx:x-i<ts.length)(hy:y-i<ts.length),ts[x-i].2.1≠ts[y-i].2.1
 | [],m,tk,i=>by rw[bO];exact List.Pairwise.nil
 |t::ts,0,tk,i=>by simp[Zc]
 |t::ts,m+1,tk,i=>by
  have up:∀(m:Nat)(tk:By),(Zc a m tk (i+1) ts).Pairwise λx y=>x<y/\∀(hx:x-i<(t::ts).length) (hy:y-i<(t::ts).length),(t::ts)[x-i].2.1≠(t::ts)[y-i].2.1:=λm tk=>by refine AB8 (fun {x y} hx hy hxy=>⟨hxy.1,λh1 h2=>?_⟩) (cN a ts m tk (i+1));obtain⟨x1,x2,_⟩:=cM a ts m tk (i+1) x hx;grind
  unfold Zc;cases hr:Zd a tk t with
  |true=>
   rw[ABR];refine ABf.2 ⟨λy hy=>?_,up m (tk++[t.2.1])⟩;obtain⟨y1,y2,y3,y4,y5⟩:=cM a ts m (tk++[t.2.1]) (i+1) y hy;grind
  |false=>grind
def UR(l:AAH):By:=(l.filter λt => !(t.2.2.2==1)).map (·.2.1)
def QL(a:It)(l:AAH)(m:Nat):Is:=Zc a m (UR l) 0 l
theorem jH(L:By×Int->Option ((By×Int)⊕(By×Int)))(l:AAH)(hl:l.length<=1048576)
  (hL:∀(i:Nat)(out:By)(hi:i<l.length),out.length<=i->L (out,(i:Int))=some (.inl (bif l[i].2.2.2==1 then out else out++[l[i].2.1],((i+1:Nat):Int)))) (he:∀out,L (out,(l.length:Int))=some (.inr (out,(l.length:Int)))) (n:Nat) (hn:Pa<=n):
  iter n L ([],0)=some (UR l,(l.length:Int)):=by
 have:=P0 L (λi=>(UR (l.take i),(i:Int))) l.length (UR l,(l.length:Int)) (λi hi=>by
  rw[hL i _ hi (by unfold UR;rw[ABt];exact AA2 (ABo _ _) ADJ),ABb hi];unfold UR;grind) No n ADF
 simpa[UR]using this
theorem lE(L:By×By×Int->Option ((By×By×Int)⊕(By×By×Int)))(a:It)(l:AAH)(M:Nat)(tk0:By)
  (hgo:∀(i:Nat)(out tk:By)(hi:i<l.length),out.length<M->out.length<=i->tk.length<=tk0.length+i->L (out,tk,(i:Int))=some (.inl (bif Zd a tk l[i]then(out++[(i:Int)],tk++[l[i].2.1],((i+1:Nat):Int))else(out,tk,((i+1:Nat):Int)))))
  (hfull:∀(i:Nat)(out tk:By)(hi:i<l.length),out.length=M->tk.length<=tk0.length+i->L (out,tk,(i:Int))=some (.inl (out,tk,((i+1:Nat):Int)))\/L (out,tk,(i:Int))=some (.inr (out,tk,(i:Int))))
  (hend:∀(out tk:By),L (out,tk,(l.length:Int))=some (.inr (out,tk,(l.length:Int)))) (n:Nat) (hn:l.length<n):
  ∃z,z.1=Pc (Zc a M tk0 0 l)/\iter n L ([],tk0,0)=some z:=by
 refine U6 (f:=L) (λk x=>∃(i:Nat) (out:Is) (tk:By),x=(Pc out,tk,(i:Int))/\i+k=l.length/\out.length<=M/\out.length<=i/\tk.length<=tk0.length+i/\out++Zc a (M-out.length) tk i (l.drop i)=Zc a M tk0 0 l)
  (λz=>z.1=Pc (Zc a M tk0 0 l)) (λk x hx=>?_) n l.length ([],tk0,0) ⟨0,[],tk0,rfl,J,OF,OF,OF,OF⟩ hn
 obtain⟨i,out,tk,rfl,hk,h1,h2,h3,h4⟩:=hx;have zd:(Pc out).length=out.length:=by simp[Pc]
 by_cases hi:i<l.length
 ·by_cases hM:out.length=M
  ·rcases hfull i (Pc out) tk hi J h3 with e|e
   ·refine .inr ⟨_,k-1,e,⟨i+1,out,tk,rfl,J,h1,J,J,?_⟩,J⟩;rw[<-h4,hM,Nat.sub_self];simp[Zc]
   ·refine .inl ⟨_,e,?_⟩;show Pc out=_;rw[<-h4,hM,Nat.sub_self];simp[Zc]
  ·have e:=hgo i (Pc out) tk hi J J h3;have hd:l.drop i=l[i]::l.drop (i+1):=ABg hi;obtain⟨m,hm⟩:∃m,M-out.length=m+1:=⟨M-out.length-1,J⟩;rw[hd,hm,lF]at h4;cases hr:Zd a tk l[i]with
   |true=>
    rw[hr,ABR]at e h4;refine .inr ⟨_,k-1,e,⟨i+1,out++[i],tk++[l[i].2.1],by simp[Pc],J,ADJ,ADJ,ADJ,?_⟩,J⟩;rw[<-h4,ABi];congr 1;rw[show M-(out++[i]).length=m by simp;omega];rfl
   |false=>
    rw[hr,ABS]at e h4;refine .inr ⟨_,k-1,e,⟨i+1,out,tk,rfl,J,h1,J,J,?_⟩,J⟩;grind
 ·have hie:i=l.length:=J
  subst hie;refine .inl ⟨_,hend _ _,?_⟩;show Pc out=_;rw[<-h4,List.drop_length,bO,AA1]
theorem dT(a:It)(ha:a.length<=1048576)(l:AAH)(hl60:l.length<=60)(M:Nat)(n:Nat)(hn:Pa<=n):VY n a l (M:Int)=some (Pc (QL a l M)):=by
 have hl:l.length<=1048576:=ADI
 have h1:=jH (TK l) l hl (λi out hi ho=>by
  have hd:decide ((i:Int)<(l.length:Int))=true:=ADR
  have hr:decide (out.length+[l[i].2.1].length<=E8)=true:=TG ADI;simp only[TK,hd,ABR,PS hi,ABQ,hr,PR hi (show l.length<=9223372036854775807 by clear hn;omega),bne];grind) (λout=>by simp[TK]) n hn
 have zM:(UR l).length<=60:=by unfold UR;rw[ABt];exact AA2 (ABo _ _) hl60
 obtain⟨z,z1,z2⟩:=lE (Ry n a l (M:Int)) a l M (UR l) (λi out tk hi h1 h2 h3=>by
  have hd:decide ((i:Int)<(l.length:Int))=true:=ADR
  have hd2:decide ((out.length:Int)<(M:Int))=true:=by rw[AAe];clear hn;omega
  have hr:decide (out.length+[(i:Int)].length<=E8)=true:=TG ADI
  have zG:decide (tk.length+[l[i].2.1].length<=E8)=true:=by rw[AAe];simp[E8];clear hn;omega
  simp only[Ry,hd,hd2,ABR,PS hi,ABQ,hr,zG,PR hi (show l.length<=9223372036854775807 by clear hn;omega),(Ro a ha l[i].2.1 n hn).1];have ham:Qk n tk l[i].2.1=some (tk.any λy=>y==l[i].2.1):=QO tk ADI _ n hn;simp only[ham,ABQ];unfold Zd;grind) (λi out tk hi h1 h3=>by
  right;have hd:decide ((i:Int)<(l.length:Int))=true:=ADR
  have hd2:decide ((out.length:Int)<(M:Int))=false:=by rw[AAn];clear hn;omega
  simp only[Ry,hd,hd2,ABR,ABS,ABQ]) (λout tk=>by
  have hd:decide ((l.length:Int)<(l.length:Int))=false:=OF
  simp only[Ry,hd,ABS,ABQ]) n ADF
 unfold VY;rw[h1];simp only[ABQ,z2,z1];rfl
def ZE(crew:ADC)(k:Nat):Pt:=crew.getD k (0,0,0,false,0)
def X2(l:AAH)(i:Nat):Pm:=l.getD i (0,0,0,0)
theorem iZ{crew:ADC}{k:Nat}(h:k<crew.length):crew[k]?=some (ZE crew k):=by unfold ZE;grind
theorem eh{l:AAH}{k:Nat}(h:k<l.length):l[k]?=some (X2 l k):=by unfold X2;grind
def Qm(a:It)(id:Int):Int:=match a[(R5 a id).toNat]? with
 |some p=>p.2.1
 |none=>0
def Q5(a:It)(crew:ADC)(l:AAH)(p:Nat×Nat)(st:ADC×AAH):ADC×AAH:=
 (List.modify (List.modify st.1 p.2 λy=>(y.1,y.2.1,Qm a (X2 l p.1).2.1,y.2.2.2.1,y.2.2.2.2)) p.2 λy=>(y.1,y.2.1,y.2.2.1,y.2.2.2.1,0),
  List.modify (List.modify st.2 p.1 λy=>(y.1,y.2.1,(ZE crew p.2).1,y.2.2.2)) p.1 λy=>(y.1,y.2.1,y.2.2.1,2))
def sendAll(a:It)(crew:ADC)(l:AAH)(prs:List (Nat×Nat)):ADC×AAH:=prs.foldl (λst p=>Q5 a crew l p st) (crew,l)
structure SI(crew:ADC)(l:AAH)(st:ADC×AAH):Prop where
 l1:st.1.length=crew.length
 l2:st.2.length=l.length
 id:∀k,k<crew.length->∃r,st.1[k]?=some r/\r.1=(ZE crew k).1
 Pj:∀i,i<l.length->∃t,st.2[i]?=some t/\t.2.1=(X2 l i).2.1
theorem SI.first(crew:ADC)(l:AAH):SI crew l (crew,l):=⟨rfl,rfl,λk h=>⟨_,iZ h,rfl⟩,λi h=>⟨_,eh h,rfl⟩⟩
theorem SI.one{a:It}{crew:ADC}{l:AAH}{st:ADC×AAH}(h:SI crew l st)(p:Nat×Nat):SI crew l (Q5 a crew l p st):=by
 refine⟨by simp[Q5,h.l1],by simp[Q5,h.l2],λk hk=>?_,λi hi=>?_⟩
 ·obtain⟨r,h1,h2⟩:=h.id k hk;simp only[Q5,ABc,h1];grind
 ·obtain⟨r,h1,h2⟩:=h.Pj i hi;simp only[Q5,ABc,h1];grind
theorem SI.all{a:It}{crew:ADC}{l:AAH}:∀(prs:List (Nat×Nat)) (st:ADC×AAH),SI crew l st->SI crew l (prs.foldl (λst p=>Q5 a crew l p st) st)
 | [],st,h=>h
 |p::prs,st,h=>SI.all prs _ (h.one p)
def WU(w h:Int)(c:By)(a:It)(crew:ADC)(l:AAH):List By:=
 (QL a l (Pn crew l).length).map λt=>(Pn crew l).map λk=>Ux w h c (ZE crew k).2.1 (Qm a (X2 l t).2.1)
def Q7(w h:Int)(c:By)(a:It)(crew:ADC)(l:AAH):Is:=pk (P4 (WU w h c a crew l)) (List.range (Pn crew l).length)
def X5(w h:Int)(c:By)(a:It)(crew:ADC)(l:AAH)(j:Nat):Option (Nat×Nat):=
 if Ux w h c (ZE crew ((Pn crew l).getD ((Q7 w h c a crew l).getD j 0) 0)).2.1 (Qm a (X2 l ((QL a l (Pn crew l).length).getD j 0)).2.1)<100000
 then some ((QL a l (Pn crew l).length).getD j 0,(Pn crew l).getD ((Q7 w h c a crew l).getD j 0) 0)else none
def Qd(w h:Int)(c:By)(a:It)(crew:ADC)(l:AAH):List (Nat×Nat):=(List.range (Q7 w h c a crew l).length).filterMap (X5 w h c a crew l)
def gV(w h:Int)(c:By)(a:It)(crew:ADC)(l:AAH):Bool:=P2 a&&TR w h c crew&&Sk l
def iM(w h:Int)(c:By)(a:It)(crew:ADC)(l:AAH):ADC×AAH:=bif gV w h c a crew l then sendAll a crew l (Qd w h c a crew l)else(crew,l)
theorem lj(hc:c.length<=1048576)(hf:Ph w h c=true)(a b:Int):0<=Ux w h c a b/\Ux w h c a b<=100000:=by obtain⟨_,_,h1,h2⟩:=cX hc hf a b Pa (AAb _);unfold Ux;omega
theorem fH(hc:c.length<=1048576)(hf:Ph w h c=true)(a:It)(crew:ADC)(l:AAH):CM (WU w h c a crew l) (Pn crew l).length:=by
 refine⟨λr hr=>?_,?_,Y6 crew l,λr hr x hx=>?_⟩
 ·obtain⟨t,_,rfl⟩:=AAs.1 hr;simp
 ·unfold WU;rw[ABt];exact Ze a l _ _ _
 ·obtain⟨t,_,rfl⟩:=AAs.1 hr;obtain⟨k,_,rfl⟩:=AAs.1 hx;exact lj hc hf _ _
theorem iB{M:List By}(hc:CM M m)(n:Nat)(hn:Pa<=n):∃s,Wi n M=some (Pc (pk (P4 M) (List.range m)),s):=by
 by_cases h0:M=[]
 ·subst h0;have hc0:CM [] 0:=⟨OF,OF,J,OF⟩;obtain⟨s,s1,_⟩:=Yu hc0 (λ_=>rfl) n hn;exact⟨s,s1⟩
 ·obtain⟨s,s1,_⟩:=Yu hc (λe=>absurd e h0) n hn;exact⟨s,s1⟩
theorem YP(F:Nat->β)(s:Is):(List.range s.length).map (λi=>F (s.getD i 0))=s.map F:=by apply AB7 OF;grind
theorem XO{s:Is}(h:i<s.length):Oi (Pc s) (i:Int)=true/\(Pc s)[i]?=some ((s.getD i 0:Nat):Int):=by refine⟨PX (by simpa[Pc]using h),?_⟩;unfold Pc;grind
theorem WW{s:Is}(h:i<s.length):s.getD i 0∈s:=No
theorem YW{a:It}(ha:a.length<=1048576){l:AAH}{M t:Nat}(h:t∈QL a l M):t<l.length/\(X2 l t).2.2.2=1/\(X2 l t).2.1∉UR l/\∃i,∃hi:i<a.length,R5 a (X2 l t).2.1=(i:Int)/\a[i].1=(X2 l t).2.1/\Qm a (X2 l t).2.1=a[i].2.1:=by
 obtain⟨_,h2,h3,h4,h5⟩:=cM a l M (UR l) 0 t h;simp only[Nat.sub_zero]at h2 h3 h4 h5;have e:X2 l t=l[t]:=by unfold X2;rw[List.getD,AAI h2];rfl
 rw[e];refine⟨h2,h3,h5,?_⟩;rcases(Ro a ha l[t].2.1 Pa (AAb _)).2 with⟨q,_⟩|⟨i,hi,q,q2⟩
 ·omega
 ·refine⟨i,hi,q,q2,?_⟩;unfold Qm;grind
theorem h9(hc:c.length<=1048576)(hf:Ph w h c=true){a:It}(ha:a.length<=1048576){crew:ADC}(hcr:crew.length<=1048576){l:AAH}(hl:l.length<=60)(n:Nat)(hn:Pa<=n):
  iter n (Rv n w h c a crew l (Pc (Pn crew l)) (Pc (QL a l (Pn crew l).length))) ([],0)=some (WU w h c a crew l,((QL a l (Pn crew l).length).length:Int)):=by
 generalize hwho:Pn crew l=who;generalize hwhat:QL a l who.length=what;have h10:who.length<=10:=by rw[<-hwho];exact Y6 crew l
 have hwl:what.length<=10:=by rw[<-hwhat];exact AA2 (Ze a l _ _ _) h10
 have hlw:(Pc who).length=who.length:=by simp[Pc]
 have uR:(Pc what).length=what.length:=by simp[Pc]
 have:=bS (Rv n w h c a crew l (Pc who) (Pc what)) (λi=>who.map λk=>Ux w h c (ZE crew k).2.1 (Qm a (X2 l (what.getD i 0)).2.1)) what.length (λi hi=>by
  have hd:decide ((i:Int)<((Pc what).length:Int))=true:=by rw[AAe,uR];clear hn;omega
  obtain⟨t1,t2⟩:=XO hi;have htm:what.getD i 0∈QL a l who.length:=by rw[hwhat];exact WW hi
  obtain⟨f1,f2,f3,p,hp,f4,f5,f6⟩:=YW ha htm;generalize what.getD i 0=t at t2 htm f1 f2 f3 f4 f5 f6;generalize wU:(List.range i).map (λi=>who.map λk=>Ux w h c (ZE crew k).2.1 (Qm a (X2 l (what.getD i 0)).2.1))=out;have hol:out.length=i:=by rw[<-wU];simp
  have uO:=bS (TI n w h c a crew l (Pc who) (Pc what) (out,(i:Int))) (λk=>Ux w h c (ZE crew (who.getD k 0)).2.1 (Qm a (X2 l t).2.1)) who.length (λk hk=>by
   have hd2:decide ((k:Int)<((Pc who).length:Int))=true:=by rw[AAe,hlw];clear hn;omega
   obtain⟨w1,w2⟩:=XO hk;have hkm:who.getD k 0∈Pn crew l:=by rw[hwho];exact WW hk
   obtain⟨g1,g2⟩:=Y7 hkm;have hg:Iy crew ((who.getD k 0:Nat):Int)=some (ZE crew (who.getD k 0)):=by rw[TW];exact iZ g1
   have hgt:Iy l ((t:Nat):Int)=some (X2 l t):=by rw[TW];exact eh f1
   have hgp:Iy a ((p:Nat):Int)=some a[p]:=PS hp
   have hcost:WC n w h c (ZE crew (who.getD k 0)).2.1 (Qm a (X2 l t).2.1)=some (Ux w h c (ZE crew (who.getD k 0)).2.1 (Qm a (X2 l t).2.1)):=by
    unfold WC Ux;rw[(cX hc hf _ _ n hn).1,ABQ];by_cases q:VE w h c (ZE crew (who.getD k 0)).2.1 (Qm a (X2 l t).2.1)<0
    ·grind
    ·grind
   have uX:∀x:Int,decide (((List.range k).map λk=>Ux w h c (ZE crew (who.getD k 0)).2.1 (Qm a (X2 l t).2.1)).length+[x].length<=E8)=true:=λx=>TG No;simp only[TI,hd2,ABR,w1,w2,t1,t2,ABU,ABQ,hg,hgt,(Ro a ha _ n hn).1,f4,hgp,<-f6,hcost,uX,PR hk (show who.length<=9223372036854775807 by omega)]) (by
   have hd2:decide ((who.length:Int)<((Pc who).length:Int))=false:=by rw[AAn,hlw];clear hn;omega
   simp only[TI,hd2,ABS]) n ADF
  rw[YP (λk=>Ux w h c (ZE crew k).2.1 (Qm a (X2 l t).2.1)) who]at uO;have uX:∀x:By,decide (out.length+[x].length<=E8)=true:=λx=>TG J;simp only[Rv,hd,ABR,uO,ABQ,uX,PR hi (show what.length<=9223372036854775807 by omega)]) (by
  have hd:decide ((what.length:Int)<((Pc what).length:Int))=false:=by rw[AAn,uR];clear hn;omega
  simp only[Rv,hd,ABS]) n ADF
 rw[this,YP (λt=>who.map λk=>Ux w h c (ZE crew k).2.1 (Qm a (X2 l t).2.1)) what,<-hwhat,<-hwho];rfl
theorem bU(hc:c.length<=1048576)(hf:Ph w h c=true)(a:It)(crew:ADC)(l:AAH):(Q7 w h c a crew l).length=(QL a l (Pn crew l).length).length/\(Q7 w h c a crew l).Nodup/\∀k∈Q7 w h c a crew l,k<(Pn crew l).length:=by
 have hcm:=fH hc hf a crew l;obtain⟨p1,p2,p3⟩:=me (P4 (WU w h c a crew l)) (List.range (Pn crew l).length) AB6 (by rw[List.length_range];simpa[P4]using hcm.nm);refine⟨by unfold Q7;rw[p1];simp[P4,WU],p2,λk hk=>AAX.1 (p3 k hk)⟩
theorem hY(hc:c.length<=1048576)(hf:Ph w h c=true){a:It}(ha:a.length<=1048576){crew:ADC}{l:AAH}(hj:j<(Q7 w h c a crew l).length):
  ∃(q k t p:Nat) (row:By),(Pc (Q7 w h c a crew l))[j]?=some (q:Int)/\Oi (Pc (Q7 w h c a crew l)) (j:Int)=true/\Oi (Pc (Pn crew l)) (q:Int)=true/\(Pc (Pn crew l))[q]?=some (k:Int)/\
   Oi (WU w h c a crew l) (j:Int)=true/\(WU w h c a crew l)[j]?=some row/\Oi row (q:Int)=true/\row[q]?=some (Ux w h c (ZE crew k).2.1 (Qm a (X2 l t).2.1))/\
   Oi (Pc (QL a l (Pn crew l).length)) (j:Int)=true/\(Pc (QL a l (Pn crew l).length))[j]?=some (t:Int)/\k<crew.length/\t<l.length/\
   R5 a (X2 l t).2.1=(p:Int)/\(∃x,Iy a (p:Int)=some x/\x.2.1=Qm a (X2 l t).2.1)/\
   X5 w h c a crew l j=if Ux w h c (ZE crew k).2.1 (Qm a (X2 l t).2.1)<100000 then some (t,k)else none:=by
 obtain⟨c1,c2,c3⟩:=bU hc hf a crew l;have hq:=c3 _ (WW hj);have hw:j<(QL a l (Pn crew l).length).length:=J
 obtain⟨a1,a2⟩:=XO hj;obtain⟨b1,b2⟩:=XO hq;obtain⟨d1,d2⟩:=XO hw;obtain⟨f1,f2,f3,p,hp,f4,f5,f6⟩:=YW ha (WW hw);obtain⟨g1,_⟩:=Y7 (WW hq);have hM:j<(WU w h c a crew l).length:=by simpa[WU]using hw
 have uX:(WU w h c a crew l)[j]?=some ((Pn crew l).map λk=>Ux w h c (ZE crew k).2.1 (Qm a (X2 l ((QL a l (Pn crew l).length).getD j 0)).2.1)):=by unfold WU;rw[AAZ,AAI hw,List.getD,AAI hw];rfl
 refine⟨(Q7 w h c a crew l).getD j 0,(Pn crew l).getD ((Q7 w h c a crew l).getD j 0) 0,(QL a l (Pn crew l).length).getD j 0,p,_,a2,a1,b1,b2,PX hM,uX,PX (by simpa using hq),?_,d1,d2,g1,f1,f4,⟨a[p],PS hp,f6.symm⟩,rfl⟩;grind
theorem jo(a:It)(crew:ADC)(l:AAH)(w h:Int)(c:By)(j:Nat):sendAll a crew l ((List.range (j+1)).filterMap (X5 w h c a crew l))=match X5 w h c a crew l j with
  |some p=>Q5 a crew l p (sendAll a crew l ((List.range j).filterMap (X5 w h c a crew l)))
  |none=>sendAll a crew l ((List.range j).filterMap (X5 w h c a crew l)):=by
 unfold sendAll;rw[AB1,List.filterMap_append,List.foldl_append];grind
theorem jt(hc:c.length<=1048576)(hf:Ph w h c=true){a:It}(ha:a.length<=1048576){crew:ADC}(hcr:crew.length<=1048576){l:AAH}(hl:l.length<=60)(s x:Int)(n:Nat)(hn:Pa<=n):
  iter n (Q1 n a l (Pc (Pn crew l)) (Pc (QL a l (Pn crew l).length)) (WU w h c a crew l,x) (Pc (Q7 w h c a crew l),s)) (0,crew,l)=some (((Q7 w h c a crew l).length:Int),sendAll a crew l (Qd w h c a crew l)):=by
 have h10:=Y6 crew l;obtain⟨c1,c2,c3⟩:=bU hc hf a crew l;have zd:(Q7 w h c a crew l).length<=10:=by rw[c1];exact AA2 (Ze a l _ _ _) h10
 have:=P0 (Q1 n a l (Pc (Pn crew l)) (Pc (QL a l (Pn crew l).length)) (WU w h c a crew l,x) (Pc (Q7 w h c a crew l),s)) (λj=>((j:Int),sendAll a crew l ((List.range j).filterMap (X5 w h c a crew l)))) (Q7 w h c a crew l).length (((Q7 w h c a crew l).length:Int),sendAll a crew l (Qd w h c a crew l)) (λj hj=>by
  obtain⟨q,k,t,p,row,e1,e2,e3,e4,e5,e6,e7,e8,e9,e10,e11,e12,e13,⟨y,e14,e15⟩,e16⟩:=hY hc hf ha hj;have hlc:(Pc (Q7 w h c a crew l)).length=(Q7 w h c a crew l).length:=by simp[Pc]
  have hd:decide ((j:Int)<((Pc (Q7 w h c a crew l)).length:Int))=true:=by rw[AAe,hlc];clear hn;omega
  rw[jo,e16];have hsi:SI crew l (sendAll a crew l ((List.range j).filterMap (X5 w h c a crew l))):=SI.all _ _ (SI.first crew l);generalize sendAll a crew l ((List.range j).filterMap (X5 w h c a crew l))=st at hsi;obtain⟨cr,tk⟩:=st;have hgt:Iy l (t:Int)=some (X2 l t):=by rw[TW];exact eh e12
  have hw:PV ((j:Int)+1)=((j+1:Nat):Int):=PR hj J;by_cases hcost:Ux w h c (ZE crew k).2.1 (Qm a (X2 l t).2.1)<100000
  ·rw[AAP hcost];obtain⟨r,r1,r2⟩:=hsi.id k e11;have l1:=hsi.l1;have l2:=hsi.l2;dsimp only at r1 l1 l2;have i1:Oi cr (k:Int)=true:=PX J;have i2:∀f,Oi (List.modify cr k f) (k:Int)=true:=λf=>PX No;have i3:∀f g,Oi (List.modify (List.modify cr k f) k g) (k:Int)=true:=λf g=>PX No;have i4:Oi tk (t:Int)=true:=PX J;have i5:∀f,Oi (List.modify tk t f) (t:Int)=true:=λf=>PX No
   have g1:∀f g,(List.modify (List.modify cr k f) k g)[k]?=some (g (f r)):=λf g=>No
   simp only[Q1,hd,ABR,ABU,e1,e2,e3,e4,e5,e6,e7,e8,e9,e10,ABQ,ABW hcost,hgt,(Ro a ha _ n hn).1,e13,e14,e15,i1,i2,i3,i4,i5,g1,hw,Q5,r2]
  ·rw[AAQ hcost];simp only[Q1,hd,ABR,ABS,ABU,e1,e2,e3,e4,e5,e6,e7,e8,e9,e10,ABQ,ABa hcost,hw]) (by
  have hlc:(Pc (Q7 w h c a crew l)).length=(Q7 w h c a crew l).length:=by simp[Pc]
  have hd:decide (((Q7 w h c a crew l).length:Int)<((Pc (Q7 w h c a crew l)).length:Int))=false:=by rw[AAn,hlc];clear hn;omega
  simp only[Q1,hd,ABS];rfl) n ADF
 exact this
theorem gU{crew:ADC}(hk:TR w h c crew=true):Ph w h c=true:=by unfold TR at hk;grind
theorem aF(hc:c.length<=1048576){a:It}(ha:Pq a){crew:ADC}(hcr:crew.length<=1048576){l:AAH}(hl:l.length<=1048576)(n:Nat)(hn:Pa<=n):VO n w h c a crew l=some (iM w h c a crew l):=by
 have r1:decide (([]:ADC).length+crew.length<=E8)=true:=by rw[AAe];simp[E8];clear hn;omega
 have r2:decide (([]:AAH).length+l.length<=E8)=true:=by rw[AAe];simp[E8];clear hn;omega
 have hal:a.length<=1048576:=ha.1;unfold VO iM gV;simp only[r1,r2,ABR,P9 a ha n hn,Wg w h c hc crew hcr n hn,X8 l hl n hn,ABQ,AAv];cases hs:P2 a with
 |false=>rfl
 |true=>cases hk:TR w h c crew with
  |false=>rfl
  |true=>cases ht:Sk l with
   |false=>rfl
   |true=>
    have hf:=gU hk
    have h60:l.length<=60:=by unfold Sk at ht;simp only[AAJ,AAe]at ht;exact ht.1
    have hil:(Pc (Pn crew l)).length=(Pn crew l).length:=by simp[Pc]
    obtain⟨s,s2⟩:=iB (fH hc hf a crew l) n hn;simp only[ABZ,ABS,ABQ,eV crew hcr l hl n hn,hil,dT a hal l h60 _ n hn,h9 hc hf hal hcr h60 n hn,s2,ACD,ABR];rw[show Pc (pk (P4 (WU w h c a crew l)) (List.range (Pn crew l).length))=Pc (Q7 w h c a crew l)from rfl,jt hc hf hal hcr h60 _ _ n hn];rfl
structure TP(l:AAH):Prop where
 len:l.length<=60
 fO:∀i (h:i<l.length),P6 l[i]=true
 apart:∀i j (hi:i<l.length) (hj:j<i),Pu l[i] l[j]=false
theorem ak:∀(l p:AAH),RX p l=true↔(∀x∈l,P6 x=true)/\(∀x∈l,∀u∈p,Pu x u=false)/\l.Pairwise λu x=>Pu x u=false
 | [],p=>by simp[RX]
 |x::l,p=>by simp only[RX,AAJ,ak l (p++[x]),AAW,AAV,ABf];grind
theorem Vj{l:AAH}:Sk l=true↔TP l:=by
 unfold Sk;rw[AAJ,AAe,ak];constructor
 ·rintro ⟨h1,h2,_,h3⟩
  exact⟨h1,λi h=>h2 _ (ABT h),λi j hi hj=>ABL.1 h3 j i J hi hj⟩
 ·rintro ⟨h1,h2,h3⟩
  refine⟨h1,λx hx=>?_,λ_ _ _ h=>ADO,ABL.2 λa b ha hb hab=>h3 b a hb hab⟩;obtain⟨i,hi,rfl⟩:=ABV.1 hx;exact h2 i hi
theorem ic(a:It)(crew:ADC)(l:AAH):∀(prs:List (Nat×Nat)) (st:ADC×AAH),(prs.map (·.1)).Nodup->(prs.map (·.2)).Nodup->
  (∀k,((prs.foldl (λst p=>Q5 a crew l p st) st).1)[k]?=match prs.find? (λp=>p.2==k)with
   |some p=>(st.1[k]?).map λy=>(y.1,y.2.1,Qm a (X2 l p.1).2.1,y.2.2.2.1,0)
   |none=>st.1[k]?)/\
  (∀i,((prs.foldl (λst p=>Q5 a crew l p st) st).2)[i]?=match prs.find? (λp=>p.1==i)with
   |some p=>(st.2[i]?).map λy=>(y.1,y.2.1,(ZE crew p.2).1,2)
   |none=>st.2[i]?)
 | [],st,_,_=>⟨λk=>rfl,λi=>rfl⟩
 |p::prs,st,h1,h2=>by
  obtain⟨a1,a2⟩:=AAc.1 h1;obtain⟨b1,b2⟩:=AAc.1 h2;obtain⟨q1,q2⟩:=ic a crew l prs (Q5 a crew l p st) a2 b2;refine⟨λk=>?_,λi=>?_⟩
  ·rw[List.foldl_cons,q1 k,List.find?_cons];by_cases e:p.2=k
   ·have hn:prs.find? (λp=>p.2==k)=none:=ACI.2 λx hx hb=>b1 (AAs.2 ⟨x,hx,(by simpa using hb:x.2=k).trans e.symm⟩);rw[hn,show(p.2==k)=true by simpa using e];simp only[Q5,ABc,e,if_true];grind
   ·rw[show(p.2==k)=false by simpa using e]
    have he:(Q5 a crew l p st).1[k]?=st.1[k]?:=by simp only[Q5,ABc,e,if_false];grind
    rw[he]
  ·rw[List.foldl_cons,q2 i,List.find?_cons];by_cases e:p.1=i
   ·have hn:prs.find? (λp=>p.1==i)=none:=ACI.2 λx hx hb=>a1 (AAs.2 ⟨x,hx,(by simpa using hb:x.1=i).trans e.symm⟩);rw[hn,show(p.1==i)=true by simpa using e];simp only[Q5,ABc,e,if_true];grind
   ·rw[show(p.1==i)=false by simpa using e]
    have he:(Q5 a crew l p st).2[i]?=st.2[i]?:=by simp only[Q5,ABc,e,if_false];grind
    rw[he]
structure j8(w h:Int)(c:By)(a:It)(crew:ADC)(l:AAH)(prs:List (Nat×Nat)):Prop where
 n1:(prs.map (·.1)).Nodup
 n2:(prs.map (·.2)).Nodup
 Zc:∀p∈prs,p.1∈QL a l (Pn crew l).length
 tA:∀p∈prs,p.2∈Pn crew l
 uG:∀p∈prs,0<=VE w h c (ZE crew p.2).2.1 (Qm a (X2 l p.1).2.1)
theorem fJ(hc:c.length<=1048576)(hf:Ph w h c=true)(a:It)(crew:ADC)(l:AAH):j8 w h c a crew l (Qd w h c a crew l):=by
 obtain⟨c1,c2,c3⟩:=bU hc hf a crew l;have hready:(QL a l (Pn crew l).length).Nodup:=List.Pairwise.imp (fun {x y} h=>by have:=h.1;omega) (cN a l _ (UR l) 0)
 have hpd:∀j p,X5 w h c a crew l j=some p->p.1=(QL a l (Pn crew l).length).getD j 0/\p.2=(Pn crew l).getD ((Q7 w h c a crew l).getD j 0) 0/\0<=VE w h c (ZE crew p.2).2.1 (Qm a (X2 l p.1).2.1):=λj p hp=>by
  unfold X5 at hp;split at hp
  ·rename_i uR;injection hp with hp
   subst hp;refine⟨rfl,rfl,?_⟩;dsimp only;unfold Ux at uR;by_cases q:VE w h c (ZE crew ((Pn crew l).getD ((Q7 w h c a crew l).getD j 0) 0)).2.1 (Qm a (X2 l ((QL a l (Pn crew l).length).getD j 0)).2.1)<0
   ·rw[AAP q]at uR;omega
   ·omega
  ·cases hp
 have xR:∀p∈Qd w h c a crew l,∃j,j<(Q7 w h c a crew l).length/\X5 w h c a crew l j=some p:=λp hp=>by obtain⟨j,hj,e⟩:=List.mem_filterMap.1 hp;exact⟨j,AAX.1 hj,e⟩
 have at_ne:∀(s:Is),s.Nodup->∀i j,i<s.length->j<s.length->i≠j->s.getD i 0≠s.getD j 0:=λs hs i j hi hj uV e=>by rw[List.getD,List.getD,AAI hi,AAI hj]at e;exact uV (cI hs hi hj e)
 have pw:(Qd w h c a crew l).Pairwise λp q=>p.1≠q.1/\p.2≠q.2:=by unfold Qd;rw[List.pairwise_filterMap];refine AB8 (fun {i j} hi hj zN p hp q hq=>?_) (List.pairwise_lt_range (n:=(Q7 w h c a crew l).length));rw[AAX]at hi hj;obtain⟨p1,p2,_⟩:=hpd i p hp;obtain⟨q1,q2,_⟩:=hpd j q hq;rw[p1,p2,q1,q2];refine⟨at_ne _ hready i j J J J,at_ne _ (jO crew l) _ _ (c3 _ (WW hi)) (c3 _ (WW hj)) (at_ne _ c2 i j hi hj J)⟩
 refine⟨?_,?_,λp hp=>?_,λp hp=>?_,λp hp=>?_⟩
 ·unfold List.Nodup;rw[ABh];exact pw.imp λh=>h.1
 all_goals grind
theorem iF(hc:c.length<=1048576)(hf:Ph w h c=true){a b:Int}(hs:0<=VE w h c a b):QQ c b=true:=by
 cases hb:QQ c b with
 |true=>rfl
 |false=>
  exfalso;obtain⟨_,e,_,_⟩:=cX hc hf a b Pa (AAb _);obtain⟨k,k1,k2⟩:=Sq w h c hc hf b Pa (AAb _);rw[hb]at k2;have k3:(k==0)=true:=by simpa using k2
  unfold U0 at e;grind
structure gP(a:It)(crew:ADC)(l:AAH)(prs:List (Nat×Nat))(crew':ADC)(l':AAH):Prop where
 l1:crew'.length=crew.length
 l2:l'.length=l.length
 rb:∀k (h:k<crew.length) (h':k<crew'.length),(∃p∈prs,p.2=k/\crew'[k]=(crew[k].1,crew[k].2.1,Qm a (X2 l p.1).2.1,crew[k].2.2.2.1,0))\/((∀p∈prs,p.2≠k)/\crew'[k]=crew[k])
 tk:∀i (h:i<l.length) (h':i<l'.length),(∃p∈prs,p.1=i/\l'[i]=(l[i].1,l[i].2.1,(ZE crew p.2).1,2))\/((∀p∈prs,p.1≠i)/\l'[i]=l[i])
theorem Zf{a:It}{crew:ADC}{l:AAH}(h1:(prs.map (·.1)).Nodup)(h2:(prs.map (·.2)).Nodup):gP a crew l prs (sendAll a crew l prs).1 (sendAll a crew l prs).2:=by
 obtain⟨q1,q2⟩:=ic a crew l prs (crew,l) h1 h2;have hsi:=SI.all (a:=a) prs _ (SI.first crew l);have hfind:∀(P:Nat×Nat->Bool),prs.find? P=none->∀p∈prs,P p=false:=λP h p hp=>No
 refine⟨hsi.l1,hsi.l2,λk hk vh=>?_,λi hi vw=>?_⟩
 ·have:=q1 k;change (sendAll a crew l prs).1[k]?=_ at this;grind
 ·have:=q2 i;change (sendAll a crew l prs).2[i]?=_ at this;grind
theorem aU{l:AAH}(h:i<l.length):X2 l i=l[i]:=by unfold X2;grind
theorem Z8{crew:ADC}(h:i<crew.length):ZE crew i=crew[i]:=by unfold ZE;grind
theorem Zp{x u:Pm}:Pu x u=false↔¬(x.1=u.1/\x.2.1=u.2.1)/\(x.2.2.2≠1->x.2.2.1≠u.2.2.1/\(x.2.1=u.2.1->u.2.2.2=1)):=by unfold Pu;grind
structure CW(c:By)(crew:ADC):Prop where
 n20:crew.length<=20
 nT:∀r∈crew,1<=r.1/\r.1<=99
 iE:∀r∈crew,QQ c r.2.1=true
 goal:∀r∈crew,r.2.2.1 = -1\/QQ c r.2.2.1=true
 mq:∀r∈crew,0<=r.2.2.2.2/\r.2.2.2.2<=1000000
 ids:crew.Pairwise λr s=>r.1<s.1
 dA:crew.Pairwise λr s=>r.2.1≠s.2.1
theorem Wf(f:β->Int)(l:List β)(h:∀i (hi:i+1<l.length),f l[i]<f l[i+1]):l.Pairwise λx y=>f x<f y:=by
 rw[ABL]
 have key:∀d i (hj:i+d+1<l.length),f (l[i]'(by omega))<f l[i+d+1]:=by
  intro d
  induction d with
  |zero=>intro i hj;exact h i hj
  |succ d ih=>
   intro i hj;have h1:=ih i J;have h2:=h (i+d+1) J;have e:i+(d+1)+1=i+d+1+1:=J
   simp only[e];omega
 intro i j hi hj zN;have:=key (j-i-1) i J;grind
theorem eB{crew:ADC}(hi:i<crew.length):lD c crew i=true↔(1<=crew[i].1/\crew[i].1<=99)/\QQ c crew[i].2.1=true/\(crew[i].2.2.1 = -1\/QQ c crew[i].2.2.1=true)/\(0<=crew[i].2.2.2.2/\crew[i].2.2.2.2<=1000000)/\
  (∀j (hj:j+1=i),(crew[j]'(by omega)).1<crew[i].1)/\∀j (hj:j<i),(crew[j]'(by omega)).2.1≠crew[i].2.1:=by
 have hp:Qn (·.1) crew i crew[i]=true↔∀j (hj:j+1=i),(crew[j]'(by omega)).1<crew[i].1:=by
  cases i with
  |zero=>exact⟨λ_ j hj=>J,λ_=>rfl⟩
  |succ k=>
   simp only[Qn,AAI (show k<crew.length by omega),AAV,AAn]
   exact⟨λh j hj=>by
    have:j=k:=J
    subst this;omega,λh=>by have:=h k rfl;omega⟩
 have ha:((crew.take i).all λy => !(y.2.1==crew[i].2.1))=true↔∀j (hj:j<i),(crew[j]'(by omega)).2.1≠crew[i].2.1:=by
  rw[AAW];constructor
  ·intro h j hj;have:=h crew[j] (ABV.2 ⟨j,ADJ,OF⟩);simpa using this
  ·intro h y hy;obtain⟨j,hj,rfl⟩:=ABV.1 hy;have hji:j<i:=by simp at hj;omega
   have:=h j hji;simpa using this
 unfold lD;rw[AAI hi];simp only[AAJ,hp,ha,AAd,AAT];unfold P8;grind
theorem Uy{crew:ADC}:TR w h c crew=true↔Ph w h c=true/\CW c crew:=by
 unfold TR;simp only[AAJ,AAe,AAW,AAX];constructor
 ·rintro ⟨⟨hf,hn⟩,vY⟩
  have hr:∀i (hi:i<crew.length),_:=λi hi=>(eB hi).1 (vY i hi)
  refine⟨hf,⟨hn,λr vI=>?_,λr vI=>?_,λr vI=>?_,λr vI=>?_,Wf _ _ λi hi=>(hr (i+1) hi).2.2.2.2.1 i rfl,ABL.2 λi j hi hj zN=>(hr j hj).2.2.2.2.2 i zN⟩⟩ <;>
   (obtain⟨i,hi,rfl⟩:=ABV.1 vI)
  ·exact(hr i hi).1
  ·exact(hr i hi).2.1
  ·exact(hr i hi).2.2.1
  ·exact(hr i hi).2.2.2.1
 ·rintro ⟨hf,hw⟩
  refine⟨⟨hf,hw.n20⟩,λi hi=>(eB hi).2 ?_⟩;have hm:=ABT hi;exact⟨hw.nT _ hm,hw.iE _ hm,hw.goal _ hm,hw.mq _ hm,λj hj=>ABL.1 hw.ids j i J hi J,λj hj=>ABL.1 hw.dA j i J hi hj⟩
theorem j8.cz{a:It}{crew:ADC}{l:AAH}(hd:j8 w h c a crew l prs)(hc:CW c crew){p:Nat×Nat}(hp:p∈prs):∃hk:p.2<crew.length,1<=crew[p.2].1/\crew[p.2].1<=99/\crew[p.2].2.2.1 = -1/\crew[p.2].2.2.2.1=false/\∀j (hj:j<l.length),l[j].2.2.1≠crew[p.2].1:=by obtain⟨hk,hi⟩:=Y7 (hd.tA p hp);have h1:=hc.nT _ (ABT hk);unfold eN at hi;grind
theorem j8.Ws{a:It}(ha:a.length<=1048576){crew:ADC}{l:AAH}(hd:j8 w h c a crew l prs){p:Nat×Nat}(hp:p∈prs):∃hk:p.1<l.length,l[p.1].2.2.2=1/\l[p.1].2.1∉UR l/\∃i,∃hi:i<a.length,R5 a l[p.1].2.1=(i:Int)/\a[i].1=l[p.1].2.1/\Qm a l[p.1].2.1=a[i].2.1:=by obtain⟨q1,q2,q3,q4⟩:=YW ha (hd.Zc p hp);rw[aU q1]at q2 q3 q4;grind
theorem fF{l:AAH}(hj:j<l.length)(uV:l[j].2.2.2≠1):l[j].2.1∈UR l:=by unfold UR;grind
theorem j8.two{a:It}(ha:a.length<=1048576){crew:ADC}{l:AAH}(hd:j8 w h c a crew l prs)(hc:CW c crew){p q:Nat×Nat}(hp:p∈prs)(hq:q∈prs)(uV:p.1≠q.1):
  (ZE crew p.2).1≠(ZE crew q.2).1/\(X2 l p.1).2.1≠(X2 l q.1).2.1:=by
 obtain⟨r1,_⟩:=hd.cz hc hp;obtain⟨r2,_⟩:=hd.cz hc hq;obtain⟨i,hi,rfl⟩:=ABV.1 hp;obtain⟨j,hj,rfl⟩:=ABV.1 hq;have zN:i≠j:=λq=>uV (by subst q;rfl)
 have h2:prs[i].2≠prs[j].2:=λe=>zN (by
  have h2:=hd.n2;have e2:(prs.map (·.2))[i]'(by grind)=(prs.map (·.2))[j]'(by grind):=by rw[ABl,ABl];exact e
  exact cI h2 _ _ e2)
 refine⟨λe=>h2 ?_,?_⟩
 ·rw[Z8 r1,Z8 r2]at e;rcases ABd prs[i].2 prs[j].2 with uR|uR|uR
  ·have:=ABL.1 hc.ids _ _ r1 r2 uR;omega
  ·exact uR
  ·have:=ABL.1 hc.ids _ _ r2 r1 uR;omega
 ·have pw:=cN a l (Pn crew l).length (UR l) 0;obtain⟨t1,_⟩:=hd.Ws ha hp;obtain⟨t2,_⟩:=hd.Ws ha hq;have m1:=hd.Zc _ hp;have m2:=hd.Zc _ hq;rw[aU t1,aU t2];obtain⟨x,hx,ex⟩:=ABV.1 m1;obtain⟨y,hy,ey⟩:=ABV.1 m2
  have fwd:∀(x y:Nat) (hx:x<(QL a l (Pn crew l).length).length) (hy:y<(QL a l (Pn crew l).length).length) (s t:Nat) (hs:s<l.length) (ht:t<l.length),(QL a l (Pn crew l).length)[x]=s->(QL a l (Pn crew l).length)[y]=t->x<y->l[s].2.1≠l[t].2.1:=by intro x y hx hy s t hs ht es et uR;have:=(ABL.1 pw x y hx hy uR).2;have es':(Go.Ev.N.Zc a (Pn crew l).length (UR l) 0 l)[x]'hx=s:=es;have et':(Go.Ev.N.Zc a (Pn crew l).length (UR l) 0 l)[y]'hy=t:=et;simp only[es',et',Nat.sub_zero]at this;exact this hs ht
  grind
theorem gP.tasks{a:It}(ha:a.length<=1048576){crew:ADC}{l:AAH}{crew':ADC}{l':AAH}(hs:gP a crew l prs crew' l')(hd:j8 w h c a crew l prs)(ht:TP l)(hc:CW c crew):TP l':=by
 have zj:=hs.l2;refine⟨by rw[zj];exact ht.len,λi hi=>?_,λi j hi hj=>?_⟩
 ·have hil:i<l.length:=J
  rcases hs.tk i hil hi with⟨p,hp,rfl,e⟩|⟨_,e⟩
  ·obtain⟨hk,r1,r2,_⟩:=hd.cz hc hp;have hg:=ht.fO p.1 hil;obtain⟨t1,t2,_⟩:=hd.Ws ha hp;rw[e,Z8 hk];unfold P6 at hg ⊢;grind
  ·rw[e];exact ht.fO i hil
 ·have hil:i<l.length:=J
  have hjl:j<l.length:=J
  have hold:=Zp.1 (ht.apart i j hil hj);rw[Zp];rcases hs.tk i hil hi with⟨p,hp,rfl,e⟩|⟨yO,e⟩
  ·obtain⟨hk,r1,r2,r3,r4,r5⟩:=hd.cz hc hp;obtain⟨t1,t2,t3,_⟩:=hd.Ws ha hp;rcases hs.tk j hjl J with⟨q,hq,rfl,e2⟩|⟨hno2,e2⟩
   ·obtain⟨n1,n2⟩:=hd.two ha hc hp hq J;rw[aU hil,aU hjl]at n2;grind
   ·rw[e,e2,Z8 hk];refine⟨hold.1,λ_=>⟨λq=>r5 j hjl q.symm,λq=>?_⟩⟩;refine AAl λuV=>t3 ?_;have q:l[p.1].2.1=l[j].2.1:=q;rw[q];exact fF hjl uV
  ·rcases hs.tk j hjl J with⟨q,hq,rfl,e2⟩|⟨hno2,e2⟩
   ·obtain⟨hk,r1,r2,r3,r4,r5⟩:=hd.cz hc hq;obtain⟨t1,t2,t3,_⟩:=hd.Ws ha hq;rw[e,e2,Z8 hk];refine⟨hold.1,λuV=>⟨r5 i hil,λq2=>?_⟩⟩;have q2:l[i].2.1=l[q.1].2.1:=q2;exact absurd (q2▸fF hil uV) t3
   grind
theorem gP.crew(zd:c.length<=1048576)(hf:Ph w h c=true){a:It}{crew:ADC}{l:AAH}{crew':ADC}{l':AAH}(hs:gP a crew l prs crew' l')(hd:j8 w h c a crew l prs)(hc:CW c crew):CW c crew':=by
 have wX:=hs.l1
 have each:∀k (h:k<crew.length) (h':k<crew'.length),crew'[k].1=crew[k].1/\crew'[k].2.1=crew[k].2.1/\(crew'[k].2.2.1 = -1\/QQ c crew'[k].2.2.1=true)/\0<=crew'[k].2.2.2.2/\crew'[k].2.2.2.2<=1000000:=λk hk vh=>by
  rcases hs.rb k hk vh with⟨p,hp,rfl,e⟩|⟨_,e⟩
  ·rw[e];exact⟨rfl,rfl,.inr (iF zd hf (hd.uG p hp)),No,No⟩
  ·rw[e];have hm:=ABT hk;exact⟨rfl,rfl,hc.goal _ hm,hc.mq _ hm⟩
 have mem:∀r∈crew',∃k,∃h:k<crew.length,∃h':k<crew'.length,crew'[k]=r:=λr hr=>by obtain⟨k,hk,rfl⟩:=ABV.1 hr;grind
 refine⟨by rw[wX];exact hc.n20,λr hr=>?_,λr hr=>?_,λr hr=>?_,λr hr=>?_,?_,?_⟩
 ·obtain⟨k,h,h',rfl⟩:=mem r hr;rw[(each k h h').1];exact hc.nT _ (ABT h)
 ·obtain⟨k,h,h',rfl⟩:=mem r hr;rw[(each k h h').2.1];exact hc.iE _ (ABT h)
 ·grind
 ·grind
 ·refine ABL.2 λi j hi hj zN=>?_;rw[(each i J hi).1,(each j J hj).1];exact ABL.1 hc.ids i j J J zN
 ·refine ABL.2 λi j hi hj zN=>?_;rw[(each i J hi).2.1,(each j J hj).2.1];exact ABL.1 hc.dA i j J J zN
theorem Wz(key:β->Int)(a:List β)(i:Nat)(hi:i<a.length):Qn key a i a[i]=true↔∀j (hj:j+1=i),key (a[j]'(by omega))<key a[i]:=by
 cases i with
 |zero=>exact⟨λ_ j hj=>J,λ_=>rfl⟩
 |succ k=>
  simp only[Qn,AAI (show k<a.length by omega),AAV,AAn];grind
theorem eX{l:AAD}:RW l=true↔Vk l:=by
 constructor
 ·intro h;unfold RW at h;simp only[AAJ,AAW,AAX,AAe]at h;obtain⟨h1,h2⟩:=h
  have each:∀i (hi:i<l.length),(1<=l[i].1/\l[i].1<=50)/\(1<=l[i].2.1/\l[i].2.1<=1000)/\(0<=l[i].2.2/\l[i].2.2<=l[i].2.1)/\∀j (hj:j+1=i),(l[j]'(by omega)).1<l[i].1:=λi hi=>by have:=h1 i hi;unfold WL at this;rw[AAI hi]at this;unfold P8 at this;simp only[AAJ,AAe,Wz (·.1) l i hi]at this;exact⟨this.1.1.1,this.1.1.2,this.1.2,this.2⟩
  refine⟨Wf _ _ λi hi=>(each (i+1) hi).2.2.2 i rfl,λx hx=>?_,h2⟩;obtain⟨i,hi,rfl⟩:=ABV.1 hx;obtain⟨e1,e2,e3,_⟩:=each i hi;omega
 ·exact Vk.ok
theorem P1{a:It}:P2 a=true↔Pf a:=by
 constructor
 ·intro h;unfold P2 at h;simp only[AAJ,AAW,AAX,AAe]at h;obtain⟨h1,h2⟩:=h
  have each:∀i (hi:i<a.length),(1<=a[i].1/\a[i].1<=999)/\(0<=a[i].2.1/\a[i].2.1<=99)/\Vk a[i].2.2/\(∀j (hj:j+1=i),(a[j]'(by omega)).1<a[i].1)/\∀j (hj:j<i),(a[j]'(by omega)).2.1≠a[i].2.1:=λi hi=>by have:=h2 i hi;unfold ag at this;rw[AAI hi]at this;unfold P8 at this;simp only[AAJ,AAe,Wz (·.1) a i hi,eX,AAW]at this;refine⟨this.1.1.1.1,this.1.1.1.2,this.1.1.2,this.1.2,λj hj=>?_⟩;have:=this.2 (a[j]'(by omega)) (ABV.2 ⟨j,ADJ,OF⟩);simpa using this
  have ids:=Wf (λx:Pb=>x.1) a λi hi=>(each (i+1) hi).2.2.2.1 i rfl;refine⟨h1,ABL.2 λi j hi hj zN=>⟨ABL.1 ids i j hi hj zN,(each j hj).2.2.2.2 i zN⟩,λp hp=>?_⟩;obtain⟨i,hi,rfl⟩:=ABV.1 hp;obtain⟨e1,e2,e3,_⟩:=each i hi;grind
 ·exact Pf.ok
def Yd(l:AAD)(k:Int)(f:PQ->PQ):AAD:=l.map λy=>bif y.1==k then f y else y
def Xf(a:It)(Pj:Int)(f:AAD->AAD):It:=a.map λp=>bif p.1==Pj then(p.1,p.2.1,f p.2.2)else p
theorem ZC{a:It}(h:Pf a)(hi:i<a.length)(f:AAD->AAD):a.modify i (λp=>(p.1,p.2.1,f p.2.2))=Xf a a[i].1 f:=by
 apply ABs;intro j;unfold Xf;rw[ABc,AAZ];by_cases hj:j<a.length
 ·rw[AAI hj];by_cases e:i=j
  ·subst e;simp
  ·have uV:(a[j].1==a[i].1)=false:=by
    rw[ABY];intro q;rcases ABd i j with hl|hl|hl
    ·have:=(ABL.1 h.2.1 i j hi hj hl).1;omega
    ·exact e hl
    ·have:=(ABL.1 h.2.1 j i hj hi hl).1;omega
   simp[e,uV]
 grind
theorem mF{l:AAD}(h:Vk l)(hi:i<l.length)(f:PQ->PQ):l.modify i f=Yd l l[i].1 f:=by
 apply ABs;intro j;unfold Yd;rw[ABc,AAZ];by_cases hj:j<l.length
 ·rw[AAI hj];by_cases e:i=j
  ·subst e;simp
  ·have uV:(l[j].1==l[i].1)=false:=by
    rw[ABY];intro q;rcases ABd i j with hl|hl|hl
    ·have:=ABL.1 h.1 i j hi hj hl;omega
    ·exact e hl
    ·have:=ABL.1 h.1 j i hj hi hl;omega
   simp[e,uV]
 grind
theorem Wp{l:AAD}(h:Vk l){x:PQ}(hx:x∈l):Pl l x.1=x:=by
 unfold Pl;cases hf:l.find? λy=>y.1==x.1 with
 |none=>grind
 |some y=>
  have hy:=ABn hf;have he:y.1=x.1:=by simpa using List.find?_some hf
  obtain⟨i,hi,rfl⟩:=ABV.1 hx;obtain⟨j,hj,rfl⟩:=ABV.1 hy;rcases ABd i j with hl|hl|hl
  ·have:=ABL.1 h.1 i j hi hj hl;omega
  ·subst hl;rfl
  ·have:=ABL.1 h.1 j i hj hi hl;omega
theorem UH{l:AAD}{k:Int}(h:∀x∈l,x.1≠k):Pl l k=(k,0,0):=by unfold Pl;grind
theorem UP{l:AAD}(h:Vk l)(k:Int):0<=(Pl l k).2.1/\(Pl l k).2.1<=1000/\0<=(Pl l k).2.2/\(Pl l k).2.2<=(Pl l k).2.1/\(Pl l k).1=k:=by
 unfold Pl;cases hf:l.find? λy=>y.1==k with
 |none=>grind
 |some y=>
  have:=h.2.1 y (ABn hf);grind
theorem lB{l:AAD}(h:Vk l){k:Int}(hk:∃z∈l,z.1=k)(d:Int):dM (k,(Pl l k).2.1,(Pl l k).2.2+d) l=Yd l k λy=>(y.1,y.2.1,y.2.2+d):=by
 unfold dM Yd;refine ABy λy hy=>?_;by_cases e:y.1=k
 ·subst e;rw[Wp h hy]
 grind
theorem lT{l:AAD}(h:Vk l)(k d:Int)(hd:∀y∈l,y.1=k->0<=y.2.2+d/\y.2.2+d<=y.2.1):Vk (Yd l k λy=>(y.1,y.2.1,y.2.2+d)):=by
 have key:∀y:PQ,(bif y.1==k then(y.1,y.2.1,y.2.2+d)else y).1=y.1:=λy=>No
 refine⟨?_,λz hz=>?_,by unfold Yd;rw[ABt];exact h.2.2⟩
 ·unfold Yd;rw[ABh];exact h.1.imp λh=>No
 ·unfold Yd at hz;obtain⟨y,hy,rfl⟩:=AAs.1 hz;have hy2:=h.2.1 y hy;grind
theorem ct{a:It}(h:Pf a)(Pj:Int)(f:AAD->AAD)(hf:∀p∈a,p.1=Pj->Vk (f p.2.2)):Pf (Xf a Pj f):=by
 have key:∀p:Pb,(bif p.1==Pj then(p.1,p.2.1,f p.2.2)else p).1=p.1/\(bif p.1==Pj then(p.1,p.2.1,f p.2.2)else p).2.1=p.2.1:=λp=>No
 refine⟨by unfold Xf;rw[ABt];exact h.1,?_,λz hz=>?_⟩
 ·unfold Xf;rw[ABh];exact h.2.1.imp λh=>No
 ·unfold Xf at hz;obtain⟨p,hp,rfl⟩:=AAs.1 hz;have yB:=h.2.2 p hp;grind
def SZ(a:It)(Pj k:Int):PQ:=match a[(R5 a Pj).toNat]? with
 |some p=>Pl p.2.2 k
 |none=>(k,0,0)
def QE(a:It)(Pj k m:Int):Int:=bif P2 a&&(P8 k 1 50&&P8 m 1 1000)then(if R5 a Pj<0 then 2 else 0)else 1
def bR(a:It)(Pj k d:Int):It:=Xf a Pj λl=>Yd l k λy=>(y.1,y.2.1,y.2.2+d)
def Yr(a:It)(Pj k m:Int):It×Int:=if QE a Pj k m≠0 then(a,QE a Pj k m)else if(SZ a Pj k).2.1-(SZ a Pj k).2.2<m then(a,3)else(bR a Pj k m,0)
def eU(a:It)(Pj k m:Int):It×Int:=if QE a Pj k m≠0 then(a,QE a Pj k m)else if(SZ a Pj k).2.2<m then(a,3)else(bR a Pj k (-m),0)
theorem Qt{a:It}{Pj k m:Int}(h:QE a Pj k m=0):Pf a/\(1<=k/\k<=50)/\(1<=m/\m<=1000)/\∃i,∃hi:i<a.length,R5 a Pj=(i:Int)/\a[i].1=Pj/\SZ a Pj k=Pl a[i].2.2 k:=by
 unfold QE at h;cases hs:(P2 a&&(P8 k 1 50&&P8 m 1 1000))with
 |false=>grind
 |true=>
  rw[hs,ABR]at h;unfold P8 at hs;simp only[AAJ,AAe]at hs;have hS:=P1.1 hs.1;refine⟨hS,hs.2.1,hs.2.2,?_⟩;have h12:=hS.1;rcases(Ro a J Pj Pa (AAb _)).2 with⟨e,_⟩|⟨i,hi,e,e2⟩
  ·omega
  ·refine⟨i,hi,e,e2,?_⟩;unfold SZ;grind
theorem iJ{a:It}(h:Pf a)(Pj k d:Int)(hd:∀p∈a,p.1=Pj->∀y∈p.2.2,y.1=k->0<=y.2.2+d/\y.2.2+d<=y.2.1):Pf (bR a Pj k d):=ct h Pj _ λp hp e=>lT (h.2.2 p hp).2.2 k d (hd p hp e)
theorem Xa{a:It}(h:Pf a)(hi:i<a.length){p:Pb}(hp:p∈a)(e:p.1=a[i].1):p=a[i]:=by
 obtain⟨j,hj,rfl⟩:=ABV.1 hp;rcases ABd i j with hl|hl|hl
 ·have:=(ABL.1 h.2.1 i j hi hj hl).1;omega
 ·subst hl;rfl
 ·have:=(ABL.1 h.2.1 j i hj hi hl).1;omega
theorem fP{a:It}(h:Pf a)(Pj k m:Int):Pf (Yr a Pj k m).1:=by
 unfold Yr;split
 ·exact h
 ·rename_i hc;split
  ·exact h
  ·rename_i uR;obtain⟨_,hk,hm,i,hi,e1,e2,e3⟩:=Qt (by omega:QE a Pj k m=0);refine iJ h Pj k m λp hp ep y hy ey=>?_;have:p=a[i]:=Xa h hi hp (ep.trans e2.symm);subst this;have wc:=(h.2.2 _ (ABT hi)).2.2;have hyb:=wc.2.1 y hy;rw[e3,<-ey,Wp wc hy]at uR;omega
theorem ia{a:It}(h:Pf a)(Pj k m:Int):Pf (eU a Pj k m).1:=by
 unfold eU;split
 ·exact h
 ·rename_i hc;split
  ·exact h
  ·rename_i uR;obtain⟨_,hk,hm,i,hi,e1,e2,e3⟩:=Qt (by omega:QE a Pj k m=0);refine iJ h Pj k (-m) λp hp ep y hy ey=>?_;have:p=a[i]:=Xa h hi hp (ep.trans e2.symm);subst this;have wc:=(h.2.2 _ (ABT hi)).2.2;have hyb:=wc.2.1 y hy;rw[e3,<-ey,Wp wc hy]at uR;omega
end Go.Ev.N
