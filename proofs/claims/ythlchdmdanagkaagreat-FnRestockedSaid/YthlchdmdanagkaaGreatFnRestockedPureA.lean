/- FnRestocked,as a plain law ot native forms: what the program's function answers is what the reference's answers. Conditions: none but the lengths' and numbers' bounds. -/
import Derived.Test.YthlchdmdanagkaaGreatFnRestockedNat
set_option linter.all false
namespace Go.Ev.N
open Go Go.Ev
variable {i m j k s:Nat}{α:Type}{c:By}{w u v:Nat->Int}{h x:Int}{R:List (Nat->Int)}{S:Is}{a b:Option Int}{C:Nat->Nat->Int}{a0:List By}
theorem ABT:type_of% @Option.bind_some:=@Option.bind_some
theorem ABU:type_of% @cond_true:=@cond_true
theorem ABV:type_of% @cond_false:=@cond_false
theorem ABW:type_of% @List.getElem_mem:=@List.getElem_mem
theorem ABX:type_of% @Int.toNat_natCast:=@Int.toNat_natCast
theorem ABY:type_of% @List.mem_iff_getElem:=@List.mem_iff_getElem
theorem ABZ:type_of% @decide_eq_true:=@decide_eq_true
theorem ABa:type_of% @beq_eq_false_iff_ne:=@beq_eq_false_iff_ne
theorem ABb:type_of% @List.length_singleton:=@List.length_singleton
theorem ABc:type_of% @Bool.not_true:=@Bool.not_true
theorem ABd:type_of% @decide_eq_false:=@decide_eq_false
theorem ABe:type_of% @List.take_succ_eq_append_getElem:=@List.take_succ_eq_append_getElem
theorem ABf:type_of% @List.getElem?_modify:=@List.getElem?_modify
theorem ABg:type_of% @Nat.lt_trichotomy:=@Nat.lt_trichotomy
theorem ABh:type_of% @List.drop_eq_getElem_cons:=@List.drop_eq_getElem_cons
theorem ABi:type_of% @beq_self_eq_true:=@beq_self_eq_true
theorem ABj:type_of% @List.getElem_map:=@List.getElem_map
theorem ABk:type_of% @List.pairwise_map:=@List.pairwise_map
theorem ABl:type_of% @List.pairwise_cons:=@List.pairwise_cons
theorem ABm:type_of% @List.mem_filter:=@List.mem_filter
theorem ABn:type_of% @List.append_nil:=@List.append_nil
theorem ABo:type_of% @List.append_assoc:=@List.append_assoc
theorem ABp:type_of% @List.pairwise_append:=@List.pairwise_append
theorem ABq:type_of% @List.mem_of_find?_eq_some:=@List.mem_of_find?_eq_some
theorem ABr:type_of% @List.mem_of_mem_erase:=@List.mem_of_mem_erase
theorem ABs:type_of% @List.length_filter_le:=@List.length_filter_le
theorem ABt:type_of% @List.ext_getElem?:=@List.ext_getElem?
theorem ABu:type_of% @Bool.not_false:=@Bool.not_false
theorem ABv:type_of% @List.take_of_length_le:=@List.take_of_length_le
theorem ABw:type_of% @Bool.not_eq_true:=@Bool.not_eq_true
theorem ABx:type_of% @Bool.true_and:=@Bool.true_and
theorem ABy:type_of% @Bool.eq_iff_iff:=@Bool.eq_iff_iff
theorem ABz:type_of% @List.take_append_drop:=@List.take_append_drop
theorem AB0:type_of% @Nat.le_add_right:=@Nat.le_add_right
theorem AB1:type_of% @List.filter_append:=@List.filter_append
theorem AB2:type_of% @bne_iff_ne:=@bne_iff_ne
theorem AB3:type_of% @List.range_succ:=@List.range_succ
theorem AB4:type_of% @List.map_congr_left:=@List.map_congr_left
theorem AB5:type_of% @List.getElem_of_mem:=@List.getElem_of_mem
theorem AB6:type_of% @List.filter_eq_nil_iff:=@List.filter_eq_nil_iff
theorem AB7:type_of% @List.nodup_range:=@List.nodup_range
theorem AB8:type_of% @List.length_take:=@List.length_take
theorem AB9:type_of% @List.filter_cons:=@List.filter_cons
theorem ACA:type_of% @Bool.false_and:=@Bool.false_and
theorem ACB:type_of% @List.singleton_append:=@List.singleton_append
theorem ACC:type_of% @List.length_set:=@List.length_set
theorem ACD:type_of% @Bool.and_true:=@Bool.and_true
theorem ACE:type_of% @Bool.and_self:=@Bool.and_self
theorem ACF:type_of% @List.length_drop:=@List.length_drop
theorem ACG:type_of% @List.ext_getElem:=@List.ext_getElem
theorem ACH:type_of% @List.find?_eq_none:=@List.find?_eq_none
theorem ACI:type_of% @List.set_append_right:=@List.set_append_right
theorem ACJ:type_of% @List.getElem?_set:=@List.getElem?_set
theorem ACK:type_of% @List.mem_of_mem_drop:=@List.mem_of_mem_drop
theorem ACL:type_of% @List.filter_eq_self:=@List.filter_eq_self
theorem ACN:type_of% @List.Pairwise.imp_of_mem:=@List.Pairwise.imp_of_mem
theorem ACO:type_of% @List.getElem_cons_zero:=@List.getElem_cons_zero
theorem ACP:type_of% @List.getElem?_set_self:=@List.getElem?_set_self
theorem ACQ:type_of% @Int.toNat_zero:=@Int.toNat_zero
theorem ACR:type_of% @Bool.and_eq_false_iff:=@Bool.and_eq_false_iff
theorem ACS:type_of% @List.replicate_succ':=@List.replicate_succ'
theorem ACT:type_of% @List.mem_of_mem_take:=@List.mem_of_mem_take
theorem ACU:type_of% @List.find?_some:=@List.find?_some
theorem ACV:type_of% @List.mem_map_of_mem:=@List.mem_map_of_mem
theorem ACW:type_of% @Nat.sub_self:=@Nat.sub_self
theorem ACX:type_of% @Nat.eq_zero_or_pos:=@Nat.eq_zero_or_pos
theorem ACY:type_of% @List.set_cons_zero:=@List.set_cons_zero
theorem ACZ:type_of% @List.getElem_take:=@List.getElem_take
theorem ACa:type_of% @List.getElem_drop:=@List.getElem_drop
theorem ACb:type_of% @Int.le_refl:=@Int.le_refl
theorem ACc:type_of% @Int.add_assoc:=@Int.add_assoc
theorem Pr{n:Int}(h1 : -9223372036854775808<=n)(h2:n<=9223372036854775807):Pn n=n:=by unfold Pn IntKind.wrap;simp only[IntKind.bits,IntKind.signed];grind
theorem Pj(h:i<m)(hm:m<=9223372036854775807):Pn ((i:Int)+1)=((i+1:Nat):Int):=by rw[Pr J J];omega
theorem RU(xs:List α)(i:Nat):JQ xs (i:Int)=xs[i]?:=by unfold JQ;grind
theorem Pk{α:Type}{xs:List α}(h:i<xs.length):JQ xs (i:Int)=some xs[i]:=by rw[RU];grind
theorem oU(xs:List α)(i:Nat):O3 xs (i:Int)=decide (i<xs.length):=by unfold O3;grind
theorem Po{α:Type}{xs:List α}(h:i<xs.length):O3 xs (i:Int)=true:=by rw[oU];simpa using h
theorem QX(l:List α)(n:Nat)(y:α):Ca l n y=l.set n y:=Bj l n y
def w7{α:Type}(p:α->Prop)(x:List α):Prop:=List.length x<=maxLen/\∀y,List.Mem y x->p y
section
variable {α γ σ β:Type}
theorem S4{f:α->Option (α⊕γ)}{x y:α}(h:f x=some (.inl y))(n:Nat):iter (n+1) f x=iter n f y:=by simp[iter,h]
theorem QO{f:α->Option (α⊕γ)}{x:α}{z:γ}(h:f x=some (.inr z))(n:Nat):iter (n+1) f x=some z:=by simp[iter,h]
theorem P8(f:α->Option (α⊕γ))(st:Nat->α)(m:Nat)(r:γ)(hs:∀i,i<m->f (st i)=some (.inl (st (i+1))))(he:f (st m)=some (.inr r)):∀n,m<n->iter n f (st 0)=some r:=by
 have key:∀d i n,i+d=m->d<n->iter n f (st i)=some r:=by
  intro d
  induction d with
  |zero=>
   intro i n hi hn;obtain⟨n,rfl⟩:∃k,n=k+1:=⟨n-1,J⟩;have:i=m:=J
   subst this;exact QO he n
  |succ d ih=>
   intro i n hi hn;obtain⟨n,rfl⟩:∃k,n=k+1:=⟨n-1,J⟩;rw[S4 (hs i J) n];exact ih (i+1) n J J
 grind
theorem QA(f:α->Option (α⊕γ))(st:Nat->σ->α)(xs:List β)(G:List β->σ->γ)(Inv:Nat->σ->Prop)
  (hend:∀s,Inv xs.length s->f (st xs.length s)=some (.inr (G [] s)))
  (hstep:∀i x l s,i<xs.length->xs[i]?=some x->xs.drop i=x::l->xs.drop (i+1)=l->Inv i s->(∃s',f (st i s)=some (.inl (st (i+1) s'))/\Inv (i+1) s'/\G (x::l) s=G l s')\/f (st i s)=some (.inr (G (x::l) s))):
  ∀n,xs.length<n->∀s,Inv 0 s->iter n f (st 0 s)=some (G xs s):=by
 have key:∀d i n s,i+d=xs.length->d<n->Inv i s->iter n f (st i s)=some (G (xs.drop i) s):=by
  intro d
  induction d with
  |zero=>
   intro i n s hi hn hI;obtain⟨n,rfl⟩:∃k,n=k+1:=⟨n-1,J⟩;have:i=xs.length:=J
   subst this;rw[QO (hend s hI) n,List.drop_length]
  |succ d ih=>
   intro i n s hi hn hI;obtain⟨n,rfl⟩:∃k,n=k+1:=⟨n-1,J⟩;have zA:i<xs.length:=J
   have hd:xs.drop i=xs[i]::xs.drop (i+1):=ABh zA;rcases hstep i xs[i] (xs.drop (i+1)) s zA (AAI zA) hd rfl hI with⟨s',h1,h2,h3⟩|h1
   ·rw[S4 h1 n,ih (i+1) n s' J J h2,hd,h3]
   ·rw[QO h1 n,hd]
 grind
theorem Xq(f:Int->Option (Int⊕γ))(xs:List β)(G:List β->List β->γ)(hend:f (xs.length:Int)=some (.inr (G xs [])))
  (hstep:∀i x l p,i<xs.length->xs[i]?=some x->xs=p++x::l->p.length=i->p=xs.take i->(f (i:Int)=some (.inl ((i+1:Nat):Int))/\G p (x::l)=G (p++[x]) l)\/f (i:Int)=some (.inr (G p (x::l)))):
  ∀n,xs.length<n->iter n f 0=some (G [] xs):=by
 intro n hn;refine QA (σ:=List β) f (λi _=>(i:Int)) xs (λl p=>G p l) (λi p=>p=xs.take i) (λs hs=>?_) (λi x l s h1 h2 h3 h4 h5=>?_) n hn [] OF
 ·grind
 ·have hlen:s.length=i:=by rw[h5];simp;omega
  have hx:xs=s++x::l:=by rw[<-h3,h5,ABz]
  grind
end
theorem Rl{β:Type}(f:Int->Option (Int⊕(Int⊕Bool)))(xs:List β)(P:β->Bool)(hs:∀(i:Nat)(x:β),i<xs.length->xs[i]?=some x->f (i:Int)=some (bif P x then .inl ((i+1:Nat):Int)else .inr (.inr false)))
  (he:f (xs.length:Int)=some (.inr (.inl (xs.length:Int)))):∀n,xs.length<n->iter n f 0=some (bif xs.all P then .inl (xs.length:Int)else .inr false):=by
 intro n hn;refine Xq f xs (λp l=>bif l.all P then .inl (xs.length:Int)else .inr false) ?_ ?_ n hn
 all_goals grind
theorem lX(b:Bool)(x y:α):(bif b then some x else some y)=some (bif b then x else y):=No
def Ps:Nat:=18446744073709551616
theorem ADd{p:Prop}(h:p:=by unfold Ps at hn;omega):p:=h
theorem eU(xs:List α)(i:Nat)(f:α->α)(h:i<xs.length):List.modify xs i f=xs.set i (f xs[i]):=by
 apply ACG
 all_goals grind
def jR(a:List (Int×Int)):Prop:=a.length<=1048576
def jS(a:List (Int×Int×Int)):Prop:=a.length<=1048576
def bE(a:Int×Int×(List (Int×Int))×(List (Int×Int×Int))×Int):Prop:=jR a.2.2.1/\jS a.2.2.2.1
def mW(a:List (Int×Int×(List (Int×Int))×(List (Int×Int×Int))×Int)):Prop:=a.length<=1048576/\∀y∈a,bE y
def RZ(a:Int×(List (Int×Int×(List (Int×Int))×(List (Int×Int×Int))×Int))):Prop:=mW a.2
def mX(a:List (Int×Int×Int)):Prop:=a.length<=1048576
def qN(a:Int×Int×(List (Int×Int×Int))):Prop:=mX a.2.2
def P4(a:List (Int×Int×(List (Int×Int×Int)))):Prop:=a.length<=1048576/\∀y∈a,qN y
theorem Ru(h:m<=1048576):decide (m+1<=Dj)=true:=by have hm:Dj=68719476736:=rfl;grind
theorem VI(h:m<=1048576):decide (m<=Dj)=true:=by have hm:Dj=68719476736:=rfl;grind
theorem nJ{α γ:Type}(f g:α->Option (α⊕γ))(I:Nat->α->Prop)(Q:γ->Prop)(m:Nat)
  (h:∀i x,i<=m->I i x->g x=f x/\((∃y,f x=some (.inl y)/\I (i+1) y/\i<m)\/∃r,f x=some (.inr r)/\Q r)):
  ∀n,m<n->∀x,I 0 x->iter n g x=iter n f x/\∃r,iter n f x=some r/\Q r:=by
 have key:∀d i n x,i+d=m->d<n->I i x->iter n g x=iter n f x/\∃r,iter n f x=some r/\Q r:=by
  intro d
  induction d with
  |zero=>
   intro i n x hi hn hI;obtain⟨n,rfl⟩:∃k,n=k+1:=⟨n-1,J⟩;obtain⟨e,h1|⟨r,h1,h2⟩⟩:=h i x J hI
   ·obtain⟨y,_,_,zA⟩:=h1;omega
   ·exact⟨by rw[QO h1 n,QO (e.trans h1) n],r,QO h1 n,h2⟩
  |succ d ih=>
   intro i n x hi hn hI;obtain⟨n,rfl⟩:∃k,n=k+1:=⟨n-1,J⟩;obtain⟨e,⟨y,h1,h2,_⟩|⟨r,h1,h2⟩⟩:=h i x J hI
   ·obtain⟨j1,j2⟩:=ih (i+1) n y J J h2;rw[S4 h1 n,S4 (e.trans h1) n];exact⟨j1,j2⟩
   ·exact⟨by rw[QO h1 n,QO (e.trans h1) n],r,QO h1 n,h2⟩
 grind
theorem dQ(a:Pe)(h:a.2.2.2.1.length<=1048576)(c:Int)(n:Nat)(hn:Ps<=n):Xb n a.1 a.2.1 a.2.2.1 a.2.2.2.1 a.2.2.2.2 c=some (a.2.2.2.1.filter λx=>x.1==c):=by
 have hc:=QA (σ:=AAB) (TG a.2.2.2.1 c) (λi s=>(s,(i:Int))) a.2.2.2.1 (λl s=>(s++l.filter λx=>x.1==c,(a.2.2.2.1.length:Int))) (λi s=>s.length<=i)
  (λs hs=>by simp[TG])
  (λi x l s h1 h2 h3 h4 h5=>by
   left;have hx:a.2.2.2.1[i]=x:=by rw[AAI h1]at h2;exact Option.some.inj h2
   have hr:decide (s.length+1<=Dj)=true:=Ru J;cases hq:x.1==c with
   |true=>exact⟨s++[x],by simp[TG,h1,Pk h1,hx,hq,Pj h1 J,hr],ADg,by simp[hq]⟩
   |false=>exact⟨s,by simp[TG,h1,Pk h1,hx,hq,Pj h1 J],J,by simp[hq]⟩)
  n ADd [] (AAc _)
 unfold Xb;grind
theorem dH(a:Pe)(h:a.2.2.2.1.length<=1048576)(c:Int)(n:Nat)(hn:Ps<=n):XP n a.1 a.2.1 a.2.2.1 a.2.2.2.1 a.2.2.2.2 c=some (a.2.2.2.1.filter λx=>x.1==c):=by
 have hc:=QA (σ:=AAB) (TD a.2.2.2.1 c) (λi s=>(s,(i:Int))) a.2.2.2.1 (λl s=>(s++l.filter λx=>x.1==c,(a.2.2.2.1.length:Int))) (λi s=>s.length<=i)
  (λs hs=>by simp[TD])
  (λi x l s h1 h2 h3 h4 h5=>by
   left;have hx:a.2.2.2.1[i]=x:=by rw[AAI h1]at h2;exact Option.some.inj h2
   have hr:decide (s.length+1<=Dj)=true:=Ru J;cases hq:x.1==c with
   |true=>exact⟨s++[x],by simp[TD,h1,Pk h1,hx,hq,Pj h1 J,hr],ADg,by simp[hq]⟩
   |false=>exact⟨s,by simp[TD,h1,Pk h1,hx,hq,Pj h1 J],J,by simp[hq]⟩)
  n ADd [] (AAc _)
 unfold XP;grind
def w8(x:Int):Prop:=IntKind.min .u8<=x/\x<=IntKind.max .u8
theorem ak(x:Int):0<=Oi .i64 x 255/\Oi .i64 x 255<=255:=by
 unfold Oi
 have h:(BitVec.ofInt (IntKind.bits .i64) x &&& BitVec.ofInt (IntKind.bits .i64) 255).toNat<=255:=by
  rw[BitVec.toNat_and];have:(BitVec.ofInt (IntKind.bits .i64) 255).toNat=255:=ADj
  rw[this];exact Nat.and_le_right
 generalize (BitVec.ofInt (IntKind.bits .i64) x &&& BitVec.ofInt (IntKind.bits .i64) 255).toNat=m at h;have:IntKind.wrap .i64 (m:Int)=(m:Int):=Pr J J;omega
theorem bw(b:By)(i h:Int)(hi:0<=i)(hb:b.length<=1048576):∃x i' h':Int,T3 b i h=some (x,b,i',h')/\0<=x/\x<=255/\0<=i':=by
 unfold T3;rw[show decide ((0:Nat)<=33)=true from rfl,show decide ((0:Nat)<=47)=true from rfl];simp only[ABU];by_cases hl:i<(b.length:Int)
 ·obtain⟨j,rfl⟩:∃j:Nat,i=(j:Int):=⟨i.toNat,J⟩;have hj:j<b.length:=J
  rw[show decide ((j:Int)<(b.length:Int))=true by grind,ABU,Pk hj];simp only[ABT];refine⟨_,_,_,rfl,(ak _).1,(ak _).2,?_⟩;rw[Pj hj J];omega
 ·rw[show decide (i<(b.length:Int))=false by grind,ABV];simp only[ABT];exact⟨_,_,_,rfl,(ak _).1,(ak _).2,hi⟩
theorem eN(b:By)(i h:Int)(hi:0<=i)(hb:b.length<=1048576)(n:Int):∃x i' h':Int,P1 b i h n=some (x,b,i',h')/\0<=i'/\0<=x/\(x<n\/n<=0/\x=0):=by
 unfold P1;by_cases h0:n<=0
 ·rw[show decide (n<=0)=true by simpa using h0,ABU];grind
 rw[show decide (n<=0)=false by grind,ABV];have hz:(n==0)=false:=by rw[<-ABw];simp;omega
 rw[hz]
 have fin:∀x:Int,0<=x->0<=Int.tmod x n/\Int.tmod x n<n:=λx hx=>by rw[Int.tmod_eq_emod_of_nonneg hx];exact⟨Int.emod_nonneg _ J,Int.emod_lt_of_pos _ J⟩
 obtain⟨x,i1,h1,e1,x0,x1,j1⟩:=bw b i h hi hb;rw[e1];simp only[ABT,ABV];by_cases h2:n<=256
 ·grind
 rw[show decide (n<=256)=false by grind,ABV];obtain⟨y,i2,h2',e2,y0,y1,j2⟩:=bw b i1 h1 j1 hb;rw[e2];simp only[ABT];obtain⟨z,i3,h3',e3,z0,z1,j3⟩:=bw b i2 h2' j2 hb;rw[e3];simp only[ABT];rw[Pr (n:=x*65536) J J,Pr (n:=y*256) J J,Pr (n:=x*65536+y*256) J J,Pr (n:=x*65536+y*256+z) J J];exact⟨_,_,_,rfl,j3,(fin _ J).1,.inl (fin _ J).2⟩
theorem nL(a:By)(ha:a.length<=1048576)(n:Nat)(hn:Ps<=n):∃h:Int,ZM n a=some (a,0,h):=by
 obtain⟨_,r,e,_⟩:=nJ (α:=Int×Int) (γ:=Int×Int) (Wq a) (Wq a) (λi x=>x.2=(i:Int)) (λ_=>True) a.length (λi x hi hI=>by
  refine⟨rfl,?_⟩;obtain⟨h,k⟩:=x;dsimp only at hI;subst hI;unfold Wq;dsimp only;by_cases hl:i<a.length
  ·rw[show decide ((i:Int)<(a.length:Int))=true by simp;omega,ABU];simp only[ABT];cases decide ((i:Int)<4000)with
   |false=>grind
   |true=>
    rw[ABU,Pk hl];exact .inl ⟨_,rfl,Pj hl J,hl⟩
  ·rw[show decide ((i:Int)<(a.length:Int))=false by simp;omega];exact .inr ⟨_,rfl,trivial⟩) n ADd (Pn (275275+(a.length:Int)),0) rfl
 unfold ZM;rw[e];exact⟨r.1,rfl⟩
theorem l7(a:By)(ha:a.length<=1048576)(m:Int)(hm:0<=m):∃r:Int,YY a m=some r/\0<=r/\r<=m:=by
 unfold YY;have e:Int.tdiv (a.length:Int) 12=((a.length / 12:Nat):Int):=by rw[Int.tdiv_eq_ediv_of_nonneg J];omega
 rw[e,Pr (n:=((a.length / 12:Nat):Int)) J J,Pr (n:=3+((a.length / 12:Nat):Int)) J J];by_cases h:3+((a.length / 12:Nat):Int)>m
 ·rw[show decide (3+((a.length / 12:Nat):Int)>m)=true by simpa using h];grind
 ·rw[show decide (3+((a.length / 12:Nat):Int)>m)=false by simpa using h];grind
theorem gK{β:Type}(f:Int->Option (Int⊕(Int⊕Int)))(xs:List β)(P:β->Bool)(hs:∀(i:Nat)(x:β),i<xs.length->xs[i]?=some x->f (i:Int)=some (bif P x then .inr (.inr (i:Int))else .inl ((i+1:Nat):Int)))
  (he:f (xs.length:Int)=some (.inr (.inl (xs.length:Int)))):∀n,xs.length<n->iter n f 0=some (.inl (xs.length:Int))\/∃i,∃h:i<xs.length,P xs[i]=true/\iter n f 0=some (.inr (i:Int)):=by
 have key:∀d i n,i+d=xs.length->d<n->iter n f (i:Int)=some (.inl (xs.length:Int))\/∃j,∃h:j<xs.length,P xs[j]=true/\iter n f (i:Int)=some (.inr (j:Int)):=by
  intro d
  induction d with
  |zero=>
   intro i n hi hn;obtain⟨n,rfl⟩:∃k,n=k+1:=⟨n-1,J⟩;have:i=xs.length:=J
   subst this;exact .inl (QO he n)
  |succ d ih=>
   intro i n hi hn;obtain⟨n,rfl⟩:∃k,n=k+1:=⟨n-1,J⟩;have zA:i<xs.length:=J
   have hf:=hs i xs[i] zA (AAI zA);cases hp:P xs[i]with
   |true=>rw[hp,ABU]at hf;exact .inr ⟨i,zA,hp,QO hf n⟩
   |false=>rw[hp,ABV]at hf;rw[S4 hf n];exact ih (i+1) n J J
 grind
theorem X2:RN=Rd:=rfl
theorem Zt(a:Pe)(h:bE a):Qd a.1 a.2.1 a.2.2.1 a.2.2.2.1 a.2.2.2.2=some a:=by obtain⟨h1,h2⟩:=h;unfold Qd;simp[VI h1,VI h2]
theorem Vi(a:Pe)(h:bE a):SZ a.1 a.2.1 a.2.2.1 a.2.2.2.1 a.2.2.2.2=some a:=by obtain⟨h1,h2⟩:=h;unfold SZ Qz Xy;simp[VI h1,VI h2]
theorem V9:P7=Pw:=rfl
theorem oV(a b c:Int):Pw a b c=some (decide (b<=a)&&decide (a<=c)):=by unfold Pw;grind
theorem jw(n:Nat)(a:List (Int×Int)):S2 n a=Rc n a:=by
 have h:XG a=Qs a:=by
  funext i;unfold XG Qs;rw[V9];cases decide (i<(a.length:Int))with
  |false=>rfl
  |true=>
   cases hg:JQ a i with
   |none=>simp[hg]
   |some x=>simp[hg]
 unfold S2 Rc;rw[h]
theorem RQ(f:α->Option (α⊕(α⊕Bool)))(st:Nat->α)(m:Nat)(P:Nat->Bool)(hs:∀i,i<m->f (st i)=some (bif P i then .inl (st (i+1))else .inr (.inr false)))(he:f (st m)=some (.inr (.inl (st m)))):
  ∀n,m<n->iter n f (st 0)=some (bif(List.range m).all P then .inl (st m)else .inr false):=by
 have key:∀d i n,i+d=m->d<n->iter n f (st i)=some (bif(List.range' i d).all P then .inl (st m)else .inr false):=by
  intro d
  induction d with
  |zero=>
   intro i n hi hn;obtain⟨n,rfl⟩:∃k,n=k+1:=⟨n-1,J⟩;have:i=m:=J
   subst this;rw[QO he n];rfl
  |succ d ih=>
   intro i n hi hn;obtain⟨n,rfl⟩:∃k,n=k+1:=⟨n-1,J⟩;have hf:=hs i J;rw[List.range'_succ,List.all_cons];cases hp:P i with
   |true=>rw[hp,ABU]at hf;rw[S4 hf n,ih (i+1) n J J];rfl
   |false=>rw[hp,ABV]at hf;rw[QO hf n];rfl
 grind
theorem aj(f:Int->Option (Int⊕Int))(m:Nat)(P:Nat->Bool)(hs:∀i,i<m->f (i:Int)=some (bif P i then .inl ((i+1:Nat):Int)else .inr (i:Int)))(he:f (m:Int)=some (.inr (m:Int))):
  ∀n,m<n->∃j,j<=m/\iter n f 0=some (j:Int)/\(∀i,i<j->P i=true)/\(j<m->P j=false):=by
 have key:∀d i n,i+d=m->d<n->∃j,i<=j/\j<=m/\iter n f (i:Int)=some (j:Int)/\(∀q,i<=q->q<j->P q=true)/\(j<m->P j=false):=by
  intro d
  induction d with
  |zero=>
   intro i n hi hn;obtain⟨n,rfl⟩:∃k,n=k+1:=⟨n-1,J⟩;have:i=m:=J
   subst this;exact⟨i,AAc _,AAc _,QO he n,λq h1 h2=>J,λh=>J⟩
  |succ d ih=>
   intro i n hi hn;obtain⟨n,rfl⟩:∃k,n=k+1:=⟨n-1,J⟩;have hf:=hs i J;cases hp:P i with
   |true=>
    rw[hp,ABU]at hf;obtain⟨j,h1,h2,h3,h4,h5⟩:=ih (i+1) n J J;refine⟨j,J,h2,by rw[S4 hf n];exact h3,λq q1 q2=>?_,h5⟩;by_cases e:q=i
    ·subst e;exact hp
    ·exact h4 q J q2
   |false=>rw[hp,ABV]at hf;exact⟨i,AAc _,J,QO hf n,λq h1 h2=>J,λ_=>hp⟩
 intro n hn;obtain⟨j,_,h2,h3,h4,h5⟩:=key m 0 n J hn;grind
theorem bN{β:Type}{a:List β}{y:β}(h:j<(a.take i).length)(hy:(a.take i)[j]?=some y):j<i/\∃h:j<a.length,a[j]=y:=No
def RJ{β:Type}(key:β->Int)(a:List β)(i:Nat)(x:β):Bool:=match i with
 |0=>true
 |j+1=>match a[j]? with
  |some y => !decide (key y>=key x)
  |none=>true
theorem Yi{β γ:Type}(key:β->Int)(a:List β)(x:β)(i:Nat)(hi:i<a.length)(hl:a.length<=1048576)(F:Bool->Option γ):
  (bif decide ((i:Int)>0)then(JQ a (Pn ((i:Int)-1))).bind (λy=>F (decide (key y>=key x)))else F false)=F (!RJ key a i x):=by
 cases i with
 |zero=>rfl
 |succ j=>
  have hw:Pn (((j+1:Nat):Int)-1)=(j:Int):=by rw[Pr J J];omega
  rw[show decide (((j+1:Nat):Int)>0)=true by grind,ABU,hw,Pk J,ABT];simp only[RJ,AAI (show j<a.length by omega),Bool.not_not]
def Qg(a b c:Int):Bool:=decide (b<=a)&&decide (a<=c)
theorem Q8(a b c:Int):Pw a b c=some (Qg a b c):=oV a b c
def P3(w h:Int)(c:By):Bool:=Qg w 1 10&&Qg h 1 10&&((c.length:Int)==Pn (w*h))&&c.all λk=>Qg k 0 4
theorem QT(w h:Int)(c:By)(hl:c.length<=1048576)(n:Nat)(hn:Ps<=n):Ra n w h c=some (P3 w h c):=by
 have:=Rl (U4 c) c (λk=>Qg k 0 4) (λi x h1 h2=>by
  have hx:c[i]=x:=by rw[AAI h1]at h2;exact Option.some.inj h2
  simp only[U4,Pk h1,hx,ABT,Pj h1 J,Q8];grind) (by simp[U4]) n ADd
 unfold Ra P3;rw[this];simp only[Q8,ABT,bne];cases Qg w 1 10<;>cases Qg h 1 10<;>cases((c.length:Int)==Pn (w*h))<;>cases(c.all λk=>Qg k 0 4)<;>rfl
theorem Yn:S1=Ra:=rfl
def Qy(c:By)(i:Int):Bool:=Qg i 0 ((c.length:Int)-1)&&(c.getD i.toNat 0 != 0)
theorem Zi{i:Int}(h:Qg i 0 ((c.length:Int)-1)=true):∃m:Nat,i=(m:Int)/\m<c.length:=by unfold Qg at h;simp only[AAJ,AAf]at h;exact⟨i.toNat,J,J⟩
theorem fC(w h:Int)(c:By)(hl:c.length<=1048576)(i:Int):W8 w h c i=some (Qy c i):=by
 unfold W8 Qy;rw[show Pn ((c.length:Int)-1)=(c.length:Int)-1 from Pr J J];simp only[Q8,ABT];cases hb:Qg i 0 ((c.length:Int)-1)with
 |false=>rfl
 |true=>
  obtain⟨m,rfl,hm⟩:=Zi hb;simp[Pk hm,hm]
theorem Tp(w h:Int)(c:By)(hl:c.length<=1048576)(hf:P3 w h c=true)(i:Int)(n:Nat)(hn:Ps<=n):∃k,Rh n w h c i=some k/\(k != 0)=Qy c i:=by
 unfold Rh Ts Qy;rw[Yn,QT w h c hl n hn,hf,show Pn ((c.length:Int)-1)=(c.length:Int)-1 from Pr J J];simp only[V9,Q8,ABT];cases hb:Qg i 0 ((c.length:Int)-1)with
 |false=>grind
 |true=>
  obtain⟨m,rfl,hm⟩:=Zi hb;exact⟨c[m],by simp[Pk hm],by simp[hm]⟩
theorem Yr(w h:Int)(c:By)(hl:c.length<=1048576)(hf:P3 w h c=true)(x:Pg)(n:Nat)(hn:Ps<=n):SM n w h c x.1 x.2.1 x.2.2.1 x.2.2.2.1 x.2.2.2.2=some (Qy c x.2.1&&(x.2.2.1 == -1||Qy c x.2.2.1)):=by unfold SM;obtain⟨k1,e1,q1⟩:=Tp w h c hl hf x.2.1 n hn;obtain⟨k2,e2,q2⟩:=Tp w h c hl hf x.2.2.1 n hn;grind
def ny(c:By)(crew:List (Int×Int×Int×Bool×Int))(i:Nat):Bool:=match crew[i]? with
 |none=>false
 |some x=>Qg x.1 1 99&&Qy c x.2.1&&(x.2.2.1 == -1||Qy c x.2.2.1)&&Qg x.2.2.2.2 0 1000000&&RJ (·.1) crew i x&&(crew.take i).all λy => !(y.2.1==x.2.1)
def Tl(w h:Int)(c:By)(crew:List (Int×Int×Int×Bool×Int)):Bool:=P3 w h c&&decide (crew.length<=20)&&(List.range crew.length).all (ny c crew)
theorem ew(crew:List (Int×Int×Int×Bool×Int))(hl:crew.length<=1048576)(i:Nat)(hi:i<crew.length)(x:Int×Int×Int×Bool×Int)(n:Nat)(hn:Ps<=n):
  iter n (Sd crew (i:Int) x) 0=some (bif(crew.take i).all λy => !(y.2.1==x.2.1)then .inl (i:Int)else .inr false):=by
 have hlen:(crew.take i).length=i:=ADg
 have:=Rl (Sd crew (i:Int) x) (crew.take i) (λy => !(y.2.1==x.2.1)) (λj y h1 h2=>by
  obtain⟨hj,hj2,hy⟩:=bN h1 h2;simp only[Sd,Pk hj2,hy,ABT,Pj hj2 J];rw[show decide ((j:Int)<(i:Int))=true by rw[AAf];omega];cases(y.2.1==x.2.1)<;>rfl) (by first|(simp[Sd,hlen];done)|(simp[Sd,hlen];omega)) n ADd
 grind
theorem X9(w h:Int)(c:By)(hc:c.length<=1048576)(crew:List (Int×Int×Int×Bool×Int))(hl:crew.length<=1048576)(n:Nat)(hn:Ps<=n):VQ n w h c crew=some (Tl w h c crew):=by
 have:=RQ (Vu n w h c crew) (λi=>(i:Int)) crew.length (ny c crew) (λi hi=>by
  have hp:(bif decide ((i:Int)>0)then(JQ crew (Pn ((i:Int)-1))).bind (λy=>some (decide (y.1>=crew[i].1)))else some false)=some (!RJ (·.1) crew i crew[i]):=Yi (·.1) crew crew[i] i hi hl some;simp only[Vu,ny,Pk hi,AAI hi,ABT,Q8,fC w h c hc,Pj hi J,hp,ew crew hl i hi crew[i] n hn,bne];grind) (by simp[Vu]) n ADd
 unfold VQ Tl;rw[show((0:Nat):Int)=0 from rfl]at this;rw[this,QT w h c hc n hn];rw[show decide ((crew.length:Int)>20) = !decide (crew.length<=20) by by_cases q:crew.length<=20<;>simp[q]<;>omega];cases P3 w h c<;>cases decide (crew.length<=20)<;>cases(List.range crew.length).all (ny c crew)<;>rfl
theorem eD(crew:List (Int×Int×Int×Bool×Int))(hl:crew.length<=1048576)(i:Nat)(hi:i<crew.length)(x:Int×Int×Int×Bool×Int)(n:Nat)(hn:Ps<=n):
  iter n (To crew (i:Int) x) 0=some (bif(crew.take i).all λy => !(y.2.1==x.2.1)then .inl (i:Int)else .inr false):=by
 have zr:sub crew (Int.toNat (0:Int)) (Int.toNat (i:Int))=crew.take i:=by simp[sub]
 have hlen:(crew.take i).length=i:=ADg
 have:=Rl (To crew (i:Int) x) (crew.take i) (λy => !(y.2.1==x.2.1)) (λj y h1 h2=>by
  obtain⟨hj,hj2,hy⟩:=bN h1 h2;simp only[To,zr,RU,h2,ABT,Pj hj2 J,hlen];rw[show decide ((j:Int)<(i:Int))=true by rw[AAf];omega];cases(y.2.1==x.2.1)<;>rfl) (by simp only[To,zr,hlen];simp) n ADd
 grind
theorem Vc(w h:Int)(c:By)(hc:c.length<=1048576)(crew:List (Int×Int×Int×Bool×Int))(hl:crew.length<=1048576)(n:Nat)(hn:Ps<=n):Tn n w h c crew=some (Tl w h c crew):=by
 unfold Tn Tl;rw[Yn,QT w h c hc n hn];rw[show decide ((crew.length:Int)>20) = !decide (crew.length<=20) by by_cases q:crew.length<=20<;>simp[q]<;>omega];cases hf:P3 w h c with
 |false=>rfl
 |true=>
  have:=RQ (Vb n w h c crew) (λi=>(i:Int)) crew.length (ny c crew) (λi hi=>by
   have hp:∀C:Option Bool,(bif decide ((i:Int)>0)then(JQ crew (Pn ((i:Int)-1))).bind (λy=>bif decide (y.1>=crew[i].1)then some true else C)else C)=bif !RJ (·.1) crew i crew[i]then some true else C:=λC=>Yi (·.1) crew crew[i] i hi hl λb=>bif b then some true else C;have hr:(decide (0<=(0:Int))&&decide ((0:Int)<=(i:Int))&&decide ((i:Int)<=(crew.length:Int)))=true:=ADg
   simp only[Vb,ny,Pk hi,AAI hi,ABT,V9,Q8,Yr w h c hc hf _ n hn,Pj hi J,hp,eD crew hl i hi crew[i] n hn,hr];grind) (by simp[Vb]) n ADd
  rw[show((0:Nat):Int)=0 from rfl]at this;rw[this];cases decide (crew.length<=20)<;>cases(List.range crew.length).all (ny c crew)<;>rfl
def Wv(l:AAB)(i:Nat):Bool:=match l[i]? with
 |none=>false
 |some x=>Qg x.1 1 50&&Qg x.2.1 1 1000&&Qg x.2.2 0 x.2.1&&RJ (·.1) l i x
def RF(l:AAB):Bool:=(List.range l.length).all (Wv l)&&decide (l.length<=8)
abbrev Pt:=Int×Int×AAB
abbrev It:=List Pt
def cz(a:It)(i:Nat):Bool:=match a[i]? with
 |none=>false
 |some x=>Qg x.1 1 999&&Qg x.2.1 0 99&&RF x.2.2&&RJ (·.1) a i x&&(a.take i).all λy => !(y.2.1==x.2.1)
def QP(a:It):Bool:=decide (a.length<=12)&&(List.range a.length).all (cz a)
theorem cU(l:AAB)(hl:l.length<=1048576)(n:Nat)(hn:Ps<=n):Ws n l=some (RF l):=by
 have:=RQ (UU l) (λi=>(i:Int)) l.length (Wv l) (λi hi=>by
  have hp:(bif decide ((i:Int)>0)then(JQ l (Pn ((i:Int)-1))).bind (λy=>some (decide (y.1>=l[i].1)))else some false)=some (!RJ (·.1) l i l[i]):=Yi (·.1) l l[i] i hi hl some;simp only[UU,Wv,Pk hi,AAI hi,ABT,Q8,Pj hi J,hp];rw[show decide ((i:Int)<(l.length:Int))=true by simpa using hi];generalize l[i]=x;generalize RJ (·.1) l i x=b4;cases Qg x.1 1 50<;>cases Qg x.2.1 1 1000<;>cases Qg x.2.2 0 x.2.1<;>cases b4<;>rfl) (by simp[UU]) n ADd
 unfold Ws RF;rw[show((0:Nat):Int)=0 from rfl]at this;rw[this];rw[show decide ((l.length:Int)<=8)=decide (l.length<=8) by rw[ABy];simp;omega];grind
theorem dR(a:It)(hl:a.length<=1048576)(i:Nat)(hi:i<a.length)(x:Pt)(n:Nat)(hn:Ps<=n):
  iter n (R0 a (i:Int) x) 0=some (bif(a.take i).all λy => !(y.2.1==x.2.1)then .inl (i:Int)else .inr false):=by
 have hlen:(a.take i).length=i:=ADg
 have:=Rl (R0 a (i:Int) x) (a.take i) (λy => !(y.2.1==x.2.1)) (λj y h1 h2=>by
  obtain⟨hj,hj2,hy⟩:=bN h1 h2;simp only[R0,Pk hj2,hy,ABT,Pj hj2 J];rw[show decide ((j:Int)<(i:Int))=true by rw[AAf];omega];cases(y.2.1==x.2.1)<;>rfl) (by first|(simp[R0,hlen];done)|(simp[R0,hlen];omega)) n ADd
 grind
theorem Qa(a:It)(hs:P4 a)(n:Nat)(hn:Ps<=n):Q1 n a=some (QP a):=by
 have hl:a.length<=1048576:=hs.1
 have:=RQ (U6 n a) (λi=>(i:Int)) a.length (cz a) (λi hi=>by
  have hp:(bif decide ((i:Int)>0)then(JQ a (Pn ((i:Int)-1))).bind (λy=>some (decide (y.1>=a[i].1)))else some false)=some (!RJ (·.1) a i a[i]):=Yi (·.1) a a[i] i hi hl some;have hst:a[i].2.2.length<=1048576:=hs.2 _ (ABW hi);simp only[U6,cz,Pk hi,AAI hi,ABT,Q8,Pj hi J,hp,cU _ hst n hn,dR a hl i hi a[i] n hn];rw[show decide ((i:Int)<(a.length:Int))=true by simpa using hi];generalize a[i]=x;generalize ((a.take i).all λy => !(y.2.1==x.2.1))=b5;generalize RJ (·.1) a i x=b4;cases Qg x.1 1 999<;>cases Qg x.2.1 0 99<;>cases RF x.2.2<;>cases b4<;>cases b5<;>rfl) (by simp[U6]) n ADd
 unfold Q1 QP;grind
theorem fW(p:Pt)(hl:p.2.2.length<=1048576)(n:Nat)(hn:Ps<=n):ZA n p.1 p.2.1 p.2.2=some (Qg p.1 1 999&&Qg p.2.1 0 99&&RF p.2.2):=by
 have:=RQ (Wb p.2.2) (λi=>(i:Int)) p.2.2.length (Wv p.2.2) (λi hi=>by
  have hp:(bif decide ((i:Int)>0)then(JQ p.2.2 (Pn ((i:Int)-1))).bind (λy=>some (decide (y.1>=p.2.2[i].1)))else some false)=some (!RJ (·.1) p.2.2 i p.2.2[i]):=Yi (·.1) p.2.2 p.2.2[i] i hi hl some;simp only[Wb,Wv,Pk hi,AAI hi,ABT,V9,Q8,Pj hi J,hp];grind) (by simp[Wb]) n ADd
 unfold ZA RF;rw[show((0:Nat):Int)=0 from rfl]at this;rw[this,show decide ((p.2.2.length:Int)>8) = !decide (p.2.2.length<=8) by by_cases q:p.2.2.length<=8<;>simp[q]<;>omega];simp only[V9,Q8,ABT];cases Qg p.1 1 999<;>cases Qg p.2.1 0 99<;>cases decide (p.2.2.length<=8)<;>cases(List.range p.2.2.length).all (Wv p.2.2)<;>rfl
theorem dI(a:It)(hl:a.length<=1048576)(i:Nat)(hi:i<a.length)(x:Pt)(n:Nat)(hn:Ps<=n):
  iter n (TE a (i:Int) x) 0=some (bif(a.take i).all λy => !(y.2.1==x.2.1)then .inl (i:Int)else .inr false):=by
 have zr:sub a (Int.toNat (0:Int)) (Int.toNat (i:Int))=a.take i:=by simp[sub]
 have hlen:(a.take i).length=i:=ADg
 have:=Rl (TE a (i:Int) x) (a.take i) (λy => !(y.2.1==x.2.1)) (λj y h1 h2=>by
  obtain⟨hj,hj2,hy⟩:=bN h1 h2;simp only[TE,zr,RU,h2,ABT,Pj hj2 J,hlen];rw[show decide ((j:Int)<(i:Int))=true by rw[AAf];omega];cases(y.2.1==x.2.1)<;>rfl) (by simp only[TE,zr,hlen];simp) n ADd
 grind
theorem Qq(a:It)(hs:P4 a)(n:Nat)(hn:Ps<=n):RX n a=some (QP a):=by
 have hl:a.length<=1048576:=hs.1
 have:=RQ (Ux n a) (λi=>(i:Int)) a.length (cz a) (λi hi=>by
  have hp:(bif decide ((i:Int)>0)then(JQ a (Pn ((i:Int)-1))).bind (λy=>some (decide (y.1>=a[i].1)))else some false)=some (!RJ (·.1) a i a[i]):=Yi (·.1) a a[i] i hi hl some;have hst:a[i].2.2.length<=1048576:=hs.2 _ (ABW hi);have hr:(decide (0<=(0:Int))&&decide ((0:Int)<=(i:Int))&&decide ((i:Int)<=(a.length:Int)))=true:=ADg
  simp only[Ux,cz,Pk hi,AAI hi,ABT,Pj hi J,hp,fW _ hst n hn,dI a hl i hi a[i] n hn,hr];rw[show decide ((i:Int)<(a.length:Int))=true by simpa using hi];generalize a[i]=x;generalize ((a.take i).all λy => !(y.2.1==x.2.1))=b5;generalize RJ (·.1) a i x=b4;cases Qg x.1 1 999<;>cases Qg x.2.1 0 99<;>cases RF x.2.2<;>cases b4<;>cases b5<;>rfl) (by simp[Ux]) n ADd
 unfold RX QP;rw[show((0:Nat):Int)=0 from rfl]at this;rw[this];rw[show decide ((a.length:Int)<=12)=decide (a.length<=12) by rw[ABy];simp;omega];grind
def Tk(l:AAB)(k:Int):Int:=match l.find? λx=>x.1==k with
 |some x=>x.2.1
 |none=>0
theorem fD{l:AAB}(h:RF l=true):∀(i j:Nat)(hj:j<l.length)(hij:i<j),(l[i]'(by omega)).1<l[j].1:=by
 unfold RF at h;simp only[AAJ,AAW,AAX]at h
 have step:∀j (hj:j+1<l.length),(l[j]'(by omega)).1<l[j+1].1:=by intro j hj;have:=h.1 (j+1) hj;simp only[Wv,AAI hj,AAJ,RJ,AAI (show j<l.length by omega)]at this;have:=this.2;simpa using this
 grind
theorem cV{l:AAB}(h:RF l=true)(k:Int):0<=Tk l k/\Tk l k<=1000:=by
 unfold Tk;cases hf:l.find? λx=>x.1==k with
 |none=>simp
 |some x=>
  have hm:=ABq hf;obtain⟨i,hi,rfl⟩:=AB5 hm;unfold RF at h;simp only[AAJ,AAW,AAX]at h;have:=h.1 i hi;simp only[Wv,AAI hi,AAJ,Qg,AAf]at this;grind
theorem pr{l:AAB}(h:RF l=true)(hj:j<l.length){k:Int}(hk:l[j].1=k):Tk l k=l[j].2.1:=by
 unfold Tk;cases hf:l.find? λx=>x.1==k with
 |none=>
  grind
 |some x=>
  obtain⟨i,hi,rfl⟩:=AB5 (ABq hf);have hki:l[i].1=k:=by have:=ACU hf;simpa using this
  rcases ABg i j with q|q|q
  ·have:=fD h i j hj q;omega
  ·subst q;rfl
  ·have:=fD h j i hi q;omega
theorem my{l:AAB}{k:Int}(h:∀x∈l,x.1≠k):Tk l k=0:=by unfold Tk;grind
def Qf(a:It)(k:Int):Int:=bif QP a then(a.map λp=>Tk p.2.2 k).foldl (· + ·) 0 else 0
theorem iB{a:It}(h:QP a=true):a.length<=12/\∀i (hi:i<a.length),RF a[i].2.2=true:=by unfold QP at h;simp only[AAJ,AAW,AAX,AAf]at h;refine⟨h.1,λi hi=>?_⟩;have:=h.2 i hi;simp only[cz,AAI hi,AAJ]at this;grind
theorem dV(p:Pt)(hl:p.2.2.length<=1048576)(k:Int)(n:Nat)(hn:Ps<=n):∃s,SG n p.1 p.2.1 p.2.2 k=some s/\s.2.1=Tk p.2.2 k:=by
 have hc:=QA (σ:=Unit) (Qt p.2.2 k) (λi _=>((i:Int),(0:Int),(0:Int),(0:Int))) p.2.2 (λl _=>match l.find? (λx=>x.1==k)with|some x=>.inr x|none=>.inl ((p.2.2.length:Int),0,0,0)) (λ_ _=>True)
  (λs hs=>by simp[Qt])
  (λi x l s h1 h2 h3 h4 h5=>by
   have hx:p.2.2[i]=x:=by rw[AAI h1]at h2;exact Option.some.inj h2
   cases hq:(x.1==k)with
   |true=>right;simp[Qt,h1,Pk h1,hx,hq]
   |false=>left;exact⟨(),by simp[Qt,h1,Pk h1,hx,hq,Pj h1 J],trivial,by simp[hq]⟩)
  n ADd () trivial
 unfold SG;rw[show((0:Nat):Int)=0 from rfl]at hc;rw[hc];unfold Tk;cases p.2.2.find? λx=>x.1==k with
 |none=>exact⟨(k,0,0),rfl,rfl⟩
 |some x=>grind
theorem fq(a:It)(hs:P4 a)(k:Int)(n:Nat)(hn:Ps<=n):ZJ n a k=some (Qf a k):=by
 have hl:a.length<=1048576:=hs.1;have hst:=Qa a hs n hn;unfold ZJ Qf;cases hk:QP a with
 |false=>
  obtain⟨m,rfl⟩:∃m,n=m+1:=⟨n-1,ADd⟩
  have:TU (m+1) a k ((0:Int),(0:Int))=some (.inr (0,0)):=by unfold TU;rw[hst,hk];grind
  rw[QO this m];rfl
 |true=>
  obtain⟨h12,hp⟩:=iB hk
  have hc:=QA (σ:=Int) (TU n a k) (λi s=>(s,(i:Int))) a (λl s=>((l.map λp=>Tk p.2.2 k).foldl (· + ·) s,(a.length:Int))) (λi s=>0<=s/\s<=1000*(i:Int)/\i<=12)
   (λs hs=>by simp[TU])
   (λi x l s h1 h2 h3 h4 h5=>by
    left;have hx:a[i]=x:=by rw[AAI h1]at h2;exact Option.some.inj h2
    have hlen:x.2.2.length<=1048576:=by rw[<-hx];exact hs.2 _ (ABW h1)
    obtain⟨q,e,he⟩:=dV x hlen k n hn;have hb:=cV (hx▸hp i h1) k;refine⟨s+Tk x.2.2 k,?_,J,rfl⟩;unfold TU;rw[hst,hk,show decide ((i:Int)<(a.length:Int))=true by simpa using h1];simp only[ABU,ABT,Pk h1,hx,e,he,Pj h1 J];rw[Pr J J])
   n ADd 0 ⟨J,J,J⟩
  grind
theorem dL(p:Pt)(hl:p.2.2.length<=1048576)(hs:RF p.2.2=true)(k:Int)(n:Nat)(hn:Ps<=n):
  ∃(j:Nat) (b:Bool),Qr n p.1 p.2.1 p.2.2 k=some ((j:Int),b)/\(b=true->∃h:j<p.2.2.length,Tk p.2.2 k=p.2.2[j].2.1)/\(b=false->Tk p.2.2 k=0):=by
 obtain⟨j,h1,h2,h3,h4⟩:=aj (Qj p.2.2 k) p.2.2.length (λi=>decide ((p.2.2.getD i (0,0,0)).1<k)) (λi hi=>by
  simp only[Qj,Pk hi,ABT,Pj hi J];grind) (by simp[Qj]) n ADd
 have hlow:∀i (hi:i<p.2.2.length),i<j->p.2.2[i].1<k:=by intro i hi hij;have:=h3 i hij;simpa[hi]using this
 unfold Qr;rw[h2];by_cases hj:j<p.2.2.length
 ·have zu:=h4 hj;have zu:k<=p.2.2[j].1:=by simpa[hj]using zu
  refine⟨j,p.2.2[j].1==k,?_,λhb=>⟨hj,pr hs hj No⟩,λhb=>my λx hx=>?_⟩
  ·simp[hj,Pk hj]
  ·obtain⟨i,hi,rfl⟩:=AB5 hx;have zD:p.2.2[j].1≠k:=AD9
   rcases ABg i j with q|q|q
   ·grind
   ·grind
   ·have:=fD hs j i hi q;omega
 ·refine⟨j,false,?_,λhb=>(by cases hb),λ_=>my λx hx=>?_⟩
  ·grind
  ·obtain⟨i,hi,rfl⟩:=AB5 hx;grind
theorem Ud(a:It)(hs:P4 a)(k:Int)(n:Nat)(hn:Ps<=n):WD n a k=some (Qf a k):=by
 have hl:a.length<=1048576:=hs.1;unfold WD Qf;rw[Qq a hs n hn];cases hk:QP a with
 |false=>rfl
 |true=>
  obtain⟨h12,hp⟩:=iB hk
  have hc:=QA (σ:=Int) (WS n a k) (λi s=>(s,(i:Int))) a (λl s=>((l.map λp=>Tk p.2.2 k).foldl (· + ·) s,(a.length:Int))) (λi s=>0<=s/\s<=1000*(i:Int)/\i<=12)
   (λs hs=>by simp[WS])
   (λi x l s h1 h2 h3 h4 h5=>by
    left;have hx:a[i]=x:=by rw[AAI h1]at h2;exact Option.some.inj h2
    have hlen:x.2.2.length<=1048576:=by rw[<-hx];exact hs.2 _ (ABW h1)
    obtain⟨j,b,e,hb1,hb2⟩:=dL x hlen (hx▸hp i h1) k n hn;have hb:=cV (hx▸hp i h1) k;refine⟨s+Tk x.2.2 k,?_,J,rfl⟩;unfold WS;rw[show decide ((i:Int)<(a.length:Int))=true by simpa using h1];simp only[ABU,ABT,Pk h1,hx,e,Pj h1 J];cases b with
    |false=>simp[hb2 rfl]
    |true=>
     obtain⟨hj,hc⟩:=hb1 rfl;simp only[ABU,Pk hj,ABT,<-hc];rw[Pr J J])
   n ADd 0 ⟨J,J,J⟩
  grind
theorem gC{γ:Type}(f:α->Option (α⊕(α⊕γ)))(st:Nat->α)(m:Nat)(P:Nat->Bool)(r:γ)(hs:∀i,i<m->f (st i)=some (bif P i then .inl (st (i+1))else .inr (.inr r)))(he:f (st m)=some (.inr (.inl (st m)))):
  ∀n,m<n->iter n f (st 0)=some (bif(List.range m).all P then .inl (st m)else .inr r):=by
 have key:∀d i n,i+d=m->d<n->iter n f (st i)=some (bif(List.range' i d).all P then .inl (st m)else .inr r):=by
  intro d
  induction d with
  |zero=>
   intro i n hi hn;obtain⟨n,rfl⟩:∃k,n=k+1:=⟨n-1,J⟩;have:i=m:=J
   subst this;rw[QO he n];rfl
  |succ d ih=>
   intro i n hi hn;obtain⟨n,rfl⟩:∃k,n=k+1:=⟨n-1,J⟩;have hf:=hs i J;rw[List.range'_succ,List.all_cons];cases hp:P i with
   |true=>rw[hp,ABU]at hf;rw[S4 hf n,ih (i+1) n J J];rfl
   |false=>rw[hp,ABV]at hf;rw[QO hf n];rfl
 grind
theorem Zv(w h:Int)(c:By)(hl:c.length<=1048576):W6 w h c=some (w,h,c):=by unfold W6;simp[VI hl]
theorem au(w h:Int)(c:By)(hl:c.length<=1048576):Vh w h c=some (w,h,c):=by unfold Vh TR;simp[VI hl]
theorem P0(a:It)(hs:P4 a)(n:Nat)(hn:Ps<=n):QJ n a=some a:=by
 have hl:a.length<=1048576:=hs.1
 have hc:=QA (σ:=It) (V1 a) (λi s=>((i:Int),s)) a (λl s=>((a.length:Int),s++l)) (λi s=>s.length=i)
  (λs hs=>by simp[V1])
  (λi x l s h1 h2 h3 h4 h5=>by
   left;have hx:a[i]=x:=by rw[AAI h1]at h2;exact Option.some.inj h2
   have hst:x.2.2.length<=1048576:=by rw[<-hx];exact hs.2 _ (ABW h1)
   have hr:decide (s.length+1<=Dj)=true:=Ru J;exact⟨s++[x],by simp[V1,h1,Pk h1,hx,VI hst,hr,Pj h1 J],by simp[h5],OF⟩)
  n ADd [] rfl
 unfold QJ;grind
theorem QL(a:It)(hs:P4 a)(n:Nat)(hn:Ps<=n):QN n a=some a:=by
 have hl:a.length<=1048576:=hs.1
 have hc:=QA (σ:=It) (TX a) (λi s=>((i:Int),s)) a (λl s=>((a.length:Int),s++l)) (λi s=>s.length=i)
  (λs hs=>by simp[TX])
  (λi x l s h1 h2 h3 h4 h5=>by
   left;have hx:a[i]=x:=by rw[AAI h1]at h2;exact Option.some.inj h2
   have hst:x.2.2.length<=1048576:=by rw[<-hx];exact hs.2 _ (ABW h1)
   have hr:decide (s.length+1<=Dj)=true:=Ru J;exact⟨s++[x],by simp[TX,h1,Pk h1,hx,VI hst,hr,Pj h1 J],by simp[h5],OF⟩)
  n ADd [] rfl
 unfold QN;grind
abbrev Dn:=Int×Int×By×(List (Int×Int×AAB))×Int×ADf×(List (Int×Int×Int×Bool×Int))×(List (Int×Int×Int×Int))×By×By×Int
def bT:Dn:=(0,0,[],[],0,[],[],[],[],[],0)
def lP(x:Dn×Bool):Int×Int×By×(List (Int×Int×AAB))×Int×ADf×(List (Int×Int×Int×Bool×Int))×(List (Int×Int×Int×Int))×By×By×Int×Bool:=
 (x.1.1,x.1.2.1,x.1.2.2.1,x.1.2.2.2.1,x.1.2.2.2.2.1,x.1.2.2.2.2.2.1,x.1.2.2.2.2.2.2.1,x.1.2.2.2.2.2.2.2.1,x.1.2.2.2.2.2.2.2.2.1,x.1.2.2.2.2.2.2.2.2.2.1,x.1.2.2.2.2.2.2.2.2.2.2,x.2)
def aW(c:By)(a:It)(i:Nat):Bool:=match a[i]? with
 |some p=>Qg p.2.1 0 ((c.length:Int)-1)&&(c.getD p.2.1.toNat 0==2)
 |none=>false
def Y4(a:It)(i:Nat):Bool:=match a[i]? with
 |some p=>(List.range p.2.2.length).all λk => !decide ((p.2.2.getD k (0,0,0)).2.2>0)
 |none=>false
def Sz(QZ:By):Nat->List (Int×Int×Int×Bool×Int)
 |0=>[]
 |i+1=>Sz QZ i++[(((i+1:Nat):Int),QZ.getD i 0, -1,false,0)]
theorem VF(QZ:By):∀i,(Sz QZ i).length=i
 |0=>rfl
 |i+1=>by simp[Sz,VF QZ i]
def SS(a:It):Nat->By
 |0=>List.replicate 51 0
 |i+1=>(SS a i).set (i+1) (Qf a ((i+1:Nat):Int))
theorem Yd(a:It):∀i,(SS a i).length=51
 |0=>rfl
 |i+1=>by simp[SS,Yd a i]
theorem cK(a:It)(i:Nat)(hi:i<a.length)(hst:a[i].2.2.length<=1048576)(y:Int×Dn)(hy:y.1=(i:Int))(z:Dn)(n:Nat)(hn:Ps<=n):
  iter n (Sf a y) (0,z)=some (bif Y4 a i then .inl ((a[i].2.2.length:Int),z)else .inr (lP (bT,false))):=by
 have:=gC (Sf a y) (λk=>((k:Int),z)) a[i].2.2.length (λk => !decide ((a[i].2.2.getD k (0,0,0)).2.2>0)) (lP (bT,false)) (λk hk=>by
  unfold Sf;rw[hy];simp only[Pk hi,ABT,Pk hk,Pj hk J];rw[show decide ((k:Int)<(a[i].2.2.length:Int))=true by simpa using hk];rw[show a[i].2.2.getD k (0,0,0)=a[i].2.2[k] by simp[hk]];cases decide (a[i].2.2[k].2.2>0)<;>rfl) (by
  unfold Sf;rw[hy];simp[Pk hi]) n ADd
 rw[show((0:Nat):Int)=0 from rfl]at this;rw[this];simp only[Y4,AAI hi]
theorem bG(c:By)(hc:c.length<=1048576)(a:It)(hs:P4 a)(z:Dn)(n:Nat)(hn:Ps<=n):
  iter n (Se n c a) (0,z)=some (bif(List.range a.length).all (λi=>aW c a i&&Y4 a i)then .inl ((a.length:Int),z)else .inr (lP (bT,false))):=by
 have hl:a.length<=1048576:=hs.1
 have:=gC (Se n c a) (λk=>((k:Int),z)) a.length (λi=>aW c a i&&Y4 a i) (lP (bT,false)) (λi hi=>by
  have hst:a[i].2.2.length<=1048576:=hs.2 _ (ABW hi);have yt:=cK a i hi hst ((i:Int),z) rfl z n hn;unfold Se;dsimp only;rw[show decide ((i:Int)<(a.length:Int))=true by simpa using hi];simp only[ABU,Pk hi,ABT,Q8,Pj hi J];rw[show Pn ((c.length:Int)-1)=(c.length:Int)-1 from Pr J J];rw[show((0:Int),z.1,z.2.1,z.2.2.1,z.2.2.2.1,z.2.2.2.2.1,z.2.2.2.2.2.1,z.2.2.2.2.2.2.1,z.2.2.2.2.2.2.2.1,z.2.2.2.2.2.2.2.2.1,z.2.2.2.2.2.2.2.2.2.1,z.2.2.2.2.2.2.2.2.2.2)=((0:Int),z)from rfl,yt];simp only[aW,AAI hi];cases hb:Qg a[i].2.1 0 ((c.length:Int)-1)with
  |false=>rfl
  |true=>
   obtain⟨m,hm,hmlt⟩:=Zi hb;rw[hm];simp only[Pk hmlt,ABT,ABc,ABV];rw[show c.getD (m:Int).toNat 0=c[m] by simp[hmlt]];cases hq:(c[m]==2)with
   |false=>simp only[bne,hq,ABu,ABU];rfl
   |true=>
    simp only[bne,hq,ABc,ABV];cases Y4 a i<;>rfl) (by
  unfold Se;simp) n ADd
 omega
theorem dG(w h:Int)(c:By)(hl:c.length<=1048576)(hf:P3 w h c=true)(i:Int)(n:Nat)(hn:Ps<=n):Rh n w h c i=some (bif Qg i 0 ((c.length:Int)-1)then c.getD i.toNat 0 else 0):=by
 unfold Rh Ts;rw[Yn,QT w h c hl n hn,hf,show Pn ((c.length:Int)-1)=(c.length:Int)-1 from Pr J J];simp only[V9,Q8,ABT];cases hb:Qg i 0 ((c.length:Int)-1)with
 |false=>rfl
 |true=>
  obtain⟨m,rfl,hm⟩:=Zi hb;simp[Pk hm,hm]
theorem aA(a:It)(hs:P4 a)(f0 f1:Int)(c:By)(p:It)(bn:Int)(os:ADf)(cr:List (Int×Int×Int×Bool×Int))(ts:List (Int×Int×Int×Int))(ou:By)(tk:Int)(n:Nat)(hn:Ps<=n):
  iter n (Sg n a) (1,f0,f1,c,p,bn,os,cr,ts,List.replicate 51 0,ou,tk)=some (51,f0,f1,c,p,bn,os,cr,ts,SS a 50,ou,tk):=by
 have:=P8 (γ:=Int×Dn) (Sg n a) (λi=>(((i+1:Nat):Int),f0,f1,c,p,bn,os,cr,ts,SS a i,ou,tk)) 50 (51,f0,f1,c,p,bn,os,cr,ts,SS a 50,ou,tk) (λi hi=>by
  unfold Sg;dsimp only;have yt:O3 (SS a i) (((i+1:Nat):Int))=true:=Po (by rw[Yd];omega);rw[show decide (((i+1:Nat):Int)<=50)=true by grind,ABU,fq a hs _ n hn,ABT,yt,ABU,show Pn (((i+1:Nat):Int)+1)=((i+1+1:Nat):Int) by rw[Pr J J];omega];rw[show Int.toNat ((i+1:Nat):Int)=i+1 by omega,QX];rfl) (by unfold Sg;simp) n ADd
 exact this
theorem af(QZ:By)(hd:QZ.length<=1048576)(f0 f1:Int)(c:By)(p:It)(bn:Int)(os:ADf)(ts:List (Int×Int×Int×Int))(sr ou:By)(tk:Int)(n:Nat)(hn:Ps<=n):
  iter n (Sh QZ) (0,f0,f1,c,p,bn,os,[],ts,sr,ou,tk)=some (((min QZ.length 20:Nat):Int),f0,f1,c,p,bn,os,Sz QZ (min QZ.length 20),ts,sr,ou,tk):=by
 have:=P8 (γ:=Int×Dn) (Sh QZ) (λi=>((i:Int),f0,f1,c,p,bn,os,Sz QZ i,ts,sr,ou,tk)) (min QZ.length 20) (((min QZ.length 20:Nat):Int),f0,f1,c,p,bn,os,Sz QZ (min QZ.length 20),ts,sr,ou,tk) (λi hi=>by
  unfold Sh;dsimp only;have zA:i<QZ.length:=J
  have hr:decide ((Sz QZ i).length+1<=Dj)=true:=Ru (by rw[VF];omega);have hgo:QZ[Int.toNat (i:Int)]?=some QZ[i]:=by simp[zA]
  rw[show decide ((i:Int)<(QZ.length:Int))=true by rw[AAf];omega,show decide ((i:Int)<20)=true by rw[AAf];omega];simp only[ABU,ABT,Po zA,hgo,ABb,hr,Pj zA J];simp only[Sz];grind) (by
  unfold Sh;grind) n ADd
 exact this
def VU(l:AAB):Prop:=l.Pairwise (λa b=>a.1<b.1)/\(∀x∈l,1<=x.1/\x.1<=50/\1<=x.2.1/\x.2.1<=1000/\0<=x.2.2/\x.2.2<=x.2.1)/\l.length<=8
def Py(a:It):Prop:=a.length<=12/\a.Pairwise (λx y=>x.1<y.1/\x.2.1≠y.2.1)/\∀p∈a,(1<=p.1/\p.1<=999)/\(0<=p.2.1/\p.2.1<=99)/\VU p.2.2
theorem Zq{β:Type}{key:β->Int}{a:List β}{R:β->β->Prop}(h:a.Pairwise R)(hR:∀x y,R x y->key x<key y)(i:Nat)(hi:i<a.length):RJ key a i a[i]=true:=by
 cases i with
 |zero=>rfl
 |succ j=>
  have:=hR _ _ (ABR.1 h j (j+1) J hi J);simp only[RJ,AAI (show j<a.length by omega)];grind
theorem VU.ok{l:AAB}(h:VU l):RF l=true:=by obtain⟨h1,h2,h3⟩:=h;unfold RF;simp only[AAJ,AAW,AAX,AAf];refine⟨λi hi=>?_,h3⟩;obtain⟨a1,a2,a3,a4,a5,a6⟩:=h2 _ (ABW hi);simp only[Wv,AAI hi,Zq h1 (λx y h=>h) i hi,Qg,AAJ,AAf];grind
theorem Py.ok{a:It}(h:Py a):QP a=true:=by
 obtain⟨h1,h2,h3⟩:=h;unfold QP;simp only[AAJ,AAW,AAX,AAf];refine⟨h1,λi hi=>?_⟩;obtain⟨⟨a1,a2⟩,⟨a3,a4⟩,a5⟩:=h3 _ (ABW hi);have hp:=Zq (key:=(·.1)) h2 (λx y h=>h.1) i hi
 have hh:((a.take i).all λy => !(y.2.1==a[i].2.1))=true:=AAW.2 λy hy=>by
  obtain⟨j,hj,rfl⟩:=AB5 hy;have hj':j<i:=by rw[AB8]at hj;omega
  have:=(ABR.1 h2 j i J hi hj').2;rw[ACZ];simpa using this
 simp only[cz,AAI hi,hp,hh,a5.ok,Qg,AAJ,AAf];grind
theorem Py.sm{a:It}(h:Py a):P4 a:=⟨by have:=h.1;omega,λy hy=>by show y.2.2.length<=_;have:=(h.2.2 y hy).2.2.2.2;omega⟩
def Px(l:AAB)(k:Int):Ph:=match l.find? (λx=>x.1==k)with
 |some x=>x
 |none=>(k,0,0)
theorem ct(p:Pt)(hl:p.2.2.length<=1048576)(k:Int)(n:Nat)(hn:Ps<=n):SG n p.1 p.2.1 p.2.2 k=some (Px p.2.2 k):=by
 unfold Px
 have hc:=QA (σ:=Unit) (Qt p.2.2 k) (λi _=>((i:Int),(0:Int),(0:Int),(0:Int))) p.2.2 (λl _=>match l.find? (λx=>x.1==k)with|some x=>.inr x|none=>.inl ((p.2.2.length:Int),0,0,0)) (λ_ _=>True)
  (λs hs=>by simp[Qt])
  (λi x l s h1 h2 h3 h4 h5=>by
   have hx:p.2.2[i]=x:=by rw[AAI h1]at h2;exact Option.some.inj h2
   cases hq:(x.1==k)with
   |true=>right;simp[Qt,h1,Pk h1,hx,hq]
   |false=>left;exact⟨(),by simp[Qt,h1,Pk h1,hx,hq,Pj h1 J],trivial,by simp[hq]⟩)
  n ADd () trivial
 unfold SG;grind
def fj(x:Ph)(l:AAB):AAB:=l.map λy=>bif y.1==x.1 then x else y
theorem l9(l:AAB)(h:VU l)(x:Ph)(hx:∃z∈l,z.1=x.1)(h0:(x.2.1==0)=false)(n:Nat)(hn:Ps<=n):VS n l x.1 x.2.1 x.2.2=some (fj x l):=by
 obtain⟨x0,x1,x2⟩:=x;dsimp only at h0 hx ⊢;have h8:=h.2.2
 have hc:=QA (σ:=AAB×Bool) (Rp l x0 x1 x2) (λi s=>(s.1,s.2,(i:Int))) l (λr s=>(s.1++fj (x0,x1,x2) r,s.2||r.any (λz=>z.1==x0),(l.length:Int)))
  (λi s=>s.1.length<=i/\((s.2=false/\∃z∈l.drop i,z.1=x0)\/(s.2=true/\∀z∈l.drop i,z.1≠x0)))
  (λs hs=>by simp[Rp,fj])
  (λi y r s h1 h2 h3 h4 h5=>by
   left;have hy:l[i]=y:=by rw[AAI h1]at h2;exact Option.some.inj h2
   obtain⟨hlen,hs⟩:=h5;obtain⟨out,put⟩:=s;dsimp only at hlen hs ⊢;rw[h3]at hs;have hpw:(y::r).Pairwise (λa b=>a.1<b.1):=h3▸h.1.drop;have hyr:=(ABl.1 hpw).1;unfold Rp;dsimp only;rw[show decide ((i:Int)<(l.length:Int))=true by simpa using h1,ABU,Pk h1,hy,Pj h1 J];simp only[ABT];have r1:∀(o:AAB)(w:Ph),o.length<=i+1->decide (o.length+[w].length<=Dj)=true:=λo w ho=>Ru J;rcases hs with⟨rfl,z,hz,hzx⟩|⟨rfl,hs⟩
   ·simp only[ABu,ABU,ABT];by_cases he:y.1=x0
    ·rw[show decide (y.1>=x0)=true by simp;omega,ABU,r1 out _ J,ABU,ABT];rw[show(y.1 != x0)=false by simp[he],ABV,ABT];refine⟨(out++[(x0,x1,x2)],true),rfl,⟨by show(out++[_]).length<=i+1;rw[AAz,ABb];omega,.inr ⟨rfl,λw hw=>?_⟩⟩,?_⟩
     ·have:=hyr w (by rwa[h4]at hw);omega
     ·have:∀w∈r,(w.1==x0)=false:=λw hw=>by have:=hyr w hw;rw[<-ABw];simp;omega
      have e1:fj (x0,x1,x2) r=r:=by unfold fj;rw[AB4 (g:=id) λw hw=>by dsimp only;rw[this w hw];rfl];simp
      simp only[fj,ABK,he,ABi,ABU,List.any_cons,Bool.true_or,Bool.or_true,ABo,ACB]
    ·have hzr:z∈r:=by
      rcases AAd.1 hz with e|e
      ·subst e;exact absurd hzx he
      ·exact e
     have zA:=hyr z hzr;rw[show decide (y.1>=x0)=false by simp;omega,ABV,ABT];rw[show(y.1 != x0)=true by simpa using he,ABU,r1 out _ J,ABU,ABT];refine⟨(out++[y],false),rfl,⟨by show(out++[_]).length<=i+1;rw[AAz,ABb];omega,.inl ⟨rfl,z,by rw[h4];exact hzr,hzx⟩⟩,?_⟩;have hb:(y.1==x0)=false:=AD1
     simp only[fj,ABK,hb,ABV,List.any_cons,Bool.false_or,ABo,ACB]
   ·simp only[ABc,ABV,ABT];have he:y.1≠x0:=hs y AAg;rw[show(y.1 != x0)=true by simpa using he,ABU,r1 out _ J,ABU,ABT];refine⟨(out++[y],true),rfl,⟨by show(out++[_]).length<=i+1;rw[AAz,ABb];omega,.inr ⟨rfl,λw hw=>hs w (AAM _ (by rwa[h4]at hw))⟩⟩,?_⟩;have hb:(y.1==x0)=false:=AD1
    simp only[fj,ABK,hb,ABV,Bool.true_or,ABo,ACB])
  n ADd (([]:AAB),false) ⟨OF,.inl ⟨rfl,by simpa using hx⟩⟩
 unfold VS;grind
section
variable {α β γ δ:Type}
theorem Zj{f:α->Option (α⊕γ)}{g:β->Option (β⊕δ)}(R:α->β->Prop)(S:γ->δ->Prop)(μ:α->Nat)
  (h:∀x y,R x y->(∃z w,f x=some (.inr z)/\g y=some (.inr w)/\S z w)\/(∃x' y',f x=some (.inl x')/\g y=some (.inl y')/\R x' y'/\μ x'<μ x)):
  ∀n x y,R x y->μ x<n->∃z w,S z w/\iter n f x=some z/\iter n g y=some w:=by
 intro n
 induction n with
 |zero=>omega
 |succ n ih=>
  intro x y hR hn;rcases h x y hR with⟨z,w,h1,h2,h3⟩|⟨x',y',h1,h2,h3,h4⟩
  ·exact⟨z,w,h3,QO h1 n,QO h2 n⟩
  ·obtain⟨z,w,h5,h6,h7⟩:=ih x' y' h3 J;exact⟨z,w,h5,(S4 h1 n).trans h6,(S4 h2 n).trans h7⟩
theorem gR{f:α->Option (α⊕γ)}{g:β->Option (β⊕δ)}(R:α->β->Prop)(S:γ->δ->Prop)(μ:α->Nat)
  (h:∀x y,R x y->(∃z w,f x=some (.inr z)/\g y=some (.inr w)/\S z w)\/(∃x' y',f x=some (.inl x')/\g y=some (.inl y')/\R x' y'/\μ x'<μ x)):
  ∀n n' x y,R x y->μ x<n->μ x<n'->∃z w,S z w/\iter n f x=some z/\iter n' g y=some w:=by
 intro n
 induction n with
 |zero=>omega
 |succ n ih=>
  intro n' x y hR hn hn';obtain⟨n',rfl⟩:∃k,n'=k+1:=⟨n'-1,J⟩;rcases h x y hR with⟨z,w,h1,h2,h3⟩|⟨x',y',h1,h2,h3,h4⟩
  ·exact⟨z,w,h3,QO h1 n,QO h2 n'⟩
  ·obtain⟨z,w,h5,h6,h7⟩:=ih n' x' y' h3 J J;exact⟨z,w,h5,(S4 h1 n).trans h6,(S4 h2 n').trans h7⟩
theorem Ys{f:α->Option (α⊕γ)}(R:α->Prop)(S:γ->Prop)(μ:α->Nat)
  (h:∀x,R x->(∃z,f x=some (.inr z)/\S z)\/(∃x',f x=some (.inl x')/\R x'/\μ x'<μ x)):
  ∀n x,R x->μ x<n->∃z,S z/\iter n f x=some z:=by
 intro n
 induction n with
 |zero=>omega
 |succ n ih=>
  intro x hR hn;rcases h x hR with⟨z,h1,h3⟩|⟨x',h1,h3,h4⟩
  ·exact⟨z,h3,QO h1 n⟩
  ·obtain⟨z,h5,h6⟩:=ih x' h3 J;exact⟨z,h5,(S4 h1 n).trans h6⟩
end
section
variable {α:Type}{l:List α}{k:Nat}{y z:α}
def hole(l:List α)(k:Nat)(z:α):List α:=l.take k++z::l.drop k
theorem TB(h:k<=l.length):(hole l k z).length=l.length+1:=by simp[hole];omega
theorem dc(h:l[k]?=some y):(hole l (k+1) z)[k]?=some y:=by obtain⟨hk,e⟩:=AAK.1 h;unfold hole;grind
theorem eA(h:l[k]?=some y):(hole l (k+1) z).set (k+1) y=hole l k y:=by obtain⟨hk,e⟩:=AAK.1 h;unfold hole;rw[ACI _ _ ADg];rw[show k+1-(l.take (k+1)).length=0 by simp;omega,ACY,ABe hk,e,ABo,ABh hk,e];rfl
theorem bX(h:k<=l.length)(x:α):(hole l k z).set k x=hole l k x:=by
 unfold hole;rw[ACI _ _ ADg,show k-(l.take k).length=0 by simp;omega,ACY]
theorem gO(x:α):(hole l k x).Perm (x::l):=by unfold hole;have:=List.perm_middle (a:=x) (l₁:=l.take k) (l₂:=l.drop k);rwa[ABz]at this
theorem cq{R:α->α->Prop}(htr:∀a b c,R a b->R b c->R a c)(hl:l.Pairwise R)(hk:k<=l.length){x:α}(h1:∀y∈l.drop k,R x y)(h2:∀y,l[k-1]?=some y->0<k->R y x):(hole l k x).Pairwise R:=by
 have hl2:=hl;rw[<-ABz k l,ABp]at hl2;obtain⟨p1,p2,p3⟩:=hl2;unfold hole;rw[ABp]
 have hx:∀a∈l.take k,R a x:=by
  intro a ha;obtain⟨j,hj,e⟩:=ABY.1 ha;have hj2:j<k/\j<l.length:=by simp at hj;omega
  have e2:l[j]=a:=by rw[<-e];simp
  have hk1:k-1<l.length:=J
  have hlast:=h2 l[k-1] (AAI hk1) J;by_cases hjk:j=k-1
  ·subst hjk;rw[<-e2];exact hlast
  ·have:=ABR.1 hl j (k-1) hj2.2 hk1 J;rw[<-e2];exact htr _ _ _ this hlast
 refine⟨p1,ABl.2 ⟨h1,p2⟩,λa ha b hb=>?_⟩;grind
end
theorem ij(L:Int×By->Option ((Int×By)⊕(Int×By)))(lt:Int->Bool)(l:By)
  (hgo:∀k y z,l[k]?=some y->lt y=true->L (((k+1:Nat):Int),hole l (k+1) z)=some (.inl ((k:Int),hole l k y)))
  (hstop:∀k y z,l[k]?=some y->lt y=false->L (((k+1:Nat):Int),hole l (k+1) z)=some (.inr (((k+1:Nat):Int),hole l (k+1) z)))
  (hend:∀z,L (0,hole l 0 z)=some (.inr (0,hole l 0 z))) (n:Nat) (hn:l.length<n) (x:Int):
  ∃(k:Nat) (z:Int),iter n L ((l.length:Int),l++[x])=some ((k:Int),hole l k z)/\k<=l.length/\(∀y∈l.drop k,lt y=true)/\(∀y,l[k-1]?=some y->0<k->lt y=false):=by
 have:=Ys (f:=L) (λs=>∃(k:Nat) (z:Int),s=((k:Int),hole l k z)/\k<=l.length/\∀y∈l.drop k,lt y=true)
  (λs=>∃(k:Nat) (z:Int),s=((k:Int),hole l k z)/\k<=l.length/\(∀y∈l.drop k,lt y=true)/\(∀y,l[k-1]?=some y->0<k->lt y=false)) (λs=>s.1.toNat) (λs hs=>by
   obtain⟨k,z,rfl,hk,hd⟩:=hs;cases k with
   |zero=>exact .inl ⟨_,hend z,0,z,rfl,hk,hd,λ_ _ h=>absurd h OF⟩
   |succ k=>
    have hk':k<l.length:=J
    have hg:l[k]?=some l[k]:=AAI hk';cases zA:lt l[k]with
    |true=>
     refine .inr ⟨_,hgo k l[k] z hg zA,⟨k,l[k],rfl,J,λy hy=>?_⟩,OF⟩;rw[ABh hk']at hy;rcases AAd.1 hy with rfl|hy
     ·exact zA
     ·exact hd y hy
    |false=>
     refine .inl ⟨_,hstop k l[k] z hg zA,k+1,z,rfl,hk,hd,λy hy _=>?_⟩;rw[Nat.add_sub_cancel,hg]at hy;injection hy with hy
     subst hy;exact zA) n ((l.length:Int),l++[x]) ⟨l.length,x,by simp[hole],AAc _,OF⟩ (by simpa using hn)
 grind
structure Ord(lt:Int->Int->Bool)(xs:By):Prop where
 wi:∀x,lt x x=false
 tr:∀x y z,lt x y=true->lt y z=true->lt x z=true
 Tf:∀x∈xs,∀y∈xs,x≠y->lt x y=true\/lt y x=true
theorem ae{lt:Int->Int->Bool}{xs a b:By}(ho:Ord lt xs)(ha:a.Pairwise λx y=>lt x y=true)(hb:b.Pairwise λx y=>lt x y=true)(pa:a.Perm xs)(pb:b.Perm xs):a=b:=
 List.Perm.eq_of_pairwise (le:=λx y=>lt x y=true) (λx y _ _ h1 h2=>by
  have:=ho.tr x y x h1 h2;rw[ho.wi]at this;cases this) ha hb (pa.trans pb.symm)
theorem eM(L:By×Int->Option ((By×Int)⊕(By×Int)))(lt:Int->Int->Bool)(xs:By)(hnd:xs.Nodup)(ho:Ord lt xs)
  (hstep:∀(i:Nat)(x:Int)(l:By),xs[i]?=some x->l.length=i->l.length<xs.length->(∀y∈l,y∈xs)->∃k≤l.length,L (l,(i:Int))=some (.inl (hole l k x,((i+1:Nat):Int)))/\(∀y∈l.drop k,lt x y=true)/\(∀y,l[k-1]?=some y->0<k->lt x y=false))
  (hend:∀l,L (l,(xs.length:Int))=some (.inr (l,(xs.length:Int)))) (n:Nat) (hn:xs.length<n):
  ∃l,iter n L ([],0)=some (l,(xs.length:Int))/\l.Perm xs/\l.Pairwise λx y=>lt x y=true:=by
 have:=Ys (f:=L) (λs=>∃(i:Nat),s.2=(i:Int)/\i<=xs.length/\s.1.Perm (xs.take i)/\s.1.Pairwise λx y=>lt x y=true)
  (λs=>s.2=(xs.length:Int)/\s.1.Perm xs/\s.1.Pairwise λx y=>lt x y=true) (λs=>xs.length-s.2.toNat) (λs hs=>by
   obtain⟨i,h1,h2,h3,h4⟩:=hs;obtain⟨l,j⟩:=s;dsimp only at h1 h3 h4;subst h1;by_cases hi:i=xs.length
   ·subst hi;rw[List.take_length]at h3;exact .inl ⟨_,hend l,rfl,h3,h4⟩
   ·have hi':i<xs.length:=J
    have hx:xs[i]?=some xs[i]:=AAI hi';have hlen:l.length=i:=by rw[h3.length_eq];simp;omega
    have hmem:∀y∈l,y∈xs:=λy hy=>ACT (h3.mem_iff.1 hy);obtain⟨k,hk,e,q1,q2⟩:=hstep i xs[i] l hx hlen J hmem
    have hnx:xs[i]∉xs.take i:=λhm=>by
     obtain⟨j,hj,e⟩:=ABY.1 hm;have hj2:j<i:=by simp at hj;omega
     have:=ABR.1 hnd j i J hi' hj2;exact this (by rw[<-e];simp)
    refine .inr ⟨_,e,⟨i+1,rfl,J,?_,?_⟩,by show xs.length-((i+1:Nat):Int).toNat<xs.length-(i:Int).toNat;omega⟩
    ·rw[ABe hi'];exact(gO _).trans ((h3.cons _).trans (List.perm_append_singleton _ _).symm)
    ·refine cq (R:=λx y=>lt x y=true) (λa b c=>ho.tr a b c) h4 hk q1 λy hy hk0=>?_;have hm:y∈l:=AAN hy;have zD:y≠xs[i]:=λe=>hnx (e▸h3.mem_iff.1 hm);rcases ho.Tf y (hmem y hm) xs[i] (ABW hi') zD with h|h
     ·exact h
     ·have:=q2 y hy hk0;rw[h]at this;cases this) n ([],0) ⟨0,rfl,J,OF,List.Pairwise.nil⟩ (by simpa using hn)
 grind
section
open Go.Sort
theorem dZ(l:By)(k:Nat)(x:Int)(h:l[k]?=some x):l.toArray[k]! = x:=No
theorem oH{l r:By}{k:Nat}{x:Int}(hk:k<l.length):swp (hole l (k+1) x++r).toArray (k+1) k=(hole l k x++r).toArray:=by
 have hg:=AAI hk;have e1:(hole l (k+1) x++r).toArray[k]! = l[k]:=dZ _ _ _ (by rw[ABA (by rw[TB J];omega),dc hg])
 have e2:(hole l (k+1) x++r).toArray[k+1]! = x:=dZ _ _ _ (by
  rw[ABA (by rw[TB J];omega)];unfold hole;grind)
 unfold swp;rw[e1,e2,List.setIfInBounds_toArray,List.setIfInBounds_toArray];rw[List.set_append_left _ _ (by rw[TB J];omega),eA hg,List.set_append_left _ _ (by rw[TB J];omega),bX J]
theorem eK(lt:Int->Int->Bool)(l r:By)(x:Int):∀k,k<=l.length->(∀y∈l.drop k,lt x y=true)->
  ∃k'≤l.length,insInner lt 0 k (hole l k x++r).toArray=(hole l k' x++r).toArray/\(∀y∈l.drop k',lt x y=true)/\(∀y,l[k'-1]?=some y->0<k'->lt x y=false)
 |0,h,hd=>⟨0,h,rfl,hd,λ_ _ h=>absurd h J⟩
 |k+1,h,hd=>by
  have hk:k<l.length:=J
  have hg:=AAI hk;have e1:(hole l (k+1) x++r).toArray[k]! = l[k]:=dZ _ _ _ (by rw[ABA (by rw[TB J];omega),dc hg])
  have e2:(hole l (k+1) x++r).toArray[k+1]! = x:=dZ _ _ _ (by
   rw[ABA (by rw[TB J];omega)];unfold hole;grind)
  unfold insInner;rw[e1,e2];cases zA:lt x l[k]with
  |false=>
   grind
  |true=>
   rw[AAP OF,oH hk];refine eK lt l r x k J λy hy=>?_;rw[ABh hk]at hy;grind
theorem cy(lt:Int->Int->Bool)(xs:By)(hnd:xs.Nodup)(ho:Ord lt xs):∀d i l,i+d=xs.length->l.Perm (xs.take i)->(l.Pairwise λx y=>lt x y=true)->
  ∃m:By,insOuter lt 0 xs.length i (l++xs.drop i).toArray=m.toArray/\m.Perm xs/\m.Pairwise λx y=>lt x y=true
 |0,i,l,h,hp,hs=>by
  have:i=xs.length:=J
  subst this;rw[insOuter,AAQ J,List.drop_length,ABn];grind
 |d+1,i,l,h,h3,h4=>by
  have hi':i<xs.length:=J
  have hlen:l.length=i:=by rw[h3.length_eq];simp;omega
  have hmem:∀y∈l,y∈xs:=λy hy=>ACT (h3.mem_iff.1 hy);rw[insOuter,AAP hi',ABh hi'];obtain⟨k,hk,e,q1,q2⟩:=eK lt l (xs.drop (i+1)) xs[i] l.length (AAc _) OF;rw[show hole l l.length xs[i]++xs.drop (i+1)=l++xs[i]::xs.drop (i+1) by simp[hole],hlen]at e;rw[e]
  have hnx:xs[i]∉xs.take i:=λhm=>by
   obtain⟨j,hj,e⟩:=ABY.1 hm;have hj2:j<i:=by simp at hj;omega
   have:=ABR.1 hnd j i J hi' hj2;grind
  refine cy lt xs hnd ho d (i+1) _ J ?_ ?_
  ·rw[ABe hi'];exact(gO _).trans ((h3.cons _).trans (List.perm_append_singleton _ _).symm)
  ·refine cq (R:=λx y=>lt x y=true) (λa b c=>ho.tr a b c) h4 hk q1 λy hy hk0=>?_;have hm:y∈l:=AAN hy;have zD:y≠xs[i]:=λe=>hnx (e▸h3.mem_iff.1 hm);rcases ho.Tf y (hmem y hm) xs[i] (ABW hi') zD with h|h
   all_goals grind
end
theorem oD{lt:Int->Int->Option Bool}{xs:By}(hx:∀x∈xs,∀y∈xs,(lt x y).isSome=true)(h20:xs.length<=20)(hnd:xs.Nodup)(ho:Ord (Ou lt) xs):
  ∃l,M5 lt xs=some l/\l.Perm xs/\l.Pairwise λx y=>Ou lt x y=true:=by
 unfold M5;by_cases h1:xs.length<=1
 ·rw[ABZ h1];refine⟨xs,rfl,.refl _,?_⟩
  match xs,h1 with
  | [],_=>exact .nil
  | [x],_=>simp
 ·rw[ABd h1,ABZ h20]
  have zq:(xs.all λx=>xs.all λy=>(lt x y).isSome)=true:=by rw[AAW];intro x hx';rw[AAW];intro y hy';exact hx x hx' y hy'
  rw[zq]
  match xs,h1,hnd,ho with
  |x::r,h1,hnd,ho=>
   obtain⟨m,e,p,q⟩:=cy (Ou lt) (x::r) hnd ho r.length 1 [x] ADg OF OF;refine⟨m,?_,p,q⟩;show some (Go.Sort.insertionSort (Ou lt) (x::r).toArray 0 (x::r).length).toList=some m;unfold Go.Sort.insertionSort;grind
theorem Zc(L:By×Int->Option ((By×Int)⊕(By×Int)))(xs:By)(P:Int->Bool)
  (hstep:∀(i:Nat)(x:Int)(out:By),xs[i]?=some x->i<xs.length->out.length<=i->L (out,(i:Int))=some (.inl ((bif P x then out++[x]else out),((i+1:Nat):Int))))
  (hend:∀out,L (out,(xs.length:Int))=some (.inr (out,(xs.length:Int)))) (n:Nat) (hn:xs.length<n):iter n L ([],0)=some (xs.filter P,(xs.length:Int)):=by
 obtain⟨z,h1,h2⟩:=Ys (f:=L) (λs=>∃i≤xs.length,s=((xs.take i).filter P,(i:Int))) (λs=>s=(xs.filter P,(xs.length:Int))) (λs=>xs.length-s.2.toNat) (λs hs=>by
  obtain⟨i,hi,rfl⟩:=hs;by_cases hi2:i=xs.length
  ·grind
  ·have hi':i<xs.length:=J
   have hx:xs[i]?=some xs[i]:=AAI hi';have hlen:((xs.take i).filter P).length<=i:=AAv (ABs _ _) ADg;refine .inr ⟨_,hstep i _ _ hx hi' hlen,⟨i+1,J,?_⟩,by show xs.length-((i+1:Nat):Int).toNat<xs.length-(i:Int).toNat;omega⟩;rw[ABe hi',AB1];grind) n ([],0) ⟨0,J,OF⟩ J
 rw[h2,h1]
def RA(w h i:Int):By:=(bif decide (i.tdiv w>0)then [i-w]else [])++(bif decide (i.tmod w>0)then [i-1]else [])++(bif decide (i.tmod w<w-1)then [i+1]else [])++(bif decide (i.tdiv w<h-1)then [i+w]else [])
structure Cell(w h i:Int):Prop where
 w1:1<=w
 w2:w<=10
 h1:1<=h
 h2:h<=10
 i1:0<=i
 i2:i<w*h
theorem oN{w:Int}(h1:1<=w)(h2:w<=10)(h3:1<=h)(h4:h<=10):w*h<=100:=by have:=Int.mul_le_mul h2 h4 J (by omega:(0:Int)<=10);omega
theorem iW{w i:Int}(c:Cell w h i):∃q r,i=w*q+r/\0<=r/\r<w/\0<=q/\q<=h-1/\i.tdiv w=q/\i.tmod w=r/\0<=w*q/\w*q+w<=w*h:=by obtain⟨w1,w2,h1,h2,i1,i2⟩:=c;have e1:i.tdiv w=i / w:=Int.tdiv_eq_ediv_of_nonneg i1;have e2:i.tmod w=i%w:=Int.tmod_eq_emod_of_nonneg i1;have e3:=Int.mul_ediv_add_emod i w;have r1:=Int.emod_nonneg i (show w≠0 by omega);have r2:=Int.emod_lt_of_pos i (show 0<w by omega);have q1:0<=i / w:=Int.ediv_nonneg i1 J;have q2:i / w<h:=Int.ediv_lt_of_lt_mul J (by rw[Int.mul_comm];exact i2);refine⟨i / w,i%w,e3.symm,r1,r2,q1,J,e1,e2,Int.mul_nonneg J q1,?_⟩;have:=Int.mul_le_mul_of_nonneg_left (show i / w+1<=h by omega) (show(0:Int)<=w by omega);grind
theorem Yk{w i:Int}(c:Cell w h i):(∀y∈RA w h i,0<=y/\y<w*h/\y≠i)/\(RA w h i).Nodup/\(RA w h i).length<=4:=by
 obtain⟨q,r,e,r1,r2,q1,q2,e1,e2,m1,m2⟩:=iW c;obtain⟨w1,w2,h1,h2,i1,i2⟩:=c;unfold RA;rw[e1,e2]
 have g1:0<q->w<=w*q:=λh=>by have:=Int.mul_le_mul_of_nonneg_left (show(1:Int)<=q by omega) (show(0:Int)<=w by omega);omega
 have g2:q<h-1->w*q+w+w<=w*h:=λhq=>by have:=Int.mul_le_mul_of_nonneg_left (show q+1+1<=h by omega) (show(0:Int)<=w by omega);grind
 have G1:q<=0\/w<=w*q:=by
  by_cases hq:0<q
  ·omega
  ·omega
 have G2:h-1<=q\/w*q+w+w<=w*h:=by
  by_cases hq:q<h-1
  ·omega
  ·omega
 clear g1 g2;generalize w*q=m at *;generalize w*h=t at *;subst e;by_cases a1:q>0<;>by_cases a2:r>0<;>by_cases a3:r<w-1<;>by_cases a4:q<h-1<;>simp[a1,a2,a3,a4]<;>omega
theorem bR{w i:Int}(c:Cell w h i)(cs:By):Ur w h cs i=some (RA w h i):=by
 obtain⟨q,r,e,r1,r2,q1,q2,e1,e2,m1,m2⟩:=iW c;obtain⟨w1,w2,h1,h2,i1,i2⟩:=c;have hb:=oN w1 w2 h1 h2;unfold Ur RA;rw[e1,e2];rw[show(w==0)=false by rw[ABa];omega];simp only[ABV,Pr (show -9223372036854775808<=q by omega) J,Pr (show -9223372036854775808<=i-w by omega) J,Pr (show -9223372036854775808<=i-1 by omega) J,Pr (show -9223372036854775808<=i+1 by omega) J,Pr (show -9223372036854775808<=i+w by omega) J,Pr (show -9223372036854775808<=w-1 by omega) J,Pr (show -9223372036854775808<=h-1 by omega) J];generalize decide (q>0)=b1;generalize decide (r>0)=b2;generalize decide (r<w-1)=b3;generalize decide (q<h-1)=b4;cases b1<;>cases b2<;>cases b3<;>cases b4<;>rfl
theorem gD:YM=Ur:=rfl
def Pq(c:By)(i:Int):Int:=c.getD i.toNat 0
theorem X1{i:Int}(h:0<=i/\i<(c.length:Int)):JQ c i=some (Pq c i):=by obtain⟨m,rfl⟩:∃m:Nat,i=m:=⟨i.toNat,J⟩;rw[Pk J];simp[Pq,List.getD,AAI (show m<c.length by omega)]
structure lR(w h:Int)(c:By):Prop where
 w1:1<=w
 w2:w<=10
 h1:1<=h
 h2:h<=10
 len:(c.length:Int)=w*h
theorem lR.cell{w:Int}(f:lR w h c){i:Int}(hi:0<=i/\i<(c.length:Int)):Cell w h i:=⟨f.w1,f.w2,f.h1,f.h2,hi.1,f.len▸hi.2⟩
theorem lR.le{w:Int}(f:lR w h c):c.length<=100:=by have:=oN f.w1 f.w2 f.h1 f.h2;have:=f.len;omega
theorem WC{w:Int}(hf:P3 w h c=true):lR w h c:=by unfold P3 Qg at hf;simp only[AAJ,AAf,AAT]at hf;obtain⟨⟨⟨⟨a,b⟩,⟨d,e⟩⟩,g⟩,_⟩:=hf;have h1:=oN a b d e;have h2:0<=w*h:=Int.mul_nonneg J J;rw[Pr J J]at g;exact⟨a,b,d,e,g⟩
def Sb(w h:Int)(c:By)(i:Int)(a:Bool):By:=(RA w h i).filter λk=>Pq c k != 0 && !(a&&Pq c k==2)
theorem az{w:Int}(f:lR w h c){i:Int}(hi:0<=i/\i<(c.length:Int))(a:Bool):(∀y∈Sb w h c i a,(0<=y/\y<(c.length:Int))/\y≠i)/\(Sb w h c i a).Nodup/\(Sb w h c i a).length<=4:=by obtain⟨h1,h2,h3⟩:=Yk (f.cell hi);refine⟨λy hy=>?_,h2.filter _,AAv (ABs _ _) h3⟩;have:=h1 y (ABm.1 hy).1;rw[f.len];omega
theorem bK{w:Int}(f:lR w h c){i:Int}(hi:0<=i/\i<(c.length:Int))(a:Bool)(n:Nat)(hn:Ps<=n):W7 n w h c i a=some (Sb w h c i a):=by
 obtain⟨h1,h2,h3⟩:=Yk (f.cell hi)
 have:=Zc (Vz c a (RA w h i)) (RA w h i) (λk=>Pq c k != 0 && !(a&&Pq c k==2)) (λj x out hx hj ho=>by
  have hxm:=h1 x (AAN hx);have hm:decide (out.length+[x].length<=Dj)=true:=by rw[AAf];simp[Dj];omega
  simp only[Vz,Po hj,ABX,hx,ABT,X1 (c:=c) (i:=x) (by rw[f.len];exact⟨hxm.1,hxm.2.1⟩),Pj hj J,ABU,hm];grind) (λout=>by simp[Vz]) n ADd
 unfold W7;rw[bR (f.cell hi),ABT,this];rfl
theorem aw{w:Int}(f:lR w h c){i:Int}(hi:0<=i/\i<(c.length:Int))(a:Bool)(n:Nat)(hn:Ps<=n):Yq n w h c i a=some (Sb w h c i a):=by
 obtain⟨h1,h2,h3⟩:=Yk (f.cell hi)
 have:=Zc (XV c a (RA w h i)) (RA w h i) (λk=>Pq c k != 0 && !(a&&Pq c k==2)) (λj x out hx hj ho=>by
  have hxm:=h1 x (AAN hx);have hm:decide (out.length+[x].length<=Dj)=true:=by rw[AAf];simp[Dj];omega
  simp only[XV,Po hj,ABX,hx,ABT,X1 (c:=c) (i:=x) (by rw[f.len];exact⟨hxm.1,hxm.2.1⟩),Pj hj J,ABU,hm];grind) (λout=>by simp[XV]) n ADd
 unfold Yq;rw[gD,bR (f.cell hi),ABT,this];rfl
structure FJ(N:Nat)(q out:By):Prop where
 len:out.length=N
 wk:∀y∈q,0<=y/\y<(N:Int)
 NC:∀x∈out, -1<=x/\x<(q.length:Int)
 Pa:q.length+out.countP (λx=>decide (x<0))=N
theorem Ub{out:By}{v:Int}(h:0<=v/\v<(out.length:Int)):O3 out v=true/\out[v.toNat]?=some (Pq out v)/\Pq out v∈out:=by
 obtain⟨m,rfl⟩:∃m:Nat,v=m:=⟨v.toNat,J⟩;have hm:m<out.length:=J
 have e:Pq out (m:Int)=out[m]:=by simp[Pq,List.getD,AAI hm]
 refine⟨Po hm,?_,?_⟩
 all_goals grind
theorem FJ.tB{N:Nat}{q out:By}(h:FJ N q out){v a:Int}(hv:0<=v/\v<(N:Int))(ha:0<=a/\a<(N:Int))(hneg:Pq out v<0):FJ N (q++[v]) (out.set v.toNat (Pq out a+1)):=by
 obtain⟨_,e1,_⟩:=Ub (out:=out) (v:=v) (by rw[h.len];exact hv);obtain⟨_,_,m2⟩:=Ub (out:=out) (v:=a) (by rw[h.len];exact ha);have hb:=h.NC _ m2;obtain⟨zw,e2⟩:=AAK.1 e1;refine⟨by simp[h.len],λy hy=>?_,λx hx=>?_,?_⟩
 ·rcases ABL.1 hy with hy|hy
  ·exact h.wk y hy
  grind
 ·rcases AA9 hx with hx|rfl
  ·have:=h.NC x hx;simp;omega
  grind
 ·have hc:=h.Pa;grind
theorem nA(w h:Int)(c:By)(N:Nat)(hN:N<=100)(a:Int)(ha:0<=a/\a<(N:Int))(nl:By)(hnl:∀y∈nl,0<=y/\y<(N:Int))(hl4:nl.length<=4)(k:Nat)(n n':Nat)(hn:Ps<=n)(hn':Ps<=n')(q out:By)(hk:k<=q.length)(hJ:FJ N q out):
  ∃q' out',iter n (R6 a nl) (q,0,out)=some (q',(nl.length:Int),out')/\iter n' (TS a nl) (q.drop k,0,out)=some (q'.drop k,(nl.length:Int),out')/\k<=q'.length/\FJ N q' out':=by
 obtain⟨z,w',⟨q',out',rfl,rfl,h1,h2⟩,h3,h4⟩:=gR (f:=R6 a nl) (g:=TS a nl)
  (λx y=>∃(i:Nat) (q out:By),x=(q,(i:Int),out)/\y=(q.drop k,(i:Int),out)/\i<=nl.length/\k<=q.length/\FJ N q out)
  (λz w=>∃(q out:By),z=(q,(nl.length:Int),out)/\w=(q.drop k,(nl.length:Int),out)/\k<=q.length/\FJ N q out)
  (λx=>nl.length-x.2.1.toNat) (λx y hR=>by
   obtain⟨i,q,out,rfl,rfl,hi,hk,hJ⟩:=hR;by_cases hi2:i=nl.length
   ·subst hi2;exact .inl ⟨(q,(nl.length:Int),out),(q.drop k,(nl.length:Int),out),by simp[R6],by simp[TS],q,out,rfl,rfl,hk,hJ⟩
   ·right;have hi':i<nl.length:=J
    have hv:=hnl nl[i] (ABW hi');have hx:nl[i]?=some nl[i]:=AAI hi';generalize nl[i]=v at hv hx;obtain⟨v1,v2,v3⟩:=Ub (out:=out) (v:=v) (by rw[hJ.len];exact hv);obtain⟨a1,a2,a3⟩:=Ub (out:=out) (v:=a) (by rw[hJ.len];exact ha);have hd:decide ((i:Int)<(nl.length:Int))=true:=by simpa using hi'
    have hq:q.length<=100:=by have:=hJ.Pa;omega
    have hw:Pn (Pq out a+1)=Pq out a+1:=by have:=hJ.NC _ a3;exact Pr J J
    by_cases hneg:Pq out v<0
    ·refine⟨(q++[v],((i+1:Nat):Int),out.set v.toNat (Pq out a+1)),((q++[v]).drop k,((i+1:Nat):Int),out.set v.toNat (Pq out a+1)),?_,?_,⟨i+1,_,_,rfl,rfl,J,ADg,hJ.tB hv ha hneg⟩,by show nl.length-((i+1:Nat):Int).toNat<nl.length-(i:Int).toNat;omega⟩
     ·have hm:decide (q.length+[v].length<=Dj)=true:=by rw[AAf];simp[Dj];omega
      simp only[R6,hd,Po hi',ABX,hx,ABT,v1,v2,a1,a2,ABZ hneg,ABU,hm,hw,Pj hi' J,QX]
     ·have hm:decide ((q.drop k).length+[v].length<=Dj)=true:=by rw[AAf];simp[Dj];omega
      simp only[TS,hd,Po hi',ABX,hx,ABT,v1,v2,a1,a2,ABZ hneg,ABU,hm,hw,Pj hi' J,QX];rw[List.drop_append_of_le_length hk]
    ·refine⟨(q,((i+1:Nat):Int),out),(q.drop k,((i+1:Nat):Int),out),?_,?_,⟨i+1,_,_,rfl,rfl,J,hk,hJ⟩,by show nl.length-((i+1:Nat):Int).toNat<nl.length-(i:Int).toNat;omega⟩
     ·simp only[R6,hd,Po hi',ABX,hx,ABT,v1,v2,ABd hneg,ABU,ABV,Pj hi' J]
     ·simp only[TS,hd,Po hi',ABX,hx,ABT,v1,v2,ABd hneg,ABU,ABV,Pj hi' J]) n n' (q,0,out) (q.drop k,0,out) ⟨0,q,out,rfl,rfl,J,hk,hJ⟩ (by show nl.length-(0:Int).toNat<n;unfold Ps at hn;omega) (by show nl.length-(0:Int).toNat<n';unfold Ps at hn';omega)
 grind
theorem jo(c:By)(hl:c.length<=100)(n:Nat)(hn:Ps<=n):iter n (TO c) ([],0)=some (List.replicate c.length (-1),(c.length:Int)):=by
 have:=P8 (TO c) (λi=>(List.replicate i (-1),(i:Int))) c.length (List.replicate c.length (-1),(c.length:Int)) (λi hi=>by
  have hm:decide ((List.replicate i (-1:Int)).length+[(-1:Int)].length<=Dj)=true:=by rw[AAf];simp[Dj];omega
  simp only[TO,hm,Pj hi J];rw[show decide ((i:Int)<(c.length:Int))=true by simpa using hi];simp[ACS]) (by simp[TO]) n ADd
 grind
theorem jP(L:Int×By->Option ((Int×By)⊕(Int×By)))(N:Nat)(x:Int)(hL:∀(i:Nat)(out:By),i<N->out.length=N->L ((i:Int),out)=some (.inl (((i+1:Nat):Int),out.set i x)))(he:∀out,out.length=N->L ((N:Int),out)=some (.inr ((N:Int),out)))(n:Nat)(hn:N<n):
  iter n L (0,List.replicate N 0)=some ((N:Int),List.replicate N x):=by
 have:=P8 L (λi=>((i:Int),List.replicate i x++List.replicate (N-i) 0)) N ((N:Int),List.replicate N x) (λi hi=>by
  rw[hL i _ hi ADg];congr 3;rw[ACI _ _ OF,List.length_replicate,ACW,ACS];rw[show N-i=(N-(i+1))+1 by omega,List.replicate_succ,ACY,ABo];rfl) (by rw[he _ OF];simp) n hn
 grind
theorem dK(c:By)(hl:c.length<=100)(n:Nat)(hn:Ps<=n):iter n (WZ c) (0,List.replicate (Int.toNat (c.length:Int)) 0)=some ((c.length:Int),List.replicate c.length (-1)):=by rw[ABX];refine jP _ c.length (-1) (λi out hi ho=>?_) (λout ho=>by simp[WZ]) n ADd;simp only[WZ,Po (ho▸hi),Pj hi J,QX,ABX,ABU,List.length_replicate];grind
theorem bV{w:Int}(f:lR w h c){t:Int}(ht:0<=t/\t<(c.length:Int))(b:Bool)(n n':Nat)(hn:Ps<=n)(hn':Ps<=n'):
  ∃F,UT n w h c t b=some F/\VH n' w h c t b=some F/\F.length=c.length/\∀x∈F, -1<=x/\x<(c.length:Int):=by
 have hN:=f.le;have hB:1048576<=n:=AAv ADj hn;have hB':1048576<=n':=AAv ADj hn'
 have hJ0:FJ c.length [t] ((List.replicate c.length (-1)).set t.toNat 0):=by
  have hr:∀x∈List.replicate c.length (-1:Int),x = -1:=λx hx=>(List.mem_replicate.1 hx).2;have htl:t.toNat<(List.replicate c.length (-1:Int)).length:=ADg
  refine⟨OF,λy hy=>No,λx hx=>?_,?_⟩
  ·grind
  ·rw[List.countP_set htl];have:(List.replicate c.length (-1:Int)).countP (λx=>decide (x<0))=c.length:=by rw[List.countP_replicate];simp
   grind
 obtain⟨z,w',⟨F,hz,hw,h1,h2⟩,h3,h4⟩:=gR (f:=TQ n w h c t b) (g:=Ug n' w h c t b)
  (λx y=>∃(k:Nat) (q out:By),x=(q,(k:Int),out)/\y=(q.drop k,out)/\k<=q.length/\FJ c.length q out)
  (λz w=>∃F,z.2.2=F/\w.2=F/\F.length=c.length/\∀x∈F, -1<=x/\x<(c.length:Int))
  (λx=>c.length-x.2.1.toNat) (λx y hR=>by
   obtain⟨k,q,out,rfl,rfl,hk,hJ⟩:=hR;have hq:q.length<=c.length:=by have:=hJ.Pa;omega
   by_cases hk2:k=q.length
   ·subst hk2;refine .inl ⟨(q,(q.length:Int),out),([],out),by simp[TQ],by simp[Ug],out,rfl,rfl,hJ.len,λx hx=>?_⟩;have:=hJ.NC x hx;omega
   ·right;have hk':k<q.length:=J
    have hx:q[k]?=some q[k]:=AAI hk';have hv:=hJ.wk q[k] (ABW hk');have hdc:q.drop k=q[k]::q.drop (k+1):=ABh hk';generalize q[k]=v at hx hv hdc;have hd:decide ((k:Int)<(q.length:Int))=true:=by simpa using hk'
    have hlen1:decide (((q.drop k).length:Int)>0)=true:=by rw[AAf];simp;omega
    have zr:sub (q.drop k) (Int.toNat 1) (Int.toNat ((q.drop k).length:Int))=q.drop (k+1):=by rw[hdc];simp[sub,ABv]
    have hrng:(decide ((0:Nat)<=1)&&decide ((1:Int)<=((q.drop k).length:Int))&&decide (((q.drop k).length:Int)<=((q.drop k).length:Int)))=true:=ADg
    have h0:(q.drop k)[Int.toNat 0]?=some v:=by rw[hdc];rfl
    have hi0:O3 (q.drop k) 0=true:=by rw[hdc];exact Po (i:=0) OF
    have hwk:=Pj hk' J;have hkc:=X1 (c:=c) (i:=v) (by exact hv);by_cases hskip:(b&&v != t&&Pq c v==2)=true
    ·refine⟨(q,((k+1:Nat):Int),out),(q.drop (k+1),out),?_,?_,⟨k+1,q,out,rfl,rfl,J,hJ⟩,No⟩
     ·simp only[TQ,hd,Po hk',ABX,hx,ABT,ABU,hkc,hwk];grind
     ·simp only[Ug,hlen1,hi0,h0,ABT,ABU,hrng,hkc,zr];grind
    ·obtain⟨n1,n2,n3⟩:=az f hv false;obtain⟨q',out',e1,e2,e3,e4⟩:=nA w h c c.length hN v hv (Sb w h c v false) (λy hy=>(n1 y hy).1) n3 (k+1) n n' hn hn' q out J hJ;refine⟨(q',((k+1:Nat):Int),out'),(q'.drop (k+1),out'),?_,?_,⟨k+1,q',out',rfl,rfl,e3,e4⟩,No⟩
     ·simp only[TQ,hd,Po hk',ABX,hx,ABT,ABU,hkc,hwk,bK f hv false n hn,e1];grind
     ·simp only[Ug,hlen1,hi0,h0,ABT,ABU,hrng,hkc,zr,aw f hv false n' hn',e2];grind) n n' ([t],0,(List.replicate c.length (-1)).set t.toNat 0) ([t],(List.replicate c.length (-1)).set t.toNat 0) ⟨0,[t],_,rfl,rfl,OF,hJ0⟩ J J
 have yt:O3 (List.replicate c.length (-1:Int)) t=true:=(Ub No).1
 have hmr:(decide ((0:Int)<=(c.length:Int))&&decide ((c.length:Int)<=(Dj:Int))&&decide ((c.length:Int)=(c.length:Int)))=true:=by
  have hm:(c.length:Int)<=(Dj:Int):=by unfold Dj;omega
  rw[ABZ hm];simp
 refine⟨F,?_,?_,h1,h2⟩
 ·unfold UT;rw[jo c hN n hn,ABT];dsimp only;rw[yt,QX,h3,<-hz];rfl
 ·unfold VH;rw[hmr,dK c hN n' hn',ABU,ABT];dsimp only;rw[yt,QX,h4,<-hw];rfl
theorem iZ{w:Int}(f:lR w h c){t:Int}(ht:0<=t/\t<(c.length:Int))(b:Bool):
  ∃F,(∀n,Ps<=n->UT n w h c t b=some F/\VH n w h c t b=some F)/\F.length=c.length/\∀x∈F, -1<=x/\x<(c.length:Int):=by
 obtain⟨F,h1,h2,h3,h4⟩:=bV f ht b Ps Ps (AAc _) (AAc _);refine⟨F,λn hn=>⟨?_,?_⟩,h3,h4⟩
 ·obtain⟨G,g1,g2,_⟩:=bV f ht b n Ps hn (AAc _);grind
 ·obtain⟨G,g1,g2,_⟩:=bV f ht b Ps n (AAc _) hn;grind
theorem iH(a b c:Int):Pw a b c=some (decide (b<=a)&&decide (a<=c)):=by unfold Pw;grind
theorem eI(a b c:Int):P7 a b c=some (decide (b<=a)&&decide (a<=c)):=by unfold P7;grind
def Qe(t:Int×Int×Int×Int):Bool:=
 decide (1<=t.1)&&decide (t.1<=1000000)&&decide (1<=t.2.1)&&decide (t.2.1<=999)&&decide (1<=t.2.2.2)&&decide (t.2.2.2<=4)&&decide (0<=t.2.2.1)&&decide (t.2.2.1<=99)&&((t.2.2.1==0)==(t.2.2.2==1))
def QG(t u:Int×Int×Int×Int):Bool:=
 (t.1==u.1&&t.2.1==u.2.1)||(!(t.2.2.2==1)&&(t.2.2.1==u.2.2.1||(t.2.1==u.2.1 && !(u.2.2.2==1))))
def SK:List (Int×Int×Int×Int)->List (Int×Int×Int×Int)->Bool
 |_,[]=>true
 |p,x::l=>Qe x&&p.all (λu => !QG x u)&&SK (p++[x]) l
def SU(l:List (Int×Int×Int×Int)):Bool:=decide (l.length<=60)&&SK [] l
theorem sub_zero(xs:List α)(i:Nat):sub xs (Int.toNat (0:Int)) (Int.toNat (i:Int))=xs.take i:=by simp[sub]
theorem jt(x u:Int×Int×Int×Int)(i:Nat)(a:List (Int×Int×Int×Int))(k:Nat)(hk:k<(a.take i).length)(hu:(a.take i)[k]?=some u)(hm:a.length<=1048576):
  Rx a i x k=some (bif QG x u then .inr (.inr false)else .inl ((k+1:Nat):Int)):=by
 unfold Rx;rw[sub_zero,RU,hu];have hk':decide ((k:Int)<((a.take i).length:Int))=true:=by simp only[AAf];omega
 rw[hk',ABU,Pj hk ADg];simp only[ABT,QG];grind
theorem kR(x u:Int×Int×Int×Int)(i:Nat)(a:List (Int×Int×Int×Int))(k:Nat)(hk:k<i)(hu:a[k]?=some u)(hi:i<=a.length)(hm:a.length<=1048576):
  R4 a i x k=some (bif QG x u then .inr (.inr false)else .inl ((k+1:Nat):Int)):=by
 unfold R4;rw[RU,hu];have hk':decide ((k:Int)<(i:Int))=true:=by simp only[AAf];omega
 rw[hk',ABU,Pj hk J];simp only[ABT,QG];grind
theorem jv(x:Int×Int×Int×Int)(i:Nat)(a:List (Int×Int×Int×Int))(hi:i<=a.length)(hm:a.length<=1048576)(n:Nat)(hn:Ps<=n):
  iter n (Rx a i x) 0=some (bif(a.take i).all (λu => !QG x u)then .inl (i:Int)else .inr false):=by
 have hl:(a.take i).length=i:=ADg
 refine(Xq (Rx a i x) (a.take i) (λp l=>bif l.all (λu => !QG x u)then .inl (i:Int)else .inr false) ?_ ?_ n ADd)
 ·unfold Rx;rw[sub_zero,hl];simp[hl]
 ·intro k u l p h1 h2 h3 h4 h5;rw[jt x u i a k h1 h2 hm];grind
theorem kT(x:Int×Int×Int×Int)(i:Nat)(a:List (Int×Int×Int×Int))(hi:i<=a.length)(hm:a.length<=1048576)(n:Nat)(hn:Ps<=n):
  iter n (R4 a i x) 0=some (bif(a.take i).all (λu => !QG x u)then .inl (i:Int)else .inr false):=by
 have hl:(a.take i).length=i:=ADg
 refine(Xq (R4 a i x) (a.take i) (λp l=>bif l.all (λu => !QG x u)then .inl (i:Int)else .inr false) ?_ ?_ n ADd)
 ·unfold R4;rw[hl];simp
 ·intro k u l p h1 h2 h3 h4 h5;have hk:k<i:=J
  rw[kR x u i a k hk (by rw[List.getElem?_take_of_lt hk]at h2;exact h2) hi hm];grind
theorem lr(x:Int×Int×Int×Int):
  ((P7 x.1 1 1000000).bind λ(x3:Bool)=>bif(!x3)then some true else(P7 x.2.1 1 999).bind λ(x4:Bool)=>bif(!x4)then some true else(P7 x.2.2.2 1 4).bind λ(x5:Bool)=>bif(!x5)then some true else
   bif((x.2.2.2==1) != (x.2.2.1==0))then some true else(P7 x.2.2.1 0 99).bind λ(x6:Bool)=>some (!x6))=some (!Qe x):=by
 simp only[eI,ABT,Qe];grind
theorem mY(x:Int×Int×Int×Int):
  ((Pw x.1 1 1000000).bind λ(x3:Bool)=>bif(!x3)then some true else(Pw x.2.1 1 999).bind λ(x4:Bool)=>bif(!x4)then some true else(Pw x.2.2.2 1 4).bind λ(x5:Bool)=>bif(!x5)then some true else
   (Pw x.2.2.1 0 99).bind λ(x6:Bool)=>bif(!x6)then some true else some ((x.2.2.1==0) != (x.2.2.2==1)))=some (!Qe x):=by
 simp only[iH,ABT,Qe]
 cases decide (1<=x.1)<;>cases decide (x.1<=1000000)<;>cases decide (1<=x.2.1)<;>cases decide (x.2.1<=999)<;>cases decide (1<=x.2.2.2)<;>cases decide (x.2.2.2<=4)<;>simp <;>
  cases(x.2.2.2==1)<;>cases(x.2.2.1==0)<;>cases decide (0<=x.2.2.1)<;>cases decide (x.2.2.1<=99)<;>simp
theorem ZQ(a:List (Int×Int×Int×Int))(hm:a.length<=1048576)(n:Nat)(hn:Ps<=n):Vf n a=some (SU a):=by
 have key:iter n (Rw n a) 0=some (bif SK [] a then .inl (a.length:Int)else .inr false):=by
  refine Xq (Rw n a) a (λp l=>bif SK p l then .inl (a.length:Int)else .inr false) ?_ ?_ n ADd
  ·unfold Rw;simp[SK]
  ·intro i x l p h1 h2 h3 h4 h5
   have e:Rw n a i=some (bif Qe x&&p.all (λu => !QG x u)then .inl ((i+1:Nat):Int)else .inr (.inr false)):=by
    unfold Rw;rw[show decide ((i:Int)<(a.length:Int))=true by grind,ABU,RU,h2];simp only[ABT,lr,Pj h1 J];cases hg:Qe x with
    |false=>simp
    |true=>
     rw[show(decide ((0:Int)<=(0:Int))&&decide ((0:Int)<=(i:Int))&&decide ((i:Int)<=(a.length:Int)))=true by simp;omega];rw[jv x i a J hm n hn,<-h5];grind
   rw[e];cases hg:(Qe x&&p.all λu => !QG x u)with
   |true=>exact .inl ⟨OF,by simp[SK,hg]⟩
   |false=>exact .inr (by simp[SK,hg])
 unfold Vf;rw[key];cases h:SK [] a with
 |true=>simp[SU,h];omega
 |false=>simp[SU,h]
theorem ZT(a:List (Int×Int×Int×Int))(hm:a.length<=1048576)(n:Nat)(hn:Ps<=n):Vw n a=some (SU a):=by
 have key:iter n (R3 n a) 0=some (bif SK [] a then .inl (a.length:Int)else .inr false):=by
  refine Xq (R3 n a) a (λp l=>bif SK p l then .inl (a.length:Int)else .inr false) ?_ ?_ n ADd
  ·unfold R3;simp[SK]
  ·intro i x l p h1 h2 h3 h4 h5
   have e:R3 n a i=some (bif Qe x&&p.all (λu => !QG x u)then .inl ((i+1:Nat):Int)else .inr (.inr false)):=by
    unfold R3;rw[show decide ((i:Int)<(a.length:Int))=true by grind,ABU,RU,h2];simp only[ABT,mY,Pj h1 J];cases hg:Qe x with
    |false=>simp
    |true=>
     rw[kT x i a J hm n hn,<-h5];grind
   rw[e];cases hg:(Qe x&&p.all λu => !QG x u)with
   |true=>exact .inl ⟨OF,by simp[SK,hg]⟩
   |false=>exact .inr (by simp[SK,hg])
 unfold Vw;rw[key];by_cases hl:a.length<=60
 ·rw[show decide ((a.length:Int)>60)=false by simp;omega];cases h:SK [] a with
  |true=>simp[SU,h,hl]
  |false=>simp[SU,h]
 ·rw[show decide ((a.length:Int)>60)=true by simp;omega];simp[SU,hl]
def AS:List (Nat->Int)->Is->Int->Prop
 | [],_,x=>x=0
 |r::rs,S,x=>∃k∈S,∃y,AS rs (S.erase k) y/\x=r k+y
def pf(R:List (Nat->Int))(S:Is)(x:Int):Prop:=AS R S x/\∀y,AS R S y->x<=y
theorem pf.uniq{y:Int}(h1:pf R S x)(h2:pf R S y):x=y:=
 Int.le_antisymm (h1.2 y h2.1) (h2.2 x h1.1)
def RS:By->Int
 | []=>0
 |x::l=>x+RS l
theorem fF:∀a b:By,RS (a++b)=RS a+RS b
 | [],b=>by simp[RS]
 |x::a,b=>by simp only[ABH,RS,fF a b];omega
theorem ag(v:Nat->Int):∀(S:Is)(k:Nat),k∈S->RS (S.map v)=v k+RS ((S.erase k).map v)
 | [],k,h=>by cases h
 |a::S,k,h=>by
  by_cases e:a=k
  ·subst e;simp[RS]
  ·have hk:k∈S:=by
    rcases AAd.1 h with h|h
    ·omega
    ·exact h
   have e2:(a==k)=false:=by simpa using e
   rw[List.erase_cons,e2];simp only[ABP,if_false,ABK,RS,ag v S k hk];omega
theorem jY(v:Nat->Int):∀(S:Is),(∀k∈S,v k<=0)->RS (S.map v)<=0
 | [],_=>by simp[RS]
 |a::S,h=>by simp only[ABK,RS];have:=jY v S (λk hk=>h k (AAM _ hk));grind
theorem AS.ge(v:Nat->Int):∀(R:List (Nat->Int)) (u:By) (S:Is) (x:Int),u.length=R.length->(∀i (hi:i<R.length) (hu:i<u.length),∀k∈S,u[i]+v k<=R[i] k)->(∀k∈S,v k<=0)->AS R S x->RS u+RS (S.map v)<=x
 | [],u,S,x,hl,_,hv,hx=>by obtain rfl:u=[]:=AAO hl;have:=jY v S hv;simp only[AS]at hx;simp only[RS];omega
 |r::R,[],S,x,hl,_,_,_=>ADz
 |r::R,u0::u,S,x,hl,hc,hv,hx=>by
  obtain⟨k,hk,y,hy,rfl⟩:=hx
  have ih:=AS.ge v R u (S.erase k) y No (λi hi hu q hq=>by
   have:=hc (i+1) ADg ADg q (ABr hq);simpa using this) (λq hq=>hv q (ABr hq)) hy
  have h0:=hc 0 OF OF k hk;simp only[ACO]at h0;rw[ag v S k hk];simp only[RS];omega
theorem gf(f:Nat->Int):∀(S:Is),(∀k∈S,f k=0)->RS (S.map f)=0
 | [],_=>rfl
 |a::S,h=>by simp only[ABK,RS,gf f S (λk hk=>h k (AAM _ hk)),h a AAg];omega
theorem kZ(f:Nat->Int):∀(cs S:Is),cs.Nodup->S.Nodup->(∀k∈cs,k∈S)->(∀k∈S,k∉cs->f k=0)->RS (S.map f)=RS (cs.map f)
 | [],S,_,_,_,h=>by rw[gf f S (λk hk=>h k hk OF)];rfl
 |k::cs,S,hn,hS,hs,h=>by
  obtain⟨h1,h2⟩:=AAa.1 hn;rw[ag f S k (hs k AAg),kZ f cs (S.erase k) h2 (hS.erase k) (λq hq=>?_) (λq hq hc=>?_)]
  ·rfl
  all_goals grind
theorem a8:∀(a b:Is),a.Nodup->(∀x∈a,x∈b)->a.length<=b.length
 | [],_,_,_=>OF
 |x::a,b,hn,hs=>by obtain⟨h1,h2⟩:=AAa.1 hn;have hx:=hs x AAg;have:=a8 a (b.erase x) h2 (λq hq=>(List.mem_erase_of_ne (λe:q=x=>h1 (e▸hq))).2 (hs q (AAM _ hq)));grind
def mO:List (Nat->Int)->Is->Int
 |r::rs,k::ks=>r k+mO rs ks
 |_,_=>0
theorem AS.of:∀(R:List (Nat->Int)) (cs:Is) (S:Is),cs.length=R.length->cs.Nodup->(∀k∈cs,k∈S)->AS R S (mO R cs)
 | [],[],S,_,_,_=>rfl
 | [],c::cs,S,hl,_,_=>ADz
 |r::R,[],S,hl,_,_=>ADz
 |r::R,k::cs,S,hl,hn,hs=>by obtain⟨h1,h2⟩:=AAa.1 hn;refine⟨k,hs k AAg,mO R cs,AS.of R cs (S.erase k) AD8 h2 (λq hq=>?_),rfl⟩;grind
def Z9:Option Int->Option Int->Option Int
 |none,b=>b
 |some x,none=>some x
 |some x,some y=>some (if y<x then y else x)
theorem ku(h:Z9 a b=some x):a=some x\/b=some x:=by
 cases a with
 |none=>exact .inr h
 |some y=>cases b with
  |none=>exact .inl h
  |some z=>
   simp only[Z9,Option.some.injEq]at h;grind
theorem qI{y:Int}(h:a=some y):∃z,Z9 a b=some z/\z<=y:=by
 subst h;cases b with
 |none=>exact⟨y,rfl,ACb _⟩
 |some z=>exact⟨_,rfl,J⟩
theorem qJ{y:Int}(h:b=some y):∃z,Z9 a b=some z/\z<=y:=by
 subst h;cases a with
 |none=>exact⟨y,rfl,ACb _⟩
 |some z=>exact⟨_,rfl,J⟩
theorem b9(g:Nat->Option Int):∀(l:Is)(b:Option Int),
  (∀x,l.foldl (λb k=>Z9 b (g k)) b=some x->b=some x\/∃k∈l,g k=some x)/\
  (∀y,b=some y->∃x,l.foldl (λb k=>Z9 b (g k)) b=some x/\x<=y)/\
  (∀k∈l,∀y,g k=some y->∃x,l.foldl (λb k=>Z9 b (g k)) b=some x/\x<=y)
 | [],b=>⟨λx h=>.inl h,λy h=>⟨y,h,ACb _⟩,λk hk=>by cases hk⟩
 |k::l,b=>by
  obtain⟨i1,i2,i3⟩:=b9 g l (Z9 b (g k));simp only[List.foldl_cons];refine⟨λx hx=>?_,λy hy=>?_,λq hq y hy=>?_⟩
  ·rcases i1 x hx with h|⟨q,hq,e⟩
   ·rcases ku h with h|h
    ·exact .inl h
    ·exact .inr ⟨k,AAg,h⟩
   grind
  ·obtain⟨z,h1,h2⟩:=qI (b:=g k) hy;grind
  ·rcases AAd.1 hq with rfl|hq
   ·obtain⟨z,h1,h2⟩:=qJ (a:=b) hy;obtain⟨x,h3,h4⟩:=i2 z h1;exact⟨x,h3,J⟩
   grind
def Y0:List (Nat->Int)->Is->Option Int
 | [],_=>some 0
 |r::rs,S=>S.foldl (λb k=>Z9 b ((Y0 rs (S.erase k)).map λy=>r k+y)) none
theorem Tj:∀(R:List (Nat->Int)) (S:Is),(∀x,Y0 R S=some x->pf R S x)/\(∀y,AS R S y->∃x,Y0 R S=some x/\x<=y)
 | [],S=>⟨λx h=>by
   simp only[Y0,Option.some.injEq]at h;subst h;exact⟨rfl,λy hy=>by simp only[AS]at hy;omega⟩,λy hy=>⟨0,rfl,by simp only[AS]at hy;omega⟩⟩
 |r::R,S=>by
  obtain⟨f1,_,f3⟩:=b9 (λk=>(Y0 R (S.erase k)).map λy=>r k+y) S none
  have up:∀y,AS (r::R) S y->∃x,Y0 (r::R) S=some x/\x<=y:=by
   rintro _ ⟨k,hk,y,hy,rfl⟩
   obtain⟨x,h1,h2⟩:=(Tj R (S.erase k)).2 y hy;obtain⟨z,h3,h4⟩:=f3 k hk (r k+x) (by rw[h1];rfl);exact⟨z,h3,J⟩
  refine⟨λx hx=>⟨?_,λy hy=>?_⟩,up⟩
  ·rcases f1 x hx with h|⟨k,hk,e⟩
   ·cases h
   ·cases hb:Y0 R (S.erase k)with
    |none=>rw[hb]at e;cases e
    |some y=>
     rw[hb]at e;simp only[AA6,Option.some.injEq]at e;exact⟨k,hk,y,((Tj R (S.erase k)).1 y hb).1,e.symm⟩
  grind
theorem km(h:pf R S x):Y0 R S=some x:=by obtain⟨y,h1,h2⟩:=(Tj R S).2 x h.1;rw[h1,((Tj R S).1 y h1).uniq h]
theorem jm(R:List (Nat->Int))(S:Is)(hn:S.Nodup)(hl:R.length<=S.length):∃x,Y0 R S=some x:=by obtain⟨x,h,_⟩:=(Tj R S).2 _ (AS.of R (S.take R.length) S ADg (hn.sublist (List.take_sublist _ _)) (λk hk=>ACT hk));grind
theorem dp(h:Y0 R S=some x)(hc:∀r∈R,∀k∈S,0<=r k):0<=x:=by
 induction R generalizing S x with
 |nil=>simp only[Y0,Option.some.injEq]at h;omega
 |cons r R ih=>
  obtain⟨⟨k,hk,y,hy,rfl⟩,_⟩:=(Tj _ _).1 x h;obtain⟨z,h1,h2⟩:=(Tj R (S.erase k)).2 y hy;have:=ih h1 (λr hr q hq=>hc r (AAM _ hr) q (ABr hq));have:=hc r AAg k hk;omega
theorem mw{M:Int}(h:Y0 R S=some x)(hM:0<=M)(hc:∀r∈R,∀k∈S,r k<=M):x<=M*R.length:=by
 induction R generalizing S x with
 |nil=>simp only[Y0,Option.some.injEq]at h;simp;omega
 |cons r R ih=>
  obtain⟨⟨k,hk,y,hy,rfl⟩,_⟩:=(Tj _ _).1 x h;obtain⟨z,h1,h2⟩:=(Tj R (S.erase k)).2 y hy;have hl:=((Tj _ _).1 _ h).2 (r k+z) ⟨k,hk,z,((Tj _ _).1 z h1).1,rfl⟩;have i:=ih h1 (λr hr q hq=>hc r (AAM _ hr) q (ABr hq));have:=hc r AAg k hk;rw[ABG,Int.natCast_add,Int.mul_add];omega
def pk:List (Nat->Int)->Is->Is
 | [],_=>[]
 |r::rs,S=>match S.find? λk=>(Y0 rs (S.erase k)).map (λy=>r k+y)==Y0 (r::rs) S with
  |some k=>k::pk rs (S.erase k)
  |none=>[]
theorem hZ{r:Nat->Int}(h:Y0 (r::R) S=some x):∃k∈S,(S.find? λk=>(Y0 R (S.erase k)).map (λy=>r k+y)==Y0 (r::R) S)=some k/\∃y,Y0 R (S.erase k)=some y/\x=r k+y:=by
 obtain⟨f1,_,_⟩:=b9 (λk=>(Y0 R (S.erase k)).map λy=>r k+y) S none;rcases f1 x h with h2|⟨k,hk,e⟩
 ·cases h2
 cases hf:S.find? λk=>(Y0 R (S.erase k)).map (λy=>r k+y)==Y0 (r::R) S with
 |none=>
  grind
 |some q=>
  have hq:=ACU hf;refine⟨q,ABq hf,rfl,?_⟩;rw[h]at hq;cases hb:Y0 R (S.erase q)with
  |none=>grind
  |some y=>
   grind
theorem pY:∀(R:List (Nat->Int)) (S:Is),S.Nodup->R.length<=S.length->(pk R S).length=R.length/\(pk R S).Nodup/\∀k∈pk R S,k∈S
 | [],S,_,_=>by simp[pk]
 |r::R,S,hn,hl=>by
  obtain⟨x,hx⟩:=jm (r::R) S hn hl;obtain⟨k,hk,hf,_⟩:=hZ hx;have hle:(S.erase k).length=S.length-1:=List.length_erase_of_mem hk;obtain⟨i1,i2,i3⟩:=pY R (S.erase k) (hn.erase k) (by simp at hl;omega);have e:pk (r::R) S=k::pk R (S.erase k):=by simp only[pk,hf]
  grind
structure HF(C:Nat->Nat->Int)(n m:Nat)(u v:Nat->Int):Prop where
 mz:∀r j,1<=r->r<=n->1<=j->j<=m->u r+v j<=C r j
 qP:∀j,1<=j->j<=m->v j<=0
 tO:∀r,1<=r->r<=n->0<=u r
structure HM(m i:Nat)(w:Nat->Int):Prop where
 fk:∀j,1<=j->j<=m->0<=w j/\w j<(i:Int)
 inj:∀j k,1<=j->j<=m->1<=k->k<=m->w j=w k->0<w j->j=k
 qT:∀r:Nat,1<=r->r<i->∃j,1<=j/\j<=m/\w j=(r:Int)
structure HT(C:Nat->Nat->Int)(m:Nat)(u v w:Nat->Int):Prop where
 tight:∀j (r:Nat),1<=j->j<=m->1<=r->w j=(r:Int)->u r+v j=C r j
 free:∀j,1<=j->j<=m->w j=0->v j=0
theorem HM.open(h:HM m i w)(h1:1<=i)(hi:i<=m):∃j,1<=j/\j<=m/\w j=0:=by
 refine AAp λhno=>?_
 have hp:∀j,1<=j->j<=m->0<w j:=λj a b=>by have:=(h.fk j a b).1;grind
 have:=a8 ((List.range m).map λk=>(w (k+1)).toNat) (List.range' 1 (i-1)) ?_ ?_
 ·grind
 ·unfold List.Nodup;rw[ABk];refine ACN (fun {a b} ha hb hab e=>?_) (List.pairwise_lt_range (n:=m));rw[AAX]at ha hb;have p1:=hp (a+1) J J;have p2:=hp (b+1) J J;have:=h.inj (a+1) (b+1) J J J J J p1;omega
 ·intro x hx;obtain⟨k,hk,rfl⟩:=AAt.1 hx;rw[AAX]at hk;have p1:=hp (k+1) J J;have p2:=(h.fk (k+1) J J).2;grind
theorem HF.NC{n:Nat}(hf:HF C n m u v)(ht:HT C m u v w)(hm:HM m i w)(h1:1<=i)(hi:i<=m)(yt:i<=n){M:Int}(hC:∀r j,1<=r->r<=n->1<=j->j<=m->0<=C r j/\C r j<=M):
  (∀r,1<=r->r<=n->0<=u r/\u r<=M)/\∀j,1<=j->j<=m -> -M<=v j/\v j<=0:=by
 obtain⟨f,f1,f2,f3⟩:=hm.open h1 hi
 have hu:∀r,1<=r->r<=n->0<=u r/\u r<=M:=λr a b=>by have:=hf.mz r f a b f1 f2;rw[ht.free f f1 f2 f3]at this;have:=(hC r f a b f1 f2).2;exact⟨hf.tO r a b,J⟩
 refine⟨hu,λj a b=>⟨?_,hf.qP j a b⟩⟩;obtain⟨q1,q2⟩:=hm.fk j a b;by_cases h0:w j=0
 ·rw[ht.free j a b h0];grind
 ·have:=ht.tight j (w j).toNat a b J J;grind
def Ch(P:Nat->Nat->Prop):Is->Prop
 | []=>True
 |a::l=>(a=0/\l=[])\/(1<=a/\(∃x∈l,P a x)/\Ch P l)
theorem Ch.mono{P Q:Nat->Nat->Prop}:∀ {l:Is},(∀a x,a∈l->x∈l->P a x->Q a x)->Ch P l->Ch Q l
 | [],_,_=>trivial
 |a::l,h,hc=>by
  rcases hc with hc|⟨h1,⟨x,hx,hP⟩,h3⟩
  ·exact .inl hc
  ·exact .inr ⟨h1,⟨x,hx,h a x AAg (AAM _ hx) hP⟩,Ch.mono (λa x ha hx=>h a x (AAM _ ha) (AAM _ hx)) h3⟩
theorem Ch.tail{P:Nat->Nat->Prop}{a:Nat}{l:Is}(h:Ch P (a::l)):Ch P l:=by
 rcases h with⟨_,h⟩|⟨_,_,h⟩
 ·rw[h];trivial
 ·exact h
theorem Ch.drop{P:Nat->Nat->Prop}{l:Is}:∀ {p:Is},Ch P (p++l)->Ch P l
 | [],h=>h
 |a::p,h=>Ch.drop (p:=p) (Ch.tail h)
def Fr(C:Nat->Nat->Int)(u v w fr:Nat->Int)(a x:Nat):Prop:=fr a=(x:Int)/\∃r:Nat,1<=r/\w x=(r:Int)/\u r+v a=C r a
structure HG(C:Nat->Nat->Int)(n m:Nat)(u v w ls fr:Nat->Int)(Q:Is)(j0:Nat):Prop where
 hf:HF C n m u v
 ht:HT C m u v w
 tR:j0<=m
 nd:(j0::Q).Nodup
 qm:∀j∈Q,j<=m
 qp:∀j∈Q,1<=w j
 ch:Ch (Fr C u v w fr) (j0::Q)
 l1:∀j,1<=j->j<=m->j∉Q->∀b∈Q,∀r:Nat,w b=(r:Int)->ls j<=C r j-u r-v j
 l2:Q=[]\/∀j,1<=j->j<=m->j∉Q->∃b∈Q,fr j=(b:Int)/\∃r:Nat,1<=r/\w b=(r:Int)/\ls j=C r j-u r-v j
structure HS(C:Nat->Nat->Int)(n m:Nat)(u v w ls fr:Nat->Int)(Q:Is):Prop where
 hf:HF C n m u v
 ht:HT C m u v w
 nd:Q.Nodup
 qm:∀j∈Q,j<=m
 qp:∀j∈Q,1<=w j
 ch:Ch (Fr C u v w fr) Q
 l1:∀j,1<=j->j<=m->j∉Q->∀b∈Q,∀r:Nat,w b=(r:Int)->ls j<=C r j-u r-v j
 l2:∀j,1<=j->j<=m->j∉Q->∃b∈Q,fr j=(b:Int)/\∃r:Nat,1<=r/\w b=(r:Int)/\ls j=C r j-u r-v j
theorem HG.scan{C:Nat->Nat->Int}{n m:Nat}{u v w ls fr ls' fr':Nat->Int}{Q:Is}{j0:Nat}(h:HG C n m u v w ls fr Q j0){i0:Nat}(hi:1<=i0)(hw:w j0=(i0:Int))
  (hfar:Q=[]->∀j,1<=j->j<=m->C i0 j-u i0-v j<ls j)
  (hused:∀j,j<=m->j∈j0::Q->fr' j=fr j)
  (hnew:∀j,1<=j->j<=m->j∉j0::Q->(C i0 j-u i0-v j<ls j/\ls' j=C i0 j-u i0-v j/\fr' j=(j0:Int))\/(¬C i0 j-u i0-v j<ls j/\ls' j=ls j/\fr' j=fr j)):
  HS C n m u v w ls' fr' (j0::Q):=by
 refine⟨h.hf,h.ht,h.nd,λj hj=>?_,λj hj=>?_,?_,λj a b hj x hx r hr=>?_,λj a b hj=>?_⟩
 ·rcases AAd.1 hj with rfl|hj
  ·exact h.tR
  ·exact h.qm j hj
 ·rcases AAd.1 hj with rfl|hj
  ·omega
  ·exact h.qp j hj
 ·refine h.ch.mono λa x ha hx hP=>⟨?_,hP.2⟩;rw[hused a ?_ ha]
  ·exact hP.1
  ·rcases AAd.1 ha with rfl|ha
   ·exact h.tR
   ·exact h.qm a ha
 ·have hjQ:j∉Q:=λe=>hj (AAM _ e);rcases hnew j a b hj with⟨h1,h2,h3⟩|⟨h1,h2,h3⟩
  ·rcases AAd.1 hx with rfl|hx
   ·grind
   ·have:=h.l1 j a b hjQ x hx r hr;omega
  ·rcases AAd.1 hx with rfl|hx
   ·grind
   ·rw[h2];exact h.l1 j a b hjQ x hx r hr
 ·have hjQ:j∉Q:=λe=>hj (AAM _ e);rcases hnew j a b hj with⟨h1,h2,h3⟩|⟨h1,h2,h3⟩
  ·grind
  ·rcases h.l2 with e|e
   all_goals grind
theorem HS.step{C:Nat->Nat->Int}{n m i:Nat}{u v w ls fr u' v' ls':Nat->Int}{Q:Is}(h:HS C n m u v w ls fr Q)(hm:HM m i w)(hw0:w 0=(i:Int))(yt:i<=n){d:Int}{j1:Nat}
  (a1:1<=j1) (a2:j1<=m) (a3:j1∉Q) (hd:ls j1=d) (hmin:∀j,1<=j->j<=m->j∉Q->d<=ls j)
  (hu1:∀r:Nat,1<=r->r<=n->(∃b∈Q,w b=(r:Int))->u' r=u r+d)
  (hu2:∀r:Nat,1<=r->r<=n->¬(∃b∈Q,w b=(r:Int))->u' r=u r)
  (hv1:∀j,1<=j->j<=m->j∈Q->v' j=v j-d) (hv2:∀j,1<=j->j<=m->j∉Q->v' j=v j)
  (hl:∀j,1<=j->j<=m->j∉Q->ls' j=ls j-d):0<=d/\HG C n m u' v' w ls' fr Q j1:=by
 have rn:∀b∈Q,∀r:Nat,w b=(r:Int)->1<=r/\r<=n:=λb hb r hr=>by
  have h1:=h.qp b hb;refine⟨J,?_⟩;by_cases hb0:b=0
  ·grind
  ·have:=hm.fk b J (h.qm b hb);omega
 have hd0:0<=d:=by obtain⟨b,hb,_,r,p2,p3,p4⟩:=h.l2 j1 a1 a2 a3;obtain⟨r1,r2⟩:=rn b hb r p3;have:=h.hf.mz r j1 r1 r2 a1 a2;omega
 have inQ:∀j (r:Nat),1<=j->j<=m->j∉Q->1<=r->w j=(r:Int)->¬ ∃b∈Q,w b=(r:Int):=λj r c1 c2 c3 c4 c5=>by
  rintro ⟨b,hb,e⟩
  by_cases hb0:b=0
  ·subst hb0;have:=hm.fk j c1 c2;omega
  ·have:=hm.inj j b c1 c2 J (h.qm b hb) J J;grind
 have tq:∀a x,a∈Q->1<=a->x∈Q->Fr C u v w fr a x->Fr C u' v' w fr a x:=λa x ha ha1 hx hP=>by obtain⟨p1,r,p2,p3,p4⟩:=hP;obtain⟨r1,r2⟩:=rn x hx r p3;refine⟨p1,r,p2,p3,?_⟩;rw[hu1 r r1 r2 ⟨x,hx,p3⟩,hv1 a ha1 (h.qm a ha) ha];omega
 refine⟨hd0,⟨λr j r1 r2 j1 j2=>?_,λj c1 c2=>?_,λr c1 c2=>?_⟩,⟨λj r c1 c2 c3 c4=>?_,λj c1 c2 c3=>?_⟩,a2,AAa.2 ⟨a3,h.nd⟩,h.qm,h.qp,?_,λj c1 c2 hj b hb r hr=>?_,.inr λj c1 c2 hj=>?_⟩
 ·have hf:=h.hf.mz r j r1 r2 j1 j2;by_cases hr:∃b∈Q,w b=(r:Int)
  ·rw[hu1 r r1 r2 hr];by_cases hj:j∈Q
   ·grind
   ·obtain⟨b,hb,e⟩:=hr;have:=h.l1 j j1 j2 hj b hb r e;grind
  ·rw[hu2 r r1 r2 hr];by_cases hj:j∈Q
   all_goals grind
 ·have:=h.hf.qP j c1 c2;by_cases hj:j∈Q
  all_goals grind
 ·have:=h.hf.tO r c1 c2;by_cases hr:∃b∈Q,w b=(r:Int)
  ·grind
  ·rw[hu2 r c1 c2 hr];omega
 ·have ht:=h.ht.tight j r c1 c2 c3 c4;have:=hm.fk j c1 c2;have hrn:r<=n:=J
  by_cases hj:j∈Q
  ·grind
  ·rw[hv2 j c1 c2 hj,hu2 r c3 hrn (inQ j r c1 c2 hj c3 c4)];omega
 ·have hj:j∉Q:=λhj=>No
  rw[hv2 j c1 c2 hj,h.ht.free j c1 c2 c3]
 ·refine .inr ⟨a1,?_,?_⟩
  ·obtain⟨b,hb,p1,r,p2,p3,p4⟩:=h.l2 j1 a1 a2 a3;obtain⟨r1,r2⟩:=rn b hb r p3;refine⟨b,hb,p1,r,p2,p3,?_⟩;grind
  ·have key:∀(l:Is),(∀a∈l,a∈Q)->Ch (Fr C u v w fr) l->Ch (Fr C u' v' w fr) l:=by
    intro l
    induction l with
    |nil=>intro _ _;trivial
    |cons a l ih=>
     intro hs hc;rcases hc with hc|⟨h1,⟨x,hx,hP⟩,h3⟩
     ·exact .inl hc
     ·exact .inr ⟨h1,⟨x,hx,tq a x (hs a AAg) h1 (hs x (AAM _ hx)) hP⟩,ih (λb hb=>hs b (AAM _ hb)) h3⟩
   exact key Q (λa ha=>ha) h.ch
 ·obtain⟨r1,r2⟩:=rn b hb r hr;have:=h.l1 j c1 c2 hj b hb r hr;rw[hl j c1 c2 hj,hu1 r r1 r2 ⟨b,hb,hr⟩,hv2 j c1 c2 hj];omega
 ·obtain⟨b,hb,p1,r,p2,p3,p4⟩:=h.l2 j c1 c2 hj;obtain⟨r1,r2⟩:=rn b hb r p3;refine⟨b,hb,p1,r,p2,p3,?_⟩;grind
structure HA(C:Nat->Nat->Int)(m i:Nat)(u v fr w:Nat->Int)(j0:Nat)(Q:Is):Prop where
 nd:(j0::Q).Nodup
 lm:∀j∈j0::Q,j<=m
 ch:Ch (Fr C u v w fr) (j0::Q)
 inj:∀j k,j<=m->k<=m->j≠j0->k≠j0->w j=w k->0<w j->j=k
 qT:∀r:Nat,1<=r->r<=i->∃j,j<=m/\j≠j0/\w j=(r:Int)
 fk:∀j,j<=m->j≠j0->0<=w j/\w j<=(i:Int)
 tight:∀j (r:Nat),1<=j->j<=m->j≠j0->1<=r->w j=(r:Int)->u r+v j=C r j
 free:∀j,1<=j->j<=m->j≠j0->w j=0->v j=0
theorem HG.w5{n:Nat}{ls fr:Nat->Int}{Q:Is}{j0:Nat}(h:HG C n m u v w ls fr Q j0)(hm:HM m i w)(hw0:w 0=(i:Int))(h1:1<=i)(hj:w j0=0):HA C m i u v fr w j0 Q:=by
 have hj0:j0≠0:=λe=>No
 refine⟨h.nd,λj hj=>?_,h.ch,λj k a b c d e f=>?_,λr a b=>?_,λj a b=>?_,λj r a b _ c d=>h.ht.tight j r a b c d,λj a b _ c=>h.ht.free j a b c⟩
 ·rcases AAd.1 hj with rfl|hj
  ·exact h.tR
  ·exact h.qm j hj
 ·by_cases j00:j=0
  ·by_cases k00:k=0
   ·rw[j00,k00]
   ·subst j00;have:=hm.fk k J b;omega
  ·by_cases k00:k=0
   ·subst k00;have:=hm.fk j J a;omega
   ·exact hm.inj j k J a J b e f
 ·by_cases hr:r=i
  ·grind
  ·obtain⟨j,a1,a2,a3⟩:=hm.qT r a J;grind
 ·by_cases j00:j=0
  ·grind
  ·have:=hm.fk j J a;omega
theorem HA.next{fr:Nat->Int}{j0:Nat}{Q:Is}(h:HA C m i u v fr w j0 Q)(hj:1<=j0):∃x Q',fr j0=((x:Nat):Int)/\x<=m/\Q'.length<Q.length/\x≠j0/\
  ∀w':Nat->Int,(w' j0=w x)->(∀j,j<=m->j≠j0->w' j=w j)->HA C m i u v fr w' x Q':=by
 rcases h.ch with⟨h0,_⟩|⟨_,⟨x,hx,hP⟩,hc⟩
 ·omega
 obtain⟨p1,r,p2,p3,p4⟩:=hP;obtain⟨pre,Q',hQ⟩:=List.append_of_mem hx;obtain⟨n1,n2⟩:=AAa.1 h.nd;have hxj:x≠j0:=λe=>n1 (e▸hx);have hxm:x<=m:=h.lm x (AAM _ hx);have sub:∀j∈x::Q',j∈Q:=λj hj=>No
 refine⟨x,Q',p1,hxm,No,hxj,λw' e1 e2=>⟨?_,λj hj=>h.lm j (AAM _ (sub j hj)),?_,λj k a b c d e f=>?_,λs a b=>?_,λj a b=>?_,λj s a b c d e=>?_,λj a b c d=>?_⟩⟩
 ·grind
 ·have hc2:Ch (Fr C u v w fr) (x::Q'):=by rw[hQ]at hc;exact Ch.drop hc
  refine hc2.mono λa y ha hy hP=>?_;obtain⟨q1,s,q2,q3,q4⟩:=hP;have hyj:y≠j0:=λe=>n1 (e▸sub y hy);exact⟨q1,s,q2,by rw[e2 y (h.lm y (AAM _ (sub y hy))) hyj,q3],q4⟩
 ·by_cases hj0:j=j0
  ·by_cases hk0:k=j0
   ·rw[hj0,hk0]
   ·rw[hj0,e1,e2 k b hk0]at e;rw[hj0,e1]at f;exact absurd (h.inj x k hxm b hxj hk0 e f).symm d
  ·by_cases hk0:k=j0
   ·rw[hk0,e1,e2 j a hj0]at e;rw[e2 j a hj0]at f;exact absurd (h.inj j x a hxm hj0 hxj e f) c
   ·rw[e2 j a hj0,e2 k b hk0]at e;rw[e2 j a hj0]at f;exact h.inj j k a b hj0 hk0 e f
 ·obtain⟨j,a1,a2,a3⟩:=h.qT s a b;by_cases hjx:j=x
  ·exact⟨j0,h.lm j0 AAg,λe=>hxj e.symm,by rw[e1,<-hjx,a3]⟩
  grind
 ·by_cases hj0:j=j0
  ·rw[hj0,e1];exact h.fk x hxm hxj
  ·rw[e2 j a hj0];exact h.fk j a hj0
 ·by_cases hj0:j=j0
  ·grind
  ·rw[e2 j b hj0]at e;exact h.tight j s a b hj0 d e
 ·by_cases hj0:j=j0
  ·grind
  ·rw[e2 j b hj0]at d;exact h.free j a b hj0 d
theorem HA.done{fr:Nat->Int}{Q:Is}(h:HA C m i u v fr w 0 Q):HM m (i+1) w/\HT C m u v w:=
 ⟨⟨λj a b=>by have:=h.fk j b J;omega,λj k a b c d e f=>h.inj j k b d J J e f,λr a b=>by
   obtain⟨j,a1,a2,a3⟩:=h.qT r a J;grind⟩,⟨λj r a b c d=>h.tight j r a b J c d,λj a b c=>h.free j a b J c⟩⟩
def ga(l:By)(i:Nat):Int:=l.getD i 0
theorem Tm{l:By}(h:i<l.length):l[i]?=some (ga l i):=by unfold ga;grind
theorem VX{l:By}(h:i<l.length)(x:Int)(j:Nat):ga (l.set i x) j=if j=i then x else ga l j:=by unfold ga;grind
theorem Y3(m:Nat)(x:Int)(j:Nat)(h:j<m):ga (List.replicate m x) j=x:=by unfold ga;grind
structure CM(a0:List By)(m:Nat):Prop where
 row:∀r∈a0,r.length=m
 nm:a0.length<=m
 m10:m<=10
 NC:∀r∈a0,∀x∈r,0<=x/\x<=100000
def cC(a0:List By)(r j:Nat):Int:=ga (a0.getD (r-1) []) (j-1)
theorem CM.at(h:CM a0 m){r:Nat}(r1:1<=r)(r2:r<=a0.length)(j1:1<=j)(j2:j<=m):
  ∃l,JQ a0 (Pn ((r:Int)-1))=some l/\JQ l (Pn ((j:Int)-1))=some (cC a0 r j)/\0<=cC a0 r j/\cC a0 r j<=100000:=by
 have hm:=h.m10;have hn:=h.nm;have hr:r-1<a0.length:=J
 have e1:Pn ((r:Int)-1)=((r-1:Nat):Int):=by rw[Pr J J];omega
 have e2:Pn ((j:Int)-1)=((j-1:Nat):Int):=by rw[Pr J J];omega
 have hl:=h.row _ (ABW hr);have hj:j-1<a0[r-1].length:=J
 have e3:cC a0 r j=a0[r-1][j-1]:=by unfold cC ga;rw[List.getD,List.getD,AAI hr,AA8,AAI hj];rfl
 refine⟨a0[r-1],by rw[e1,Pk hr],by rw[e2,Pk hj,e3],?_⟩;rw[e3];exact h.NC _ (ABW hr) _ (ABW hj)
theorem HM.congr{w':Nat->Int}(h:HM m i w)(e:∀j,1<=j->j<=m->w' j=w j):HM m i w':=
 ⟨λj a b=>by rw[e j a b];exact h.fk j a b,λj k a b c d=>by rw[e j a b,e k c d];exact h.inj j k a b c d,λr a b=>by
  obtain⟨j,p,q,s⟩:=h.qT r a b;grind⟩
theorem HT.congr{w':Nat->Int}(h:HT C m u v w)(e:∀j,1<=j->j<=m->w' j=w j):HT C m u v w':=
 ⟨λj r a b c d=>h.tight j r a b c No,λj a b c=>h.free j a b No⟩
theorem j7(m:Nat)(hm:m<=10)(n:Nat)(hn:Ps<=n):iter n (T5 (m:Int)) (0,List.replicate (m+1) 0)=some (((m+1:Nat):Int),List.replicate (m+1) 1099511627776):=by
 have:=P8 (T5 (m:Int)) (λi=>((i:Int),List.replicate i 1099511627776++List.replicate (m+1-i) 0)) (m+1) (((m+1:Nat):Int),List.replicate (m+1) 1099511627776) (λi hi=>by
  have hd:decide ((i:Int)<=(m:Int))=true:=by rw[AAf];omega
  have hl:i<(List.replicate i (1099511627776:Int)++List.replicate (m+1-i) 0).length:=ADg
  simp only[T5,hd,ABU,Po hl,ABX,QX,Pj hi J];congr 3;rw[ACI _ _ OF,List.length_replicate,ACW,show m+1-i=(m+1-(i+1))+1 by omega,List.replicate_succ,ACY,ACS (n:=i)];simp) (by
  have hd:decide (((m+1:Nat):Int)<=(m:Int))=false:=by rw[AAl];omega
  simp only[T5,hd,ABV];simp) n ADd
 grind
theorem iw{a0:List By}{m i:Nat}(hc:CM a0 m){u v ls fr w:By}{us:ADp}{Q:Is}{j0 i0:Nat}(hj0:j0<=m)
  (lu:u.length=a0.length+1) (lv:v.length=m+1) (ll:ls.length=m+1) (lf:fr.length=m+1)
  (hus:∀k,k<=m->(us.set j0 true)[k]?=some (decide (k∈j0::Q))) (hlu:us.length=m+1)
  (hi1:1<=i0) (hi2:i0<=a0.length) (hub:0<=ga u i0/\ga u i0<=100000) (hvb:∀j,1<=j->j<=m -> -100000<=ga v j/\ga v j<=0)
  (n:Nat) (hn:Ps<=n):
  ∃(d:Int) (j1:Nat) (ls' fr':By),iter n (Q3 a0 (m:Int) ((j0:Int),u,v,ls,fr,us) (i0:Int)) (1099511627776,0,1,ls,fr)=some (d,(j1:Int),((m+1:Nat):Int),ls',fr')/\
   ls'.length=m+1/\fr'.length=m+1/\(∀k,k<=m->k∈j0::Q->ga fr' k=ga fr k)/\
   (∀k,1<=k->k<=m->k∉j0::Q->(cC a0 i0 k-ga u i0-ga v k<ga ls k/\ga ls' k=cC a0 i0 k-ga u i0-ga v k/\ga fr' k=(j0:Int))\/(¬cC a0 i0 k-ga u i0-ga v k<ga ls k/\ga ls' k=ga ls k/\ga fr' k=ga fr k))/\
   (∀k,1<=k->k<=m->k∉j0::Q->d<=ga ls' k)/\((∀k,1<=k->k<=m->k∈j0::Q)\/(1<=j1/\j1<=m/\j1∉j0::Q/\ga ls' j1=d)):=by
 have hm:=hc.m10
 obtain⟨z,⟨d,j1,ls',fr',e,h1⟩,h2⟩:=Ys (f:=Q3 a0 (m:Int) ((j0:Int),u,v,ls,fr,us) (i0:Int))
  (λx=>∃(d:Int) (j1 j:Nat) (ls' fr':By),x=(d,(j1:Int),(j:Int),ls',fr')/\1<=j/\j<=m+1/\ls'.length=m+1/\fr'.length=m+1/\
   (∀k,j<=k->k<=m->ga ls' k=ga ls k/\ga fr' k=ga fr k)/\(∀k,k<=m->k∈j0::Q->ga fr' k=ga fr k)/\
   (∀k,1<=k->k<j->k∉j0::Q->(cC a0 i0 k-ga u i0-ga v k<ga ls k/\ga ls' k=cC a0 i0 k-ga u i0-ga v k/\ga fr' k=(j0:Int))\/(¬cC a0 i0 k-ga u i0-ga v k<ga ls k/\ga ls' k=ga ls k/\ga fr' k=ga fr k))/\
   (∀k,1<=k->k<j->k∉j0::Q->d<=ga ls' k)/\((d=1099511627776/\∀k,1<=k->k<j->k∈j0::Q)\/(1<=j1/\j1<j/\j1∉j0::Q/\ga ls' j1=d)))
  (λz=>∃(d:Int) (j1:Nat) (ls' fr':By),z=(d,(j1:Int),((m+1:Nat):Int),ls',fr')/\ls'.length=m+1/\fr'.length=m+1/\(∀k,k<=m->k∈j0::Q->ga fr' k=ga fr k)/\
   (∀k,1<=k->k<=m->k∉j0::Q->(cC a0 i0 k-ga u i0-ga v k<ga ls k/\ga ls' k=cC a0 i0 k-ga u i0-ga v k/\ga fr' k=(j0:Int))\/(¬cC a0 i0 k-ga u i0-ga v k<ga ls k/\ga ls' k=ga ls k/\ga fr' k=ga fr k))/\
   (∀k,1<=k->k<=m->k∉j0::Q->d<=ga ls' k)/\((∀k,1<=k->k<=m->k∈j0::Q)\/(1<=j1/\j1<=m/\j1∉j0::Q/\ga ls' j1=d)))
  (λx=>m+1-x.2.2.1.toNat) (λx hx=>by
   obtain⟨d,j1,j,ls',fr',rfl,b1,b2,l1,l2,g1,g2,g3,g4,g5⟩:=hx;by_cases hj:j=m+1
   ·left;have hd:decide ((j:Int)<=(m:Int))=false:=by rw[AAl];omega
    refine⟨(d,(j1:Int),(j:Int),ls',fr'),by simp only[Q3,hd,ABV],d,j1,ls',fr',by rw[hj],l1,l2,g2,λk a b c=>g3 k a J c,λk a b c=>g4 k a J c,?_⟩;rcases g5 with⟨_,g5⟩|⟨p1,p2,p3,p4⟩
    ·exact .inl λk a b=>g5 k a J
    ·exact .inr ⟨p1,J,p3,p4⟩
   ·right;have hjm:j<=m:=J
    have hd:decide ((j:Int)<=(m:Int))=true:=by rw[AAf];omega
    have hu1:=hus j hjm;have hul:j<(us.set j0 true).length:=ADg
    have hw:Pn ((j:Int)+1)=((j+1:Nat):Int):=Pj (show j<m+1 by omega) J;have hmu:m+1-((j+1:Nat):Int).toNat<m+1-((j:Nat):Int).toNat:=J
    by_cases hQ:j∈j0::Q
    ·rw[ABZ hQ]at hu1;refine⟨(d,(j1:Int),((j+1:Nat):Int),ls',fr'),?_,⟨d,j1,j+1,ls',fr',rfl,J,J,l1,l2,λk a b=>g1 k J b,g2,λk a b c=>g3 k a ?_ c,λk a b c=>g4 k a ?_ c,?_⟩,hmu⟩
     ·simp only[Q3,hd,ABU,ABX,QX,Po hul,hu1,ABT,hw]
     ·by_cases e:k=j
      ·exact absurd (e▸hQ) c
      ·omega
     ·by_cases e:k=j
      ·exact absurd (e▸hQ) c
      ·omega
     ·rcases g5 with⟨p1,p2⟩|⟨p1,p2,p3,p4⟩
      ·refine .inl ⟨p1,λk a b=>?_⟩;by_cases e:k=j
       ·rw[e];exact hQ
       ·exact p2 k a J
      ·exact .inr ⟨p1,J,p3,p4⟩
    ·rw[ABd hQ]at hu1;obtain⟨l,c1,c2,c3,c4⟩:=hc.at hi1 hi2 b1 hjm;have hvj:=hvb j b1 hjm
     have hcur:Pn (Pn (cC a0 i0 j-ga u i0)-ga v j)=cC a0 i0 j-ga u i0-ga v j:=by rw[Pr (n:=cC a0 i0 j-ga u i0) J J];exact Pr J J
     have i1:O3 u (i0:Int)=true:=Po J;have i2:O3 v (j:Int)=true:=Po J;have i3:O3 ls' (j:Int)=true:=Po J;have i4:O3 fr' (j:Int)=true:=Po J;have e1:=Tm (l:=u) (i:=i0) J;have e2:=Tm (l:=v) (i:=j) J;have e3:=Tm (l:=ls') (i:=j) J;obtain⟨g1a,g1b⟩:=g1 j (AAc _) hjm;generalize zW:cC a0 i0 j-ga u i0-ga v j=cur at hcur;have hcb:cur<=200000:=J
     have key:∀(ls2 fr2:By),ls2.length=m+1->fr2.length=m+1->(∀k,k≠j->ga ls2 k=ga ls' k/\ga fr2 k=ga fr' k)->
       ((cur<ga ls j/\ga ls2 j=cur/\ga fr2 j=(j0:Int))\/(¬cur<ga ls j/\ga ls2 j=ga ls j/\ga fr2 j=ga fr j))->(∀d2 j2,(ga ls2 j<d/\d2=ga ls2 j/\j2=j\/¬ga ls2 j<d/\d2=d/\j2=j1)->
       ∃(d':Int) (j1' j':Nat) (ls' fr':By),(d2,((j2:Nat):Int),((j+1:Nat):Int),ls2,fr2)=(d',(j1':Int),(j':Int),ls',fr')/\1<=j'/\j'<=m+1/\ls'.length=m+1/\fr'.length=m+1/\
   (∀k,j'<=k->k<=m->ga ls' k=ga ls k/\ga fr' k=ga fr k)/\(∀k,k<=m->k∈j0::Q->ga fr' k=ga fr k)/\
   (∀k,1<=k->k<j'->k∉j0::Q->(cC a0 i0 k-ga u i0-ga v k<ga ls k/\ga ls' k=cC a0 i0 k-ga u i0-ga v k/\ga fr' k=(j0:Int))\/(¬cC a0 i0 k-ga u i0-ga v k<ga ls k/\ga ls' k=ga ls k/\ga fr' k=ga fr k))/\
   (∀k,1<=k->k<j'->k∉j0::Q->d'<=ga ls' k)/\((d'=1099511627776/\∀k,1<=k->k<j'->k∈j0::Q)\/(1<=j1'/\j1'<j'/\j1'∉j0::Q/\ga ls' j1'=d'))):=by
      intro ls2 fr2 q1 q2 q3 q4 d2 j2 q5;refine⟨d2,j2,j+1,ls2,fr2,rfl,J,J,q1,q2,λk a b=>?_,λk a b=>?_,λk a b c=>?_,λk a b c=>?_,?_⟩
      ·rw[(q3 k J).1,(q3 k J).2];exact g1 k J b
      ·have zD:k≠j:=λe=>hQ (e▸b);rw[(q3 k zD).2];exact g2 k a b
      ·by_cases e:k=j
       ·subst e;rw[zW];exact q4
       ·rw[(q3 k e).1,(q3 k e).2];exact g3 k a J c
      ·by_cases e:k=j
       ·subst e;rcases q5 with⟨p1,p2,p3⟩|⟨p1,p2,p3⟩<;>omega
       ·rw[(q3 k e).1];have:=g4 k a J c;rcases q5 with⟨p1,p2,p3⟩|⟨p1,p2,p3⟩<;>omega
      ·have zA:ga ls2 j<=200000:=by rcases q4 with⟨p1,p2,_⟩|⟨p1,p2,_⟩<;>omega
       rcases q5 with⟨p1,p2,p3⟩|⟨p1,p2,p3⟩
       ·exact .inr ⟨J,J,by rw[p3];exact hQ,by rw[p3,p2]⟩
       ·rcases g5 with⟨r1,r2⟩|⟨r1,r2,r3,r4⟩
        ·omega
        ·exact .inr ⟨J,J,by rw[p3];exact r3,by rw[p3,p2,(q3 j1 J).1,r4]⟩
     by_cases hcl:cur<ga ls j
     ·have hcl':decide (cur<ga ls' j)=true:=by rw[AAf,g1a];exact hcl
      have il:O3 (ls'.set j cur) (j:Int)=true:=Po ADg;have el:(ls'.set j cur)[j]?=some cur:=by rw[ACP J]
      have kk:=key (ls'.set j cur) (fr'.set j (j0:Int)) (by simp[l1]) (by simp[l2]) (λk hk=>⟨by rw[VX J,AAQ hk],by rw[VX J,AAQ hk]⟩) (.inl ⟨hcl,by rw[VX J,AAP rfl],by rw[VX J,AAP rfl]⟩);rw[VX J,AAP rfl]at kk;by_cases hdl:cur<d
      ·refine⟨(cur,(j:Int),((j+1:Nat):Int),ls'.set j cur,fr'.set j (j0:Int)),?_,kk cur j (.inl ⟨hdl,rfl,rfl⟩),hmu⟩;simp only[Q3,hd,ABU,ABX,QX,Po hul,hu1,ABT,hw,ABV,c1,c2,i1,i2,i3,i4,e1,e2,e3,hcur,hcl',il,el,ABZ hdl]
      ·refine⟨(d,(j1:Int),((j+1:Nat):Int),ls'.set j cur,fr'.set j (j0:Int)),?_,kk d j1 (.inr ⟨hdl,rfl,rfl⟩),hmu⟩;simp only[Q3,hd,ABU,ABX,QX,Po hul,hu1,ABT,hw,ABV,c1,c2,i1,i2,i3,i4,e1,e2,e3,hcur,hcl',il,el,ABd hdl]
     ·have hcl':decide (cur<ga ls' j)=false:=by rw[AAl,g1a];exact hcl
      have kk:=key ls' fr' l1 l2 (λk hk=>⟨rfl,rfl⟩) (.inr ⟨hcl,g1a,g1b⟩);by_cases hdl:ga ls' j<d
      ·refine⟨(ga ls' j,(j:Int),((j+1:Nat):Int),ls',fr'),?_,kk (ga ls' j) j (.inl ⟨hdl,rfl,rfl⟩),hmu⟩;simp only[Q3,hd,ABU,ABX,QX,Po hul,hu1,ABT,hw,ABV,c1,c2,i1,i2,i3,i4,e1,e2,e3,hcur,hcl',ABZ hdl]
      ·refine⟨(d,(j1:Int),((j+1:Nat):Int),ls',fr'),?_,kk d j1 (.inr ⟨hdl,rfl,rfl⟩),hmu⟩;simp only[Q3,hd,ABU,ABX,QX,Po hul,hu1,ABT,hw,ABV,c1,c2,i1,i2,i3,i4,e1,e2,e3,hcur,hcl',ABd hdl])
  n (1099511627776,0,1,ls,fr) ⟨1099511627776,0,1,ls,fr,rfl,AAc _,J,ll,lf,λk _ _=>⟨rfl,rfl⟩,λk _ _=>rfl,λk a b=>J,λk a b=>J,.inl ⟨rfl,λk a b=>J⟩⟩ (by show m+1-(1:Int).toNat<n;unfold Ps at hn;omega)
 grind
theorem kA{N m i:Nat}{u v ls w:By}{us:ADp}{Q:Is}{j0:Nat}(hm:m<=10)(fr0:By)(x16:Int×Int×Int×By×By)
  (lu:u.length=N+1) (lv:v.length=m+1) (ll:ls.length=m+1) (lw:w.length=m+1)
  (hus:∀k,k<=m->(us.set j0 true)[k]?=some (decide (k∈j0::Q))) (hlu:us.length=m+1)
  (hw:∀k,k<=m->k∈j0::Q->1<=ga w k/\ga w k<=N) (hinj:∀k b,k<=m->b<=m->k∈j0::Q->b∈j0::Q->ga w k=ga w b->k=b)
  (hd:0<=x16.1/\x16.1<=200000) (hub:∀r,1<=r->r<=N->0<=ga u r/\ga u r<=100000) (hvb:∀j,1<=j->j<=m -> -100000<=ga v j/\ga v j<=0)
  (hlb:∀k,1<=k->k<=m->k∉j0::Q->0<=ga ls k/\ga ls k<=200000) (ls0:By) (h0:0∈j0::Q)
  (n:Nat) (hn:Ps<=n):
  ∃(u' v' ls':By),iter n (Sq w (m:Int) ((j0:Int),u,v,ls0,fr0,us) x16) (0,u,v,ls)=some (((m+1:Nat):Int),u',v',ls')/\
   u'.length=N+1/\v'.length=m+1/\ls'.length=m+1/\
   (∀r:Nat,1<=r->r<=N->(∃b∈j0::Q,b<=m/\ga w b=(r:Int))->ga u' r=ga u r+x16.1)/\
   (∀r:Nat,1<=r->r<=N->¬(∃b∈j0::Q,b<=m/\ga w b=(r:Int))->ga u' r=ga u r)/\
   (∀j,1<=j->j<=m->j∈j0::Q->ga v' j=ga v j-x16.1)/\(∀j,1<=j->j<=m->j∉j0::Q->ga v' j=ga v j)/\
   (∀j,1<=j->j<=m->j∉j0::Q->ga ls' j=ga ls j-x16.1):=by
 obtain⟨z,⟨j,u',v',ls',e,hje,h1⟩,h2⟩:=Ys (f:=Sq w (m:Int) ((j0:Int),u,v,ls0,fr0,us) x16)
  (λx=>∃(j:Nat) (u' v' ls':By),x=((j:Int),u',v',ls')/\j<=m+1/\u'.length=N+1/\v'.length=m+1/\ls'.length=m+1/\
   (∀r:Nat,1<=r->r<=N->(∃b∈j0::Q,b<j/\ga w b=(r:Int))->ga u' r=ga u r+x16.1)/\
   (∀r:Nat,1<=r->r<=N->¬(∃b∈j0::Q,b<j/\ga w b=(r:Int))->ga u' r=ga u r)/\
   (∀k,1<=k->k<=m->k∈j0::Q->ga v' k=if k<j then ga v k-x16.1 else ga v k)/\(∀k,1<=k->k<=m->k∉j0::Q->ga v' k=ga v k)/\
   (∀k,1<=k->k<=m->k∉j0::Q->ga ls' k=if k<j then ga ls k-x16.1 else ga ls k))
  (λx=>∃(j:Nat) (u' v' ls':By),x=((j:Int),u',v',ls')/\j=m+1/\u'.length=N+1/\v'.length=m+1/\ls'.length=m+1/\
   (∀r:Nat,1<=r->r<=N->(∃b∈j0::Q,b<j/\ga w b=(r:Int))->ga u' r=ga u r+x16.1)/\
   (∀r:Nat,1<=r->r<=N->¬(∃b∈j0::Q,b<j/\ga w b=(r:Int))->ga u' r=ga u r)/\
   (∀k,1<=k->k<=m->k∈j0::Q->ga v' k=if k<j then ga v k-x16.1 else ga v k)/\(∀k,1<=k->k<=m->k∉j0::Q->ga v' k=ga v k)/\
   (∀k,1<=k->k<=m->k∉j0::Q->ga ls' k=if k<j then ga ls k-x16.1 else ga ls k))
  (λx=>m+1-x.1.toNat) (λx hx=>by
   obtain⟨j,u',v',ls',rfl,b,l1,l2,l3,g1,g2,g3,g4,g5⟩:=hx;by_cases hj:j=m+1
   ·left;have hdd:decide ((j:Int)<=(m:Int))=false:=by rw[AAl];omega
    exact⟨((j:Int),u',v',ls'),by simp only[Sq,hdd,ABV],j,u',v',ls',rfl,hj,l1,l2,l3,g1,g2,g3,g4,g5⟩
   ·right;have hjm:j<=m:=J
    have hdd:decide ((j:Int)<=(m:Int))=true:=by rw[AAf];omega
    have hu1:=hus j hjm;have hul:j<(us.set j0 true).length:=ADg
    have hw1:Pn ((j:Int)+1)=((j+1:Nat):Int):=Pj (show j<m+1 by omega) J;have hmu:m+1-((j+1:Nat):Int).toNat<m+1-((j:Nat):Int).toNat:=J
    by_cases hQ:j∈j0::Q
    ·rw[ABZ hQ]at hu1;obtain⟨w1,w2⟩:=hw j hjm hQ;obtain⟨r,hr⟩:∃r:Nat,ga w j=(r:Int):=⟨(ga w j).toNat,J⟩;have i1:O3 w (j:Int)=true:=Po J;have i2:O3 u' (r:Int)=true:=Po J;have i3:O3 v' (j:Int)=true:=Po J;have e1:=Tm (l:=w) (i:=j) J;rw[hr]at e1;have e2:=Tm (l:=u') (i:=r) J;have e3:=Tm (l:=v') (i:=j) J
     have hnb:¬ ∃b∈j0::Q,b<j/\ga w b=(r:Int):=by
      rintro ⟨b,hb,zA,e⟩
      have:=hinj b j J hjm hb hQ J;omega
     have zG:=g2 r J J hnb;have hub':=hub r J J;refine⟨(((j+1:Nat):Int),u'.set r (Pn (ga u' r+x16.1)),v'.set j (Pn (ga v' j-x16.1)),ls'),?_,⟨j+1,u'.set r (Pn (ga u' r+x16.1)),v'.set j (Pn (ga v' j-x16.1)),ls',rfl,J,by simp[l1],by simp[l2],l3,λs s1 s2 hs=>?_,λs s1 s2 hs=>?_,λk k1 k2 hk=>?_,λk k1 k2 hk=>?_,λk k1 k2 hk=>?_⟩,hmu⟩
     ·simp only[Sq,hdd,ABU,ABX,QX,Po hul,hu1,ABT,hw1,i1,i2,i3,e1,e2,e3]
     ·rw[VX J];by_cases e:s=r
      ·rw[AAP e,e,Pr J J];omega
      ·rw[AAQ e];obtain⟨b,hb,zA,eb⟩:=hs;have hbj:b≠j:=λe2=>by rw[e2,hr]at eb;omega
       exact g1 s s1 s2 ⟨b,hb,J,eb⟩
     ·have e:s≠r:=λe=>hs ⟨j,hQ,J,by rw[hr,e]⟩;rw[VX J,AAQ e];exact g2 s s1 s2 λ⟨b,hb,zA,eb⟩=>hs ⟨b,hb,J,eb⟩
     ·rw[VX J];by_cases e:k=j
      ·have h3:=g3 k k1 k2 hk;rw[AAQ J]at h3;have:=hvb k k1 k2;rw[AAP e,AAP J,<-e,h3,Pr J J]
      ·rw[AAQ e,g3 k k1 k2 hk];by_cases e2:k<j
       ·rw[AAP e2,AAP J]
       ·rw[AAQ e2,AAQ J]
     ·have e:k≠j:=λe=>hk (e▸hQ);rw[VX J,AAQ e];exact g4 k k1 k2 hk
     ·have e:k≠j:=λe=>hk (e▸hQ);rw[g5 k k1 k2 hk];by_cases e2:k<j
      ·rw[AAP e2,AAP J]
      ·rw[AAQ e2,AAQ J]
    ·rw[ABd hQ]at hu1
     have hj1:1<=j:=by
      rcases ACX j with e|e
      ·exact absurd (e▸h0) hQ
      ·exact e
     have i3:O3 ls' (j:Int)=true:=Po J;have e3:=Tm (l:=ls') (i:=j) J;have h5:=g5 j hj1 hjm hQ;rw[AAQ J]at h5;have hlb':=hlb j hj1 hjm hQ
     have sm:∀r:Nat,(∃b∈j0::Q,b<j+1/\ga w b=(r:Int))↔∃b∈j0::Q,b<j/\ga w b=(r:Int):=λr=>
      ⟨λ⟨b,hb,h1,h2⟩=>⟨b,hb,by
       have:b≠j:=λe=>hQ (e▸hb);omega,h2⟩,λ⟨b,hb,h1,h2⟩=>⟨b,hb,J,h2⟩⟩
     refine⟨(((j+1:Nat):Int),u',v',ls'.set j (Pn (ga ls' j-x16.1))),?_,⟨j+1,u',v',ls'.set j (Pn (ga ls' j-x16.1)),rfl,J,l1,l2,by simp[l3],λs s1 s2 hs=>g1 s s1 s2 ((sm s).1 hs),λs s1 s2 hs=>g2 s s1 s2 λh=>hs ((sm s).2 h),λk k1 k2 hk=>?_,g4,λk k1 k2 hk=>?_⟩,hmu⟩
     ·simp only[Sq,hdd,ABU,ABV,ABX,QX,Po hul,hu1,ABT,hw1,i3,e3]
     ·have e:k≠j:=λe=>hQ (e▸hk);rw[g3 k k1 k2 hk];by_cases e2:k<j
      ·rw[AAP e2,AAP J]
      ·rw[AAQ e2,AAQ J]
     ·rw[VX J];by_cases e:k=j
      ·rw[AAP e,AAP J,e,h5,Pr J J]
      ·rw[AAQ e,g5 k k1 k2 hk];by_cases e2:k<j
       ·rw[AAP e2,AAP J]
       ·rw[AAQ e2,AAQ J])
  n (0,u,v,ls) ⟨0,u,v,ls,rfl,J,lu,lv,ll,λr _ _ h=>by obtain⟨b,_,hb,_⟩:=h;omega,λr _ _ _=>rfl,λk _ _ _=>by rw[AAQ J],λk _ _ _=>rfl,λk _ _ _=>by rw[AAQ J]⟩ (by show m+1-(0:Int).toNat<n;unfold Ps at hn;omega)
 obtain⟨l1,l2,l3,g1,g2,g3,g4,g5⟩:=h1;subst hje;refine⟨u',v',ls',by rw[h2,e],l1,l2,l3,λr r1 r2 ⟨b,hb,hbm,eb⟩=>g1 r r1 r2 ⟨b,hb,J,eb⟩,λr r1 r2 h=>g2 r r1 r2 λ⟨b,hb,hbm,eb⟩=>h ⟨b,hb,J,eb⟩,λj j1 j2 hj=>?_,g4,λj j1 j2 hj=>?_⟩
 all_goals grind
theorem UJ{α γ:Type}{f:α->Option (α⊕γ)}(R:Nat->α->Prop)(S:γ->Prop)
  (h:∀k x,R k x->(∃z,f x=some (.inr z)/\S z)\/(∃x' k',f x=some (.inl x')/\R k' x'/\k'<k)):
  ∀n k x,R k x->k<n->∃z,S z/\iter n f x=some z:=by
 intro n
 induction n with
 |zero=>omega
 |succ n ih=>
  intro k x hR hn;rcases h k x hR with⟨z,h1,h3⟩|⟨x',k',h1,h3,h4⟩
  ·exact⟨z,h3,QO h1 n⟩
  ·obtain⟨z,h5,h6⟩:=ih k' x' h3 J;exact⟨z,h5,(S4 h1 n).trans h6⟩
theorem Ch.zero{P:Nat->Nat->Prop}:∀ {a:Nat} {l:Is},Ch P (a::l)->0∈a::l
 |a,[],h=>by
  rcases h with⟨h,_⟩|⟨_,⟨x,hx,_⟩,_⟩
  all_goals grind
 |a,b::l,h=>by
  rcases h with⟨_,h⟩|⟨_,_,h⟩
  ·cases h
  ·exact AAM _ (Ch.zero h)
theorem ix{a0:List By}{m i:Nat}(hc:CM a0 m){w:By}(lw:w.length=m+1)(hm:HM m i (ga w))(hw0:ga w 0=(i:Int))(h1i:1<=i)(hiN:i<=a0.length)(n:Nat)(hn:Ps<=n)
  {u v ls fr:By} {us:ADp} {j0:Nat} {Q:Is} (lu:u.length=a0.length+1) (lv:v.length=m+1) (ll:ls.length=m+1) (lf:fr.length=m+1) (pJ:us.length=m+1)
  (hG:HG (cC a0) a0.length m (ga u) (ga v) (ga w) (ga ls) (ga fr) Q j0) (hu:∀k,k<=m->us[k]?=some (decide (k∈Q))) (p9:1<=ga w j0) (hfar:Q=[]->∀k,k<=m->ga ls k=1099511627776):
  ∃(j1:Nat) (u' v' ls' fr':By),u'.length=a0.length+1/\v'.length=m+1/\ls'.length=m+1/\fr'.length=m+1/\HG (cC a0) a0.length m (ga u') (ga v') (ga w) (ga ls') (ga fr') (j0::Q) j1/\
   (∀k,k<=m->(us.set j0 true)[k]?=some (decide (k∈j0::Q)))/\0<=ga w j1/\(j0::Q).length<=m+1/\
   Sp n a0 w (m:Int) ((j0:Int),u,v,ls,fr,us)=bif ga w j1==0 then some (.inr ((j1:Int),u',v',ls',fr',us.set j0 true))else some (.inl ((j1:Int),u',v',ls',fr',us.set j0 true)):=by
 have hm10:=hc.m10;have hnm:=hc.nm;have hj0:=hG.tR
 obtain⟨bu,bv⟩:=hG.hf.NC hG.ht hm h1i J hiN (M:=100000) (λr j r1 r2 j1 j2=>by
  obtain⟨_,_,_,p,q⟩:=hc.at r1 r2 j1 j2;omega)
 have wle:∀k,k<=m->ga w k<=(a0.length:Int):=λk hk=>by
  by_cases e:k=0
  ·grind
  ·have:=hm.fk k ADb hk;omega
 obtain⟨i0,hi0⟩:∃i0:Nat,ga w j0=(i0:Int):=⟨(ga w j0).toNat,J⟩;have hi01:1<=i0:=ADb
 have hi02:i0<=a0.length:=by have:=wle j0 hj0;clear hn;omega
 have hset:∀k,k<=m->(us.set j0 true)[k]?=some (decide (k∈j0::Q)):=λk hk=>No
 obtain⟨d,j1,ls',fr',s1,l1,l2,s2,s3,s4,s5⟩:=iw (i:=i) hc (w:=w) hj0 lu lv ll lf hset pJ hi01 hi02 (bu i0 hi01 hi02) bv n hn
 have hfar2:Q=[]->∀j,1<=j->j<=m->cC a0 i0 j-ga u i0-ga v j<ga ls j:=λe j a b=>by rw[hfar e j b];obtain⟨_,_,_,p,q⟩:=hc.at hi01 hi02 a b;grind
 have hS:HS (cC a0) a0.length m (ga u) (ga v) (ga w) (ga ls') (ga fr') (j0::Q):=hG.scan hi01 hi0 hfar2 s2 s3
 have rN:∀b∈j0::Q,∀r:Nat,ga w b=(r:Int)->1<=r/\r<=a0.length:=λb hb r hr=>by have:=hS.qp b hb;have:=wle b (hS.qm b hb);omega
 have hlb:∀k,1<=k->k<=m->k∉j0::Q->0<=ga ls' k/\ga ls' k<=200000:=λk a b c=>by obtain⟨q,hq,_,r,r1,r2,r3⟩:=hS.l2 k a b c;obtain⟨p1,p2⟩:=rN q hq r r2;have:=hS.hf.mz r k p1 p2 a b;obtain⟨_,_,_,p,q⟩:=hc.at p1 p2 a b;have:=bu r p1 p2;have:=bv k a b;omega
 rcases s5 with s5|⟨a1,a2,a3,a4⟩
 ·obtain⟨f,f1,f2,f3⟩:=hm.open h1i ADb;grind
 have hdb:=hlb j1 a1 a2 a3;rw[a4]at hdb
 have hinj:∀k b,k<=m->b<=m->k∈j0::Q->b∈j0::Q->ga w k=ga w b->k=b:=λk b c1 c2 c3 c4 c5=>by
  have p1:=hS.qp k c3;by_cases k0:k=0
  ·by_cases b0:b=0
   ·omega
   ·have:=hm.fk b ADb c2;grind
  ·by_cases b0:b=0
   ·have:=hm.fk k ADb c1;grind
   ·exact hm.inj k b J c1 J c2 c5 J
 have h00:0∈j0::Q:=Ch.zero hG.ch;obtain⟨u',v',ls'',t1,t2,t3,t4,t5,t6,t7,t8,t9⟩:=kA (m:=m) (i:=i) (u:=u) (v:=v) (ls:=ls') (w:=w) hm10 fr (d,(j1:Int),((m+1:Nat):Int),ls',fr') lu lv l1 lw hset pJ (λk a b=>⟨hS.qp k b,wle k a⟩) hinj hdb bu bv hlb ls h00 n hn;obtain⟨hd0,hG'⟩:=hS.step (u':=ga u') (v':=ga v') (ls':=ga ls'') hm hw0 hiN a1 a2 a3 a4 s4 (λr r1 r2 ⟨b,hb,eb⟩=>t5 r r1 r2 ⟨b,hb,hS.qm b hb,eb⟩) (λr r1 r2 h=>t6 r r1 r2 λ⟨b,hb,_,eb⟩=>h ⟨b,hb,eb⟩) t7 t8 t9;have i1:O3 us (j0:Int)=true:=Po J;have i2:O3 w (j0:Int)=true:=Po J;have i3:O3 w (j1:Int)=true:=Po J;have e2:=Tm (l:=w) (i:=j0) J;have e3:=Tm (l:=w) (i:=j1) J;rw[hi0]at e2
 have hlen:(j0::Q).length<=m+1:=by have:=a8 (j0::Q) (List.range (m+1)) hS.nd (λx hx=>by rw[AAX];have:=hS.qm x hx;omega);simpa using this
 refine⟨j1,u',v',ls'',fr',t2,t3,t4,l2,hG',hset,(hm.fk j1 a1 a2).1,hlen,?_⟩;simp only[Sp,i1,i2,i3,ABU,ABX,e2,e3,ABT,s1,t1,QX]
abbrev GT:=Int×By×By×By×By×ADp
structure GS(a0:List By)(m:Nat)(w:By)(k:Nat)(x:GT)(j0:Nat)(Q:Is):Prop where
 j:x.1=(j0:Int)
 lu:x.2.1.length=a0.length+1
 lv:x.2.2.1.length=m+1
 ll:x.2.2.2.1.length=m+1
 lf:x.2.2.2.2.1.length=m+1
 pJ:x.2.2.2.2.2.length=m+1
 hG:HG (cC a0) a0.length m (ga x.2.1) (ga x.2.2.1) (ga w) (ga x.2.2.2.1) (ga x.2.2.2.2.1) Q j0
 hu:∀k,k<=m->x.2.2.2.2.2[k]?=some (decide (k∈Q))
 p9:1<=ga w j0
 hfar:Q=[]->∀k,k<=m->ga x.2.2.2.1 k=1099511627776
 hk:k+Q.length=m+1
structure GE(a0:List By)(m:Nat)(w:By)(x:GT)(j0:Nat)(Q:Is):Prop where
 j:x.1=(j0:Int)
 lu:x.2.1.length=a0.length+1
 lv:x.2.2.1.length=m+1
 lf:x.2.2.2.2.1.length=m+1
 hG:HG (cC a0) a0.length m (ga x.2.1) (ga x.2.2.1) (ga w) (ga x.2.2.2.1) (ga x.2.2.2.2.1) Q j0
 hz:ga w j0=0
theorem j8(hc:CM a0 m){w:By}(lw:w.length=m+1)(hm:HM m i (ga w))(hw0:ga w 0=(i:Int))(h1i:1<=i)(hiN:i<=a0.length)(n:Nat)(hn:Ps<=n)(k:Nat)(x:GT)(hx:∃j0 Q,GS a0 m w k x j0 Q):
  (∃z,Sp n a0 w (m:Int) x=some (.inr z)/\∃j0 Q,GE a0 m w z j0 Q)\/(∃x' k',Sp n a0 w (m:Int) x=some (.inl x')/\(∃j0 Q,GS a0 m w k' x' j0 Q)/\k'<k):=by
 obtain⟨x1,u,v,ls,fr,us⟩:=x;obtain⟨j0,Q,⟨j,lu,lv,ll,lf,pJ,hG,hu,p9,hfar,hk⟩⟩:=hx;dsimp only at j lu lv ll lf pJ hG hu hfar;subst j;obtain⟨j1,u',v',ls',fr',t2,t3,t4,l2,hG',hset,hw1,hlen,hstep⟩:=ix hc lw hm hw0 h1i hiN n hn lu lv ll lf pJ hG hu p9 hfar;clear hG hu hfar hn;rw[ABG]at hlen;by_cases hz:ga w j1=0
 ·rw[show(ga w j1==0)=true by grind,ABU]at hstep;exact .inl ⟨_,hstep,j1,j0::Q,⟨rfl,t2,t3,l2,hG',hz⟩⟩
 ·rw[show(ga w j1==0)=false by grind,ABV]at hstep;have h1:1<=ga w j1:=by clear hstep hG' hset;omega
  exact .inr ⟨_,k-1,hstep,⟨j1,j0::Q,⟨rfl,t2,t3,t4,l2,No,hG',hset,h1,(λh=>nomatch h),No⟩⟩,J⟩
theorem iv{a0:List By}{m i:Nat}(hc:CM a0 m){w:By}(lw:w.length=m+1)(hm:HM m i (ga w))(hw0:ga w 0=(i:Int))(h1i:1<=i)(hiN:i<=a0.length)(n:Nat)(hn:Ps<=n)
  {u v ls fr:By} {us:ADp} (lu:u.length=a0.length+1) (lv:v.length=m+1) (ll:ls.length=m+1) (lf:fr.length=m+1) (pJ:us.length=m+1)
  (hf:HF (cC a0) a0.length m (ga u) (ga v)) (ht:HT (cC a0) m (ga u) (ga v) (ga w)) (hls:∀k,k<=m->ga ls k=1099511627776) (hus:∀k,k<=m->us[k]?=some false):
  ∃z,(∃j0 Q,GE a0 m w z j0 Q)/\iter n (Sp n a0 w (m:Int)) (0,u,v,ls,fr,us)=some z:=by
 have hm10:=hc.m10
 have h0:GS a0 m w (m+1) (0,u,v,ls,fr,us) 0 []:=
  ⟨rfl,lu,lv,ll,lf,pJ,⟨hf,ht,J,OF,OF,OF,.inl ⟨rfl,rfl⟩,λ_ _ _ _ b hb=>(nomatch hb),.inl rfl⟩,λk hk=>No,J,λ_=>hls,OF⟩
 exact UJ (λk x=>∃j0 Q,GS a0 m w k x j0 Q) (λz=>∃j0 Q,GE a0 m w z j0 Q) (j8 hc lw hm hw0 h1i hiN n hn) n (m+1) _ ⟨0,[],h0⟩ ADd
theorem j6{C:Nat->Nat->Int}{m i:Nat}{u v fr:By}(x27:Int×By×By×By×By×ADp)(hx:x27.2.2.2.2.1=fr)(lf:fr.length=m+1)(n:Nat)(hn:Ps<=n){w:By}(lw:w.length=m+1){j0:Nat}{Q:Is}(hm:m<=10)
  (h:HA C m i (ga u) (ga v) (ga fr) (ga w) j0 Q):∃z,(∃w' Q',z=((0:Int),w')/\w'.length=m+1/\HA C m i (ga u) (ga v) (ga fr) (ga w') 0 Q')/\iter n (V0 x27) ((j0:Int),w)=some z:=by
 refine UJ (λk x=>∃(j0:Nat) (Q:Is) (w:By),x=((j0:Int),w)/\w.length=m+1/\HA C m i (ga u) (ga v) (ga fr) (ga w) j0 Q/\k=Q.length) _ (λk x hx'=>?_) n Q.length ((j0:Int),w) ⟨j0,Q,w,rfl,lw,h,rfl⟩ ?_
 ·obtain⟨j0,Q,w,rfl,lw,h,rfl⟩:=hx';by_cases hj:j0=0
  ·left;subst hj;exact⟨((0:Int),w),by simp[V0],w,Q,rfl,lw,h⟩
  ·right;have hjm:j0<=m:=h.lm j0 AAg;obtain⟨x,Q',p1,p2,p3,p4,p5⟩:=h.next J;have zD:((j0:Int) != 0)=true:=ADg
   have i1:O3 fr (j0:Int)=true:=Po J;have i2:O3 w (x:Int)=true:=Po J;have i3:O3 w (j0:Int)=true:=Po J;have e1:=Tm (l:=fr) (i:=j0) J;have e2:=Tm (l:=w) (i:=x) J;rw[p1]at e1;refine⟨((x:Int),w.set j0 (ga w x)),Q'.length,?_,⟨x,Q',w.set j0 (ga w x),rfl,by simp[lw],p5 _ ?_ (λj a b=>?_),rfl⟩,p3⟩
   ·simp only[V0,zD,ABU,hx,i1,i2,i3,ABX,e1,e2,ABT,QX]
   ·rw[VX J,AAP rfl]
   ·rw[VX J,AAQ b]
 ·have:=a8 Q (List.range (m+1)) (AAa.1 h.nd).2 (λx hx=>by rw[AAX];have:=h.lm x (AAM _ hx);omega);simp at this;unfold Ps at hn;omega
theorem l8{a0:List By}{m i:Nat}(hc:CM a0 m){u v w:By}(lu:u.length=a0.length+1)(lv:v.length=m+1)(lw:w.length=m+1)(h1i:1<=i)(hiN:i<=a0.length)
  (hf:HF (cC a0) a0.length m (ga u) (ga v)) (ht:HT (cC a0) m (ga u) (ga v) (ga w)) (hm:HM m i (ga w)) (hw0:ga w 0=(i:Int)) (n:Nat) (hn:Ps<=n):
  ∃u' v' w',YZ n a0 u v w (m:Int)=some (u',v',w')/\u'.length=a0.length+1/\v'.length=m+1/\w'.length=m+1/\HF (cC a0) a0.length m (ga u') (ga v')/\HT (cC a0) m (ga u') (ga v') (ga w')/\HM m (i+1) (ga w'):=by
 have hm10:=hc.m10;have e0:Pn ((m:Int)+1)=((m+1:Nat):Int):=Pj (show m<m+1 by omega) J
 have g0:(decide (0<=((m+1:Nat):Int))&&decide (((m+1:Nat):Int)<=(Dj:Int))&&decide (((m+1:Nat):Int)=((m+1:Nat):Int)))=true:=by rw[ABZ (show 0<=((m+1:Nat):Int) by omega),ABZ (show((m+1:Nat):Int)<=(Dj:Int) by unfold Dj;omega)];simp
 obtain⟨⟨x1,u',v',ls,fr,us⟩,⟨j0,Q,⟨j,lu',lv',lf',hG,hz⟩⟩,h2⟩:=iv hc lw hm hw0 h1i hiN n hn (ls:=List.replicate (m+1) 1099511627776) (fr:=List.replicate (m+1) 0) (us:=List.replicate (m+1) false) lu lv OF OF OF hf ht (λk hk=>Y3 _ _ _ J) (λk hk=>by grind);dsimp only at j lu' lv' lf' hG;subst j;obtain⟨z2,⟨w',Q',rfl,lw',hA⟩,h3⟩:=j6 (fr:=fr) ((j0:Int),u',v',ls,fr,us) rfl lf' n hn lw hm10 (hG.w5 hm hw0 h1i hz);obtain⟨d1,d2⟩:=hA.done;refine⟨u',v',w',?_,lu',lv',lw',hG.hf,d2,d1⟩;unfold YZ;rw[e0,g0];simp only[ABU,ABX,j7 m hm10 n hn,ABT,h2,h3]
def Pv(a0:List By):List (Nat->Int):=a0.map ga
theorem gZ(a0:List By){r:Nat}(h:r<a0.length)(k:Nat):((Pv a0)[r]'(by simp only[Pv,ABB];exact h)) k=cC a0 (r+1) (k+1):=by have e:(a0.map ga)[r]'(by simpa using h)=ga a0[r]:=ABj ..;show((a0.map ga)[r]'(by simpa using h)) k=_;rw[e];unfold cC;grind
theorem kq{P:Nat->Nat->Prop}:∀N:Nat,(∀r,r<N->∃k,P r k)->∃cs:Is,cs.length=N/\∀r (h:r<cs.length),P r cs[r]
 |0,_=>⟨[],rfl,λr h=>ADl⟩
 |N+1,h=>by obtain⟨cs,h1,h2⟩:=kq N (λr hr=>h r J);obtain⟨k,hk⟩:=h N J;refine⟨cs++[k],by simp[h1],λr hr=>?_⟩;grind
theorem jK(f:Nat->Int):∀(R:List (Nat->Int)) (cs:Is),cs.length=R.length->(∀r (h1:r<R.length) (h2:r<cs.length),R[r] cs[r]=f cs[r])->mO R cs=RS (cs.map f)
 | [],[],_,_=>rfl
 | [],c::cs,h,_=>ADl
 |r::R,[],h,_=>ADl
 |r::R,c::cs,h,he=>by
  have h0:=he 0 OF OF;simp only[ACO]at h0;simp only[mO,ABK,RS]
  rw[h0,jK f R cs ADn (λr h1 h2=>by
   have:=he (r+1) ADg ADg;simpa only[List.getElem_cons_succ]using this)]
theorem lJ(f h:Nat->Int):∀(cs:Is)(u:By),u.length=cs.length->(∀r (h1:r<cs.length) (h2:r<u.length),f cs[r]=u[r]+h cs[r])->RS (cs.map f)=RS u+RS (cs.map h)
 | [],[],_,_=>rfl
 | [],c::cs,h,_=>ADl
 |r::R,[],h,_=>ADl
 |c::cs,x::u,hl,he=>by
  have h0:=he 0 OF OF;simp only[ACO]at h0
  have:=lJ f h cs u No (λr h1 h2=>by
   have:=he (r+1) ADg ADg;grind)
  simp only[ABK,RS];omega
theorem eO(hc:CM a0 m)(n:Nat)(hn:Ps<=n):∃s,S8 n a0=some s/\pf (Pv a0) (List.range m) s:=by
 have hm10:=hc.m10;have hnm:=hc.nm;by_cases h0:a0.length=0
 ·have:a0=[]:=AAO h0;subst this;exact⟨0,by simp[S8],rfl,λy hy=>by simp only[Pv,List.map_nil,AS]at hy;omega⟩
 have hg0:JQ a0 0=some a0[0]:=Pk (show 0<a0.length by omega);have hl0:a0[0].length=m:=hc.row _ (ABW (show 0<a0.length by omega));have zD:((a0.length:Int)==0)=false:=by simp;intro h;exact h0 (by simp[h])
 have e0:∀k:Nat,k<=10->Pn ((k:Int)+1)=((k+1:Nat):Int)/\(decide (0<=((k+1:Nat):Int))&&decide (((k+1:Nat):Int)<=(Dj:Int))&&decide (((k+1:Nat):Int)=((k+1:Nat):Int)))=true:=λk hk=>by refine⟨Pj (show k<k+1 by omega) J,?_⟩;rw[ABZ (show 0<=((k+1:Nat):Int) by omega),ABZ (show((k+1:Nat):Int)<=(Dj:Int) by unfold Dj;omega)];simp
 obtain⟨z,⟨u,v,w,rfl,lu,lv,lw,hf,ht,hm⟩,hz⟩:=UJ (f:=U9 n a0 a0[0])
  (λk x=>∃(i:Nat) (u v w:By),x=((i:Int),u,v,w)/\1<=i/\k+i=a0.length+1/\u.length=a0.length+1/\v.length=m+1/\w.length=m+1/\HF (cC a0) a0.length m (ga u) (ga v)/\HT (cC a0) m (ga u) (ga v) (ga w)/\HM m i (ga w))
  (λz=>∃(u v w:By),z=(((a0.length+1:Nat):Int),u,v,w)/\u.length=a0.length+1/\v.length=m+1/\w.length=m+1/\HF (cC a0) a0.length m (ga u) (ga v)/\HT (cC a0) m (ga u) (ga v) (ga w)/\HM m (a0.length+1) (ga w))
  (λk x hx=>by
   obtain⟨i,u,v,w,rfl,h1,hk,lu,lv,lw,hf,ht,hm⟩:=hx;by_cases hi:i=a0.length+1
   ·left;subst hi;have hd:decide (((a0.length+1:Nat):Int)<=(a0.length:Int))=false:=by rw[AAl];omega
    exact⟨_,by simp only[U9,hd,ABV],u,v,w,rfl,lu,lv,lw,hf,ht,hm⟩
   ·right;have hd:decide ((i:Int)<=(a0.length:Int))=true:=by rw[AAf];omega
    have i0:O3 w 0=true:=Po (show 0<w.length by omega);have hs:∀j,1<=j->j<=m->ga (w.set 0 (i:Int)) j=ga w j:=λj a b=>by rw[VX J,AAQ J]
    obtain⟨u',v',w',g1,g2,g3,g4,g5,g6,g7⟩:=l8 hc lu lv (w:=w.set 0 (i:Int)) (by simp[lw]) h1 J hf (ht.congr hs) (hm.congr hs) (by rw[VX J,AAP rfl]) n hn;refine⟨(((i+1:Nat):Int),u',v',w'),k-1,?_,⟨i+1,u',v',w',rfl,J,J,g2,g3,g4,g5,g6,g7⟩,J⟩;simp only[U9,hd,ABU,i0,QX,hl0,g1,ABT,Pj (show i<a0.length+1 by omega) J,ACQ])
  n a0.length (1,List.replicate (a0.length+1) 0,List.replicate (m+1) 0,List.replicate (m+1) 0) ⟨1,_,_,_,rfl,J,rfl,OF,OF,OF,⟨λr j r1 r2 j1 j2=>by
   rw[Y3 _ _ _ J,Y3 _ _ _ J];obtain⟨_,_,_,p,_⟩:=hc.at r1 r2 j1 j2;omega,λj a b=>by rw[Y3 _ _ _ J];omega,λr a b=>by rw[Y3 _ _ _ J];omega⟩,⟨λj r a b c d=>by rw[Y3 _ _ _ J]at d;omega,λj a b c=>Y3 _ _ _ J⟩,⟨λj a b=>by rw[Y3 _ _ _ J];omega,λj k a b c d e f=>by rw[Y3 _ _ _ J]at f;omega,λr a b=>J⟩⟩ ADd
 let f:Nat->Int:=λk=>if 0<ga w (k+1)then cC a0 (ga w (k+1)).toNat (k+1)else 0
 have fdef:∀k,f k=if 0<ga w (k+1)then cC a0 (ga w (k+1)).toNat (k+1)else 0:=λk=>rfl
 clear_value f
 have fb:∀k,k<m->0<=f k/\f k<=100000:=λk hk=>by
  rw[fdef];by_cases h:0<ga w (k+1)
  ·rw[AAP h];have:=hm.fk (k+1) J J;obtain⟨_,_,_,p,q⟩:=hc.at (r:=(ga w (k+1)).toNat) (j:=k+1) J J J J;exact⟨p,q⟩
  omega
 have sb:∀k:Nat,k<=m->0<=RS ((List.range k).map f)/\RS ((List.range k).map f)<=100000*(k:Int):=by
  intro k
  induction k with
  |zero=>intro _;simp[RS]
  |succ k ih=>
   intro hk;obtain⟨p,q⟩:=ih J;have:=fb k J;rw[AB3,List.map_append,fF];simp only[ABK,List.map_nil,RS];omega
 have hsum:iter n (R7 a0 a0[0] (((a0.length+1:Nat):Int),u,v,w)) (0,1)=some (RS ((List.range m).map f),((m+1:Nat):Int)):=by
  have:=P8 (R7 a0 a0[0] (((a0.length+1:Nat):Int),u,v,w)) (λk=>(RS ((List.range k).map f),((k+1:Nat):Int))) m (RS ((List.range m).map f),((m+1:Nat):Int)) (λk hk=>by
   have hd:decide (((k+1:Nat):Int)<=(a0[0].length:Int))=true:=by rw[AAf];omega
   have i1:O3 w ((k+1:Nat):Int)=true:=Po J;have e1:=Tm (l:=w) (i:=k+1) J;have hw1:Pn (((k+1:Nat):Int)+1)=((k+1+1:Nat):Int):=Pj (show k+1<m+1 by omega) J
   have hS:RS ((List.range (k+1)).map f)=RS ((List.range k).map f)+f k:=by rw[AB3,List.map_append,fF];simp[RS]
   by_cases h:0<ga w (k+1)
   ·have hdw:decide (ga w (k+1)>0)=true:=ABZ h;have hfk:f k=cC a0 (ga w (k+1)).toNat (k+1):=No
    have:=hm.fk (k+1) J J;obtain⟨l,c1,c2,_,_⟩:=hc.at (r:=(ga w (k+1)).toNat) (j:=k+1) J J J J;have hcast:(((ga w (k+1)).toNat:Nat):Int)=ga w (k+1):=J
    rw[hcast]at c1;have b1:=sb k J;have b2:=fb k hk
    have hw2:Pn (RS ((List.range k).map f)+cC a0 (ga w (k+1)).toNat (k+1))=RS ((List.range (k+1)).map f):=by rw[hS,hfk];exact Pr J J
    simp only[R7,hd,ABU,i1,ABX,e1,ABT,hdw,c1,c2,hw1,hw2]
   ·have hdw:decide (ga w (k+1)>0)=false:=ABd h;have hfk:f k=0:=No
    have hw2:RS ((List.range k).map f)=RS ((List.range (k+1)).map f):=by rw[hS,hfk];omega
    simp only[R7,hd,ABU,ABV,i1,ABX,e1,ABT,hdw,hw1];rw[hw2]) (by
   have hd:decide (((m+1:Nat):Int)<=(a0[0].length:Int))=false:=by rw[AAl];omega
   simp only[R7,hd,ABV]) n ADd
  simpa[RS]using this
 obtain⟨cs,cl,cp⟩:=kq (P:=λr k=>k<m/\ga w (k+1)=((r+1:Nat):Int)) a0.length (λr hr=>by
  obtain⟨j,j1,j2,e⟩:=hm.qT (r+1) J J;exact⟨j-1,J,No⟩)
 have cnd:cs.Nodup:=by unfold List.Nodup;rw[ABR];intro a b ha hb hab e;have p1:=(cp a ha).2;have p2:=(cp b hb).2;rw[e,p2]at p1;omega
 have cin:∀k∈cs,k∈List.range m:=λk hk=>by obtain⟨a,ha,rfl⟩:=ABY.1 hk;grind
 have coff:∀k∈List.range m,k∉cs->ga w (k+1)=0:=λk hk hn=>by
  rw[AAX]at hk;have hr:=hm.fk (k+1) J J;refine AAp λzD=>hn ?_;have zA:(ga w (k+1)).toNat-1<cs.length:=J
  obtain⟨p1,p2⟩:=cp _ zA;have:=hm.inj (cs[(ga w (k+1)).toNat-1]+1) (k+1) J J J J J J;grind
 have hR:(Pv a0).length=a0.length:=by simp[Pv]
 have fc:∀r (h:r<cs.length),f cs[r]=cC a0 (r+1) (cs[r]+1):=λr h=>by have p2:=(cp r h).2;rw[fdef,p2,AAP J,ABX]
 have hs1:RS ((List.range m).map f)=RS (cs.map f):=kZ f cs (List.range m) cnd AB7 cin (λk hk hn=>by
  grind)
 have hs2:mO (Pv a0) cs=RS (cs.map f):=jK f (Pv a0) cs (by rw[hR,cl]) (λr h1 h2=>by
  rw[fc r h2,gZ _ J])
 have hs3:RS (cs.map f)=RS ((List.range a0.length).map λr=>ga u (r+1))+RS (cs.map λk=>ga v (k+1)):=lJ f (λk=>ga v (k+1)) cs _ (by simp[cl]) (λr h1 h2=>by
  rw[fc r h1,ABj,List.getElem_range];obtain⟨p1,p2⟩:=cp r h1;exact(ht.tight (cs[r]+1) (r+1) J J J p2).symm)
 have hs4:RS ((List.range m).map λk=>ga v (k+1))=RS (cs.map λk=>ga v (k+1)):=kZ _ cs (List.range m) cnd AB7 cin (λk hk hn=>by
  have hw:=coff k hk hn;rw[AAX]at hk;exact ht.free (k+1) J J hw)
 refine⟨RS ((List.range m).map f),?_,?_,λy hy=>?_⟩
 ·unfold S8;rw[zD,ABV,hg0,ABT,hl0,(e0 a0.length J).1,(e0 m hm10).1,(e0 a0.length J).2,(e0 m hm10).2];simp only[ABU,ABX,hz,ABT,hsum]
 ·rw[hs1,<-hs2];exact AS.of (Pv a0) cs (List.range m) (by rw[hR,cl]) cnd cin
 ·have:=AS.ge (λk=>ga v (k+1)) (Pv a0) ((List.range a0.length).map λr=>ga u (r+1)) (List.range m) y (by simp[Pv]) (λr hr hu k hk=>by
   rw[AAX]at hk;have hra:r<a0.length:=by rw[hR]at hr;exact hr
   have:=hf.mz (r+1) (k+1) J J J J;rw[ABj,List.getElem_range];have e:(Pv a0)[r] k=cC a0 (r+1) (k+1):=gZ _ hra k;rw[e];exact this) (λk hk=>by
   rw[AAX]at hk;exact hf.qP (k+1) J J) hy
  omega
theorem qM(h:k<=10):OX .i64 1 (k:Int)=((2 ^ k:Nat):Int):=by
 have h2:2 ^ k<=2 ^ 10:=Nat.pow_le_pow_right J h;unfold OX;rw[show min ((k:Int)).toNat (IntKind.bits .i64)=k by simp[IntKind.bits];omega,Int.one_mul];have e:(2:Int) ^ k=((2 ^ k:Nat):Int):=by rw[Int.natCast_pow];rfl
 rw[e];generalize 2 ^ k=p at h2 ⊢;exact Pr J J
theorem b8(h:s<1024):(BitVec.ofInt (IntKind.bits .i64) (s:Int)).toNat=s:=by have:(BitVec.ofInt (IntKind.bits .i64) (s:Int)).toNat=((s:Int)%(2 ^ 64:Nat)).toNat:=BitVec.toNat_ofInt ..;omega
theorem wj{t:Nat}(hs:s<1024)(ht:t<1024):PW .i64 (s:Int) (t:Int)=((s ||| t:Nat):Int):=by
 have h:s ||| t<1024:=Nat.or_lt_two_pow (n:=10) hs ht
 unfold PW;rw[BitVec.toNat_or,b8 hs,b8 ht];exact Pr J J
theorem qZ(hs:s<1024)(hk:k<=10):(Oi .i64 (OY .i64 (s:Int) (k:Int)) 1==1)=s.testBit k:=by
 have e1:OY .i64 (s:Int) (k:Int)=((s >>> k:Nat):Int):=by
  unfold OY;rw[show min ((k:Int)).toNat (IntKind.bits .i64)=k by simp[IntKind.bits];omega,Nat.shiftRight_eq_div_pow];have e:(2:Int) ^ k=((2 ^ k:Nat):Int):=by rw[Int.natCast_pow];rfl
  rw[e];exact(Int.ofNat_fdiv s (2 ^ k)).symm
 have h1:s >>> k<1024:=Nat.lt_of_le_of_lt (Nat.shiftRight_le s k) hs
 have e2:Oi .i64 ((s >>> k:Nat):Int) 1=((1 &&& (s >>> k):Nat):Int):=by unfold Oi;rw[BitVec.toNat_and,b8 h1,show(BitVec.ofInt (IntKind.bits .i64) 1).toNat=1 by decide,Nat.and_comm];have:1 &&& (s >>> k)<=1:=Nat.and_le_left;exact Pr J J
 rw[e1,e2,Nat.testBit];grind
def bQ(m s:Nat):Is:=(List.range m).filter λk => !s.testBit k
theorem mq(m s:Nat):(bQ m s).Nodup:=AB7.filter _
theorem gm:k∈bQ m s↔k<m/\s.testBit k=false:=by simp[bQ]
theorem Xp(h:s.testBit k=false):(bQ m s).erase k=bQ m (s ||| 2 ^ k):=by rw[(mq m s).erase_eq_filter];unfold bQ;rw[List.filter_filter];grind
theorem gl(hs:s<2 ^ m)(hk:k<m):s ||| 2 ^ k<2 ^ m:=Nat.or_lt_two_pow hs (Nat.pow_lt_pow_right J hk)
theorem iC(h:m<=10):2 ^ m<=1024:=Nat.pow_le_pow_right J h
def T9:Option Int->Int
 |none => -1
 |some x=>x
def OV(R:List (Nat->Int))(m i:Nat):By:=(List.range (2 ^ m)).map λs=>T9 (Y0 (R.drop i) (bQ m s))
theorem X8(R:List (Nat->Int))(m i:Nat):(OV R m i).length=2 ^ m:=by simp[OV]
theorem X7(h:s<2 ^ m):(OV R m i)[s]?=some (T9 (Y0 (R.drop i) (bQ m s))):=by unfold OV;grind
structure RB(R:List (Nat->Int))(m:Nat):Prop where
 b:∀r∈R,∀k,k<m->0<=r k/\r k<=100000
 l:R.length<=10
theorem RB.val(h:RB R m)(hx:Y0 (R.drop i) (bQ m s)=some x):0<=x/\x<=1000000:=by have h1:=dp hx (λr hr k hk=>(h.b r (ACK hr) k (gm.1 hk).1).1);have h2:=mw hx (M:=100000) J (λr hr k hk=>(h.b r (ACK hr) k (gm.1 hk).1).2);have:=h.l;grind
theorem CM.rb(h:CM a0 m):RB (Pv a0) m:=by
 refine⟨λr hr k hk=>?_,?_⟩
 ·obtain⟨l,hl,rfl⟩:=AAt.1 hr;have:=h.row l hl;have hg:l[k]?=some (ga l k):=Tm J;exact h.NC l hl _ (AAN hg)
 ·have:=h.nm;have:=h.m10;simp only[Pv,ABB];omega
theorem mB(hc:CM a0 m)(hi:i<a0.length)(hs:s<2 ^ m)(T0:List By)(hT:i+1<T0.length)(hnext:T0[i+1]?=some (OV (Pv a0) m (i+1)))(y:By)(hy:y.length=2 ^ m)(c7:Int×(List (By)))(hc7:c7.1=(s:Int))(c3:Int×(List (By)))(hc3:c3.1=(i:Int))(n:Nat)(hn:Ps<=n):
  iter n (RM a0 (m:Int) c3 c7) (0,T0.set i (y.set s (-1)))=some ((m:Int),T0.set i (y.set s (T9 (Y0 ((Pv a0).drop i) (bQ m s))))):=by
 have hm10:=hc.m10;have hnm:=hc.nm;have hp:=iC hm10;have hR:(Pv a0).length=a0.length:=by simp[Pv]
 have hdrop:(Pv a0).drop i=ga a0[i]::(Pv a0).drop (i+1):=by rw[ABh J];congr 1;exact ABj ..
 let acc:Nat->Option Int:=λk=>((List.range k).filter λk => !s.testBit k).foldl (λb k=>Z9 b ((Y0 ((Pv a0).drop (i+1)) ((bQ m s).erase k)).map λy=>ga a0[i] k+y)) none
 have acc0:acc 0=none:=rfl;have accm:acc m=Y0 ((Pv a0).drop i) (bQ m s):=by rw[hdrop];rfl
 have accS:∀k,acc (k+1)=bif s.testBit k then acc k else Z9 (acc k) ((Y0 ((Pv a0).drop (i+1)) ((bQ m s).erase k)).map λy=>ga a0[i] k+y):=λk=>by show((List.range (k+1)).filter _).foldl _ none=_;rw[AB3,AB1,List.foldl_append];grind
 clear_value acc
 have accP:∀k,k<=m->∀z,acc k=some z->0<=z:=by
  intro k
  induction k with
  |zero=>grind
  |succ k ih=>
   intro hk z h;rw[accS k]at h;cases hb:s.testBit k with
   |true=>grind
   |false=>
    rw[hb,ABV]at h;rcases ku h with h|h
    ·grind
    ·rw[Xp hb]at h;cases hB:Y0 ((Pv a0).drop (i+1)) (bQ m (s ||| 2 ^ k))with
     |none=>grind
     |some x=>
      rw[hB]at h;simp only[AA6,Option.some.injEq]at h;have:=hc.rb.val hB;have:=hc.rb.b (ga a0[i]) (ACV (ABW hi)) k J;omega
 have hi3:Pn ((i:Int)+1)=((i+1:Nat):Int):=Pj (show i<i+1 by omega) J;have yz:JQ a0 (i:Int)=some a0[i]:=Pk hi;have hrl:a0[i].length=m:=hc.row _ (ABW hi);have rb:=hc.rb
 have:=P8 (RM a0 (m:Int) c3 c7) (λk=>((k:Int),T0.set i (y.set s (T9 (acc k))))) m ((m:Int),T0.set i (y.set s (T9 (acc m)))) (λk hk=>by
  have hd:decide ((k:Int)<(m:Int))=true:=by rw[AAf];omega
  have hd0:decide (0<=(k:Int))=true:=by rw[AAf];omega
  have E5:=qZ (s:=s) (k:=k) J J;have hsh:=qM (k:=k) J;have hk10:2 ^ k<1024:=AA4 (Nat.pow_lt_pow_right J hk) hp;have hor:=wj (s:=s) (t:=2 ^ k) J hk10;have hw:Pn ((k:Int)+1)=((k+1:Nat):Int):=Pj hk J;have zA:=gl hs hk;have i1:O3 (T0.set i (y.set s (T9 (acc k)))) ((i+1:Nat):Int)=true:=Po ADg;have e1:(T0.set i (y.set s (T9 (acc k))))[i+1]?=some (OV (Pv a0) m (i+1)):=by rw[List.getElem?_set_ne J];exact hnext
  have i2:O3 (OV (Pv a0) m (i+1)) ((s ||| 2 ^ k:Nat):Int)=true:=Po (by rw[X8];exact zA);have e2:=X7 (R:=Pv a0) (i:=i+1) zA;have i3:O3 (T0.set i (y.set s (T9 (acc k)))) (i:Int)=true:=Po ADg;have e3:(T0.set i (y.set s (T9 (acc k))))[i]?=some (y.set s (T9 (acc k))):=No
  have i4:O3 (y.set s (T9 (acc k))) (s:Int)=true:=Po ADg;have e4:(y.set s (T9 (acc k)))[s]?=some (T9 (acc k)):=No
  have e5:JQ a0[i] (k:Int)=some (ga a0[i] k):=by rw[RU];exact Tm J
  have hb0:=rb.b (ga a0[i]) (ACV (ABW hi)) k hk;rw[accS k];cases hb:s.testBit k with
  |true=>
   rw[hb]at E5;simp only[RM,hd,hd0,ABU,hc7,hc3,E5,ABT,hw]
  |false=>
   rw[hb]at E5;rw[ABV,Xp hb];have hv:∀x,Y0 ((Pv a0).drop (i+1)) (bQ m (s ||| 2 ^ k))=some x->0<=x/\x<=1000000:=λx hx=>rb.val hx;cases hB:Y0 ((Pv a0).drop (i+1)) (bQ m (s ||| 2 ^ k))with
   |none=>
    rw[hB]at e2;have hneg:decide (T9 none<0)=true:=by simp[T9]
    have ho:Z9 (acc k) (Option.map (λy=>ga a0[i] k+y) none)=acc k:=by cases acc k<;>rfl
    rw[ho];simp only[RM,hd,hd0,ABU,ABV,hc7,hc3,E5,ABT,hw,hi3,i1,e1,ABX,hsh,hor,i2,e2,hneg]
   |some x=>
    rw[hB]at e2;obtain⟨x0,x1⟩:=hv x hB;have hneg:decide (T9 (some x)<0)=false:=ABd (show ¬x<0 by omega);have hww:Pn (ga a0[i] k+T9 (some x))=ga a0[i] k+x:=Pr (n:=ga a0[i] k+x) J J
    have hmod:∀v:Int,List.modify (T0.set i (y.set s (T9 (acc k)))) i (λy2=>Ca y2 s v)=T0.set i (y.set s v):=λv=>by
     apply ABt;intro j;rw[ABf,ACJ,ACJ];by_cases e:i=j
     ·subst e;simp[show i<T0.length by omega,QX]
     ·simp[e]
    cases hA:acc k with
    |none=>
     rw[hA]at e4 i3 i4 e3 i1 e1 hmod;have hneg2:decide (T9 none<0)=true:=by simp[T9]
     simp only[RM,hd,hd0,ABU,ABV,hc7,hc3,E5,ABT,hw,hi3,i1,e1,ABX,hsh,hor,i2,e2,hneg,yz,e5,i3,e3,i4,e4,hneg2,hww,hmod];rfl
    |some z=>
     rw[hA]at e4 i3 i4 e3 i1 e1 hmod;have hz0:=accP k J z hA
     ·have hneg2:decide (T9 (some z)<0)=false:=ABd (show ¬z<0 by omega);by_cases hlt2:ga a0[i] k+x<z
      ·have hd2:decide (ga a0[i] k+x<T9 (some z))=true:=ABZ hlt2;have ho:Z9 (some z) (Option.map (λy=>ga a0[i] k+y) (some x))=some (ga a0[i] k+x):=by simp only[AA6,Z9,AAP hlt2]
       rw[ho];simp only[RM,hd,hd0,ABU,ABV,hc7,hc3,E5,ABT,hw,hi3,i1,e1,ABX,hsh,hor,i2,e2,hneg,yz,e5,i3,e3,i4,e4,hneg2,hww,hmod,hd2];rfl
      ·have hd2:decide (ga a0[i] k+x<T9 (some z))=false:=ABd hlt2;have ho:Z9 (some z) (Option.map (λy=>ga a0[i] k+y) (some x))=some z:=by simp only[AA6,Z9,AAQ hlt2]
       rw[ho];simp only[RM,hd,hd0,ABU,ABV,hc7,hc3,E5,ABT,hw,hi3,i1,e1,ABX,hsh,hor,i2,e2,hneg,yz,e5,i3,e3,i4,e4,hneg2,hww,hmod,hd2]) (by
  have hd:decide ((m:Int)<(m:Int))=false:=OF
  simp only[RM,hd,ABV]) n ADd
 rw[acc0,accm]at this;exact this
theorem kD(hc:CM a0 m)(hi:i<a0.length)(T0:List By)(hT:i+1<T0.length)(hnext:T0[i+1]?=some (OV (Pv a0) m (i+1)))(x5:By)(h5:x5.length=2 ^ m)(c3:Int×(List (By)))(hc3:c3.1=(i:Int))(n:Nat)(hn:Ps<=n):
  iter n (Uh n a0 (m:Int) c3 x5) (0,T0.set i (List.replicate (2 ^ m) 0))=some (((2 ^ m:Nat):Int),T0.set i (OV (Pv a0) m i)):=by
 have hp:=iC hc.m10;have hrl:=X8 (Pv a0) m i
 have:=P8 (Uh n a0 (m:Int) c3 x5) (λs=>((s:Int),T0.set i ((OV (Pv a0) m i).take s++List.replicate (2 ^ m-s) 0))) (2 ^ m) (((2 ^ m:Nat):Int),T0.set i (OV (Pv a0) m i)) (λs hs=>by
  have hd:decide ((s:Int)<(x5.length:Int))=true:=by rw[AAf];omega
  generalize hy:(OV (Pv a0) m i).take s++List.replicate (2 ^ m-s) 0=y;have hyl:y.length=2 ^ m:=by rw[<-hy];simp[hrl];omega
  have i3:O3 (T0.set i y) (i:Int)=true:=Po ADg;have e3:(T0.set i y)[i]?=some y:=by rw[ACP J]
  have i4:O3 y (s:Int)=true:=Po J
  have hmod:List.modify (T0.set i y) i (λy2=>Ca y2 s (-1))=T0.set i (y.set s (-1)):=by
   apply ABt;intro j;rw[ABf,ACJ,ACJ];by_cases e:i=j
   ·subst e;simp[show i<T0.length by omega,QX]
   ·simp[e]
  have hr:=mB hc hi hs T0 hT hnext y hyl ((s:Int),T0.set i y) rfl c3 hc3 n hn;have hw:Pn ((s:Int)+1)=((s+1:Nat):Int):=Pj hs J;simp only[Uh,hd,ABU,hc3,i3,e3,i4,ABX,ABT,hmod,hr,hw];congr 5;rw[<-hy,ACI _ _ (by simp[hrl];omega),AB8,hrl,Nat.min_eq_left J,ACW,show 2 ^ m-s=(2 ^ m-(s+1))+1 by omega,List.replicate_succ,ACY,List.take_add_one,X7 hs];simp) (by
  have hd:decide (((2 ^ m:Nat):Int)<(x5.length:Int))=false:=by rw[h5];simp
  simp only[Uh,hd,ABV,ACW,List.replicate_zero,ABn];rw[ABv (by rw[hrl];exact AAc _)]) n ADd
 grind
theorem fT(hc:CM a0 m)(h0:a0=[]->m=0)(n:Nat)(hn:Ps<=n):∃T,Y9 n a0=some T/\T.length=a0.length+1/\∀j,j<=a0.length->T[j]?=some (OV (Pv a0) m j):=by
 have hm10:=hc.m10;have hnm:=hc.nm;have hp:=iC hm10;have hsh:=qM hm10
 have hg1:decide (0<=((2 ^ m:Nat):Int))=true:=by generalize 2 ^ m=q;rw[AAf];omega
 have hg2:decide (((2 ^ m:Nat):Int)<=(Dj:Int))=true:=by generalize 2 ^ m=q at hp;rw[AAf];unfold Dj;omega
 have e0:Pn ((a0.length:Int)+1)=((a0.length+1:Nat):Int):=Pj (show a0.length<a0.length+1 by omega) J
 have g0:(decide (0<=((a0.length+1:Nat):Int))&&decide (((a0.length+1:Nat):Int)<=(Dj:Int))&&decide (((a0.length+1:Nat):Int)=((a0.length+1:Nat):Int)))=true:=by rw[ABZ (show 0<=((a0.length+1:Nat):Int) by omega),ABZ (show((a0.length+1:Nat):Int)<=(Dj:Int) by unfold Dj;omega)];simp
 have hd0:decide (0<=(m:Int))=true:=by rw[AAf];omega
 have hcol:(show Option Int from bif decide ((a0.length:Int)>0)then(JQ a0 0).bind λx2=>some (x2.length:Int)else some 0)=some (m:Int):=by
  by_cases e:a0=[]
  ·grind
  ·have hl:0<a0.length:=List.length_pos_iff.2 e;rw[show decide ((a0.length:Int)>0)=true by grind,ABU,show JQ a0 0=some a0[0]from Pk hl,ABT,hc.row _ (ABW hl)]
 have iN:O3 (List.replicate (a0.length+1) ([]:By)) (a0.length:Int)=true:=Po OF
 obtain⟨z,⟨T,hz1,hz2,hz3⟩,hz⟩:=UJ (f:=Wa n a0 (m:Int))
  (λk x=>∃T:List By,x=((k:Int)-1,T)/\k<=a0.length/\T.length=a0.length+1/\∀j,k<=j->j<=a0.length->T[j]?=some (OV (Pv a0) m j))
  (λz=>∃T:List By,z=(((0:Nat):Int)-1,T)/\T.length=a0.length+1/\∀j,j<=a0.length->T[j]?=some (OV (Pv a0) m j))
  (λk x hx=>by
   obtain⟨T,rfl,hk,hl,hT⟩:=hx;cases k with
   |zero=>
    left;exact⟨(((0:Nat):Int)-1,T),by simp[Wa],T,rfl,hl,λj hj=>hT j J hj⟩
   |succ i=>
    right;have hi1:((i+1:Nat):Int)-1=(i:Int):=J
    have hd:decide ((i:Int)>=0)=true:=by rw[AAf];omega
    have i3:O3 T (i:Int)=true:=Po J;have i4:O3 (T.set i (List.replicate (2 ^ m) 0)) (i:Int)=true:=Po ADg;have e4:(T.set i (List.replicate (2 ^ m) 0))[i]?=some (List.replicate (2 ^ m) 0):=by rw[ACP J]
    have hs:=kD hc (i:=i) J T J (hT (i+1) J J) (List.replicate (2 ^ m) 0) OF ((i:Int),T) rfl n hn;have hw:Pn ((i:Int)-1)=(i:Int)-1:=Pr J J;refine⟨((i:Int)-1,T.set i (OV (Pv a0) m i)),i,?_,⟨T.set i (OV (Pv a0) m i),rfl,J,by simp[hl],λj h1 h2=>?_⟩,J⟩
    ·rw[hi1];simp only[Wa,hd,ABU,hd0,hsh,hg1,hg2,decide_true,ACD,ACE,i3,ABX,QX,i4,e4,ABT,hs,hw]
    grind)
  n a0.length ((a0.length:Int)-1,(List.replicate (a0.length+1) ([]:By)).set a0.length (List.replicate (2 ^ m) 0)) ⟨_,rfl,AAc _,OF,λj h1 h2=>by
   have:j=a0.length:=J
   subst this;rw[ACP OF];refine congrArg some (ABt λs=>?_);by_cases hs:s<2 ^ m
   ·rw[X7 hs,List.getElem?_replicate,AAP hs,List.drop_of_length_le (by simp[Pv])];rfl
   ·rw[List.getElem?_eq_none No,List.getElem?_eq_none (by rw[X8];omega)]⟩ ADd
 refine⟨T,?_,hz2,hz3⟩;have hw:Pn ((a0.length:Int)-1)=(a0.length:Int)-1:=Pr J J;unfold Y9;rw[hcol,ABT,e0,g0,hd0,hsh];simp only[hg1,hg2,decide_true,ACD,ACE,ABU,ABX,iN,QX,hw,hz,hz1,ABT]
theorem bZ(hc:CM a0 m)(n:Nat)(hn:Ps<=n):XN n a0=some true:=by
 have hm10:=hc.m10;have hnm:=hc.nm
 have h1:=Rl (Ut n a0) a0 (λ_=>true) (λi x hi hx=>by
  obtain⟨_,rfl⟩:=AAK.1 hx;have hl:=hc.row _ (ABW hi);have h0:0<a0.length:=J
  have hl0:=hc.row _ (ABW h0)
  have h2:=Rl (Uu a0[i]) a0[i] (λ_=>true) (λk y hk hy=>by
   obtain⟨_,rfl⟩:=AAK.1 hy;have hb:=hc.NC _ (ABW hi) _ (ABW hk);have hd:decide ((k:Int)<(a0[i].length:Int))=true:=by rw[AAf];omega
   have yt:P7 a0[i][k] 0 100000=some true:=by unfold P7;rw[show decide (a0[i][k]>=0)=true from ABZ hb.1,show decide (a0[i][k]<=100000)=true from ABZ hb.2];rfl
   simp only[Uu,hd,ABU,Pk hk,ABT,yt,ABc,ABV,Pj hk J]) (by
   have hd:decide ((a0[i].length:Int)<(a0[i].length:Int))=false:=OF
   simp only[Uu,hd,ABV]) n ADd
  have hd:decide ((i:Int)<(a0.length:Int))=true:=by rw[AAf];omega
  have zq:a0[i].all (λ_=>true)=true:=OF
  rw[zq,ABU]at h2
  have yt:P7 (m:Int) (a0.length:Int) 10=some true:=by unfold P7;rw[show decide ((m:Int)>=(a0.length:Int))=true by rw[AAf];omega,show decide ((m:Int)<=10)=true by rw[AAf];omega];rfl
  have hg0:JQ a0 0=some a0[0]:=Pk h0;have zD:((m:Int) != (m:Int))=false:=OF
  simp only[Ut,hd,ABU,Pk hi,hg0,ABT,hl0,hl,zD,ABV,yt,ABc,h2,Pj hi J]
  ) (by
  have hd:decide ((a0.length:Int)<(a0.length:Int))=false:=OF
  simp only[Ut,hd,ABV]) n ADd
 have zq:a0.all (λ_=>true)=true:=OF
 rw[zq,ABU]at h1;unfold XN;grind
theorem cJ(hc:CM a0 m)(n:Nat)(hn:Ps<=n):XY n a0=some true:=by
 have hm10:=hc.m10;have hnm:=hc.nm
 have h1:=Rl (U1 n a0) a0 (λ_=>true) (λi x hi hx=>by
  obtain⟨_,rfl⟩:=AAK.1 hx;have hl:=hc.row _ (ABW hi);have h0:0<a0.length:=J
  have hl0:=hc.row _ (ABW h0)
  have h2:=Rl (U2 a0 (i:Int)) a0[i] (λ_=>true) (λk y hk hy=>by
   obtain⟨_,rfl⟩:=AAK.1 hy;have hb:=hc.NC _ (ABW hi) _ (ABW hk);have hd:decide ((k:Int)<(a0[i].length:Int))=true:=by rw[AAf];omega
   have yt:Pw a0[i][k] 0 100000=some true:=by rw[Q8];unfold Qg;rw[ABZ hb.1,ABZ hb.2];rfl
   simp only[U2,hd,ABU,Pk hi,Pk hk,ABT,yt,ABc,ABV,Pj hk J]) (by
   have hd:decide ((a0[i].length:Int)<(a0[i].length:Int))=false:=OF
   simp only[U2,Pk hi,ABT,hd,ABV]) n ADd
  have hd:decide ((i:Int)<(a0.length:Int))=true:=by rw[AAf];omega
  have zq:a0[i].all (λ_=>true)=true:=OF
  rw[zq,ABU]at h2;have hg0:JQ a0 0=some a0[0]:=Pk h0;have zD:((m:Int) != (m:Int))=false:=OF
  have h10:decide ((m:Int)>10)=false:=by rw[AAl];omega
  have zA:decide ((m:Int)<(a0.length:Int))=false:=by rw[AAl];omega
  simp only[U1,hd,ABU,Pk hi,hg0,ABT,hl0,hl,zD,h10,zA,ABV,h2,Pj hi J]
  ) (by
  have hd:decide ((a0.length:Int)<(a0.length:Int))=false:=OF
  simp only[U1,hd,ABV]) n ADd
 have zq:a0.all (λ_=>true)=true:=OF
 rw[zq,ABU]at h1;unfold XY;grind
theorem jq{p:Nat->Bool}(h:(bQ m s).find? p=some k):∀j,j<k->s.testBit j=false->p j=false:=by unfold bQ at h;rw[List.find?_filter,List.find?_range_eq_some]at h;grind
def Pp(l:Is):By:=l.map λk:Nat=>(k:Int)
theorem aG(hc:CM a0 m)(h0:a0=[]->m=0)(n:Nat)(hn:Ps<=n):∃s,Xw n a0=some (Pp (pk (Pv a0) (List.range m)),s)/\Y0 (Pv a0) (List.range m)=some s:=by
 have hm10:=hc.m10;have hnm:=hc.nm;have hp:=iC hm10;have rb:=hc.rb;have hR:(Pv a0).length=a0.length:=by simp[Pv]
 obtain⟨T,t1,t2,t3⟩:=fT hc h0 n hn;have hS0:bQ m 0=List.range m:=by unfold bQ;simp
 obtain⟨z,⟨s',hz1⟩,hz⟩:=UJ (f:=WU n a0 T)
  (λk x=>∃(i s:Nat) (out:By),x=(out,(s:Int),(i:Int))/\i+k=a0.length/\s<2 ^ m/\a0.length-i<=(bQ m s).length/\out++Pp (pk ((Pv a0).drop i) (bQ m s))=Pp (pk (Pv a0) (List.range m))/\out.length=i)
  (λz=>∃s:Int,z=(Pp (pk (Pv a0) (List.range m)),s,(a0.length:Int)))
  (λk x hx=>by
   obtain⟨i,s,out,rfl,hk,hs,hl,hout,hol⟩:=hx;by_cases hi:i=a0.length
   ·left;subst hi;have hd:decide ((a0.length:Int)<(a0.length:Int))=false:=OF
    refine⟨(out,(s:Int),(a0.length:Int)),by simp only[WU,hd,ABV],(s:Int),?_⟩;rw[List.drop_of_length_le J]at hout;simp only[pk,Pp,List.map_nil,ABn]at hout;rw[hout];rfl
   ·right;have hi':i<a0.length:=J
    have hd:decide ((i:Int)<(a0.length:Int))=true:=by rw[AAf];omega
    have hrl:=hc.row _ (ABW hi')
    have hdrop:(Pv a0).drop i=ga a0[i]::(Pv a0).drop (i+1):=by rw[ABh J];congr 1;exact ABj ..
    obtain⟨x,hx⟩:=jm ((Pv a0).drop i) (bQ m s) (mq m s) No;have hx':=hx;rw[hdrop]at hx';obtain⟨q,hq,hf,y,hy,hxy⟩:=hZ hx';obtain⟨qm,qb⟩:=gm.1 hq;have hcont:=jq hf;have hw3:Pn ((i:Int)+1)=((i+1:Nat):Int):=Pj hi' J;have i1:O3 T ((i+1:Nat):Int)=true:=Po J;have e1:=t3 (i+1) J;have i2:O3 T (i:Int)=true:=Po J;have e2:=t3 i J;have i3:O3 (OV (Pv a0) m i) (s:Int)=true:=Po (by rw[X8];exact hs);have e3:=X7 (R:=Pv a0) (i:=i) hs;rw[hx]at e3;have bit:∀k,k<m->(Oi .i64 (OY .i64 (s:Int) (k:Int)) 1==1)=s.testBit k:=λk hk=>qZ J J
    have pow:∀k,k<m->OX .i64 1 (k:Int)=((2 ^ k:Nat):Int)/\PW .i64 (s:Int) ((2 ^ k:Nat):Int)=((s ||| 2 ^ k:Nat):Int):=λk hk=>by have hk10:2 ^ k<1024:=AA4 (Nat.pow_lt_pow_right J hk) hp;exact⟨qM J,wj J hk10⟩
    have yt:iter n (SL T (out,(s:Int),(i:Int)) a0[i]) (out,(s:Int),0)=some (out++[(q:Int)],((s ||| 2 ^ q:Nat):Int),(q:Int)):=by
     have common:∀k,k<m->s.testBit k=false->∀v,Y0 ((Pv a0).drop (i+1)) (bQ m (s ||| 2 ^ k))=some v->0<=ga a0[i] k+v/\ga a0[i] k+v<=2000000/\0<=v:=λk hk hb v hv=>by have:=rb.val hv;have:=rb.b (ga a0[i]) (ACV (ABW hi')) k hk;omega
     have:=P8 (SL T (out,(s:Int),(i:Int)) a0[i]) (λk=>(out,(s:Int),(k:Int))) q (out++[(q:Int)],((s ||| 2 ^ q:Nat):Int),(q:Int)) (λk hk=>by
      have hkm:k<m:=J
      have hdk:decide ((k:Int)<(a0[i].length:Int))=true:=by rw[AAf];omega
      have hd0:decide (0<=(k:Int))=true:=by rw[AAf];omega
      have hb:=bit k hkm;obtain⟨p1,p2⟩:=pow k hkm;have hwk:Pn ((k:Int)+1)=((k+1:Nat):Int):=Pj hkm J;cases hbt:s.testBit k with
      |true=>
       rw[hbt]at hb;simp only[SL,hdk,hd0,ABU,hb,ABT,hwk]
      |false=>
       rw[hbt]at hb;have zA:=gl hs hkm;have i4:O3 (OV (Pv a0) m (i+1)) ((s ||| 2 ^ k:Nat):Int)=true:=Po (by rw[X8];exact zA);have e4:=X7 (R:=Pv a0) (i:=i+1) zA;have e5:JQ a0[i] (k:Int)=some (ga a0[i] k):=by rw[RU];exact Tm J
       have hpk:=hcont k hk hbt;rw[Xp hbt]at hpk;cases hB:Y0 ((Pv a0).drop (i+1)) (bQ m (s ||| 2 ^ k))with
       |none=>
        rw[hB]at e4;have hneg:decide (T9 none<0)=true:=by simp[T9]
        simp only[SL,hdk,hd0,ABU,ABV,hb,ABT,hwk,hw3,i1,e1,p1,p2,ABX,i4,e4,hneg]
       |some v=>
        rw[hB]at e4 hpk;obtain⟨v1,v2,v3⟩:=common k hkm hbt v hB;have hneg:decide (T9 (some v)<0)=false:=ABd (show ¬v<0 by omega);have hww:Pn (ga a0[i] k+T9 (some v))=ga a0[i] k+v:=Pr (n:=ga a0[i] k+v) J J;rw[hx']at hpk
        have hneq:(ga a0[i] k+v != T9 (some x))=true:=by
         have:ga a0[i] k+v≠x:=λe=>No
         simp only[T9,AB2];exact this
        simp only[SL,hdk,hd0,ABU,ABV,hb,ABT,hwk,hw3,i1,e1,p1,p2,ABX,i4,e4,hneg,e5,hww,i2,e2,i3,e3,hneq]) (by
      have hdk:decide ((q:Int)<(a0[i].length:Int))=true:=by rw[AAf];omega
      have hd0:decide (0<=(q:Int))=true:=by rw[AAf];omega
      have hb:=bit q qm;rw[qb]at hb;obtain⟨p1,p2⟩:=pow q qm;have zA:=gl hs qm;have i4:O3 (OV (Pv a0) m (i+1)) ((s ||| 2 ^ q:Nat):Int)=true:=Po (by rw[X8];exact zA);have e4:=X7 (R:=Pv a0) (i:=i+1) zA;have e5:JQ a0[i] (q:Int)=some (ga a0[i] q):=by rw[RU];exact Tm J
      rw[Xp qb]at hy;rw[hy]at e4;obtain⟨v1,v2,v3⟩:=common q qm qb y hy;have hneg:decide (T9 (some y)<0)=false:=ABd (show ¬y<0 by omega);have hww:Pn (ga a0[i] q+T9 (some y))=ga a0[i] q+y:=Pr (n:=ga a0[i] q+y) J J
      have hneq:(ga a0[i] q+y != T9 (some x))=false:=by simp only[T9,bne_eq_false_iff_eq];exact hxy.symm
      have yz:decide (out.length+[(q:Int)].length<=Dj)=true:=Ru J;simp only[SL,hdk,hd0,ABU,ABV,hb,ABT,hw3,i1,e1,p1,p2,ABX,i4,e4,hneg,e5,hww,i2,e2,i3,e3,hneq,yz]) n ADd
     simpa using this
    have hpk:pk ((Pv a0).drop i) (bQ m s)=q::pk ((Pv a0).drop (i+1)) (bQ m (s ||| 2 ^ q)):=by rw[hdrop];simp only[pk,hf];rw[Xp qb]
    refine⟨(out++[(q:Int)],((s ||| 2 ^ q:Nat):Int),((i+1:Nat):Int)),k-1,?_,⟨i+1,s ||| 2 ^ q,out++[(q:Int)],rfl,J,gl hs qm,?_,?_,by simp[hol]⟩,J⟩
    ·simp only[WU,hd,ABU,Pk hi',ABT,yt,hw3]
    ·rw[<-Xp qb,List.length_erase_of_mem hq];omega
    ·rw[<-hout,hpk];simp[Pp])
  n a0.length (([]:By),0,0) ⟨0,0,[],rfl,J,Nat.pow_pos J,No,by rw[hS0];rfl,rfl⟩ ADd
 obtain⟨x,hx⟩:=jm (Pv a0) (List.range m) AB7 No;refine⟨x,?_,hx⟩;have i1:O3 T 0=true:=Po (show 0<T.length by omega);have e1:=t3 0 J;have i2:O3 (OV (Pv a0) m 0) 0=true:=Po (show 0<_ by rw[X8];grind);have e2:=X7 (R:=Pv a0) (m:=m) (i:=0) (s:=0) (Nat.pow_pos J);rw[hS0,List.drop_zero,hx]at e2;unfold Xw;rw[bZ hc n hn];simp only[ABT,ABc,ABV,t1,hz,hz1,i1,e1,ABU,ACQ,i2,e2,T9]
theorem bU(h:S.Nodup)(hj:j<S.length):S.erase S[j]=S.eraseIdx j:=by
 have hs:S=S.take j++S[j]::S.drop (j+1):=by rw[<-ABh hj,ABz]
 grind
theorem eV(h:S.Nodup)(hi:i<S.length)(hj:j<S.length)(e:S[i]=S[j]):i=j:=by
 rcases ABg i j with h1|h1|h1
 ·exact absurd e (ABR.1 h i j hi hj h1)
 ·exact h1
 ·exact absurd e.symm (ABR.1 h j i hj hi h1)
theorem lZ(g:Nat->Nat)(hn:S.Nodup)(hg:∀a∈S,∀b∈S,g a=g b->a=b)(hk:k∈S):(S.map g).erase (g k)=(S.erase k).map g:=by
 have hm:(S.map g).Nodup:=by unfold List.Nodup;rw[ABk];exact ACN (fun {a b} ha hb hab e=>hab (hg a ha b hb e)) hn
 rw[hm.erase_eq_filter,hn.erase_eq_filter,List.filter_map];congr 1;refine List.filter_congr λx hx=>?_;grind
theorem AS.rename(g:Nat->Nat):∀(R:List (Nat->Int)) (S:Is) (x:Int),S.Nodup->(∀a∈S,∀b∈S,g a=g b->a=b)->(AS (R.map λr k=>r (g k)) S x↔AS R (S.map g) x)
 | [],S,x,_,_=>Iff.rfl
 |r::R,S,x,hn,hg=>by
  have ih:∀k∈S,∀y,AS (R.map λr k=>r (g k)) (S.erase k) y↔AS R ((S.map g).erase (g k)) y:=λk hk y=>by rw[lZ g hn hg hk];exact AS.rename g R (S.erase k) y (hn.erase k) (λa ha b hb=>hg a (ABr ha) b (ABr hb))
  refine⟨λ⟨k,hk,y,hy,e⟩=>⟨g k,ACV hk,y,(ih k hk y).1 hy,e⟩,λ⟨q,hq,y,hy,e⟩=>?_⟩;obtain⟨k,hk,rfl⟩:=AAt.1 hq;exact⟨k,hk,y,(ih k hk y).2 hy,e⟩
theorem AS.pt:∀(R R2:List (Nat->Int)) (S:Is) (x:Int),R.length=R2.length->(∀i (h1:i<R.length) (h2:i<R2.length),∀k∈S,R[i] k=R2[i] k)->AS R S x->AS R2 S x
 | [],[],S,x,_,_,h=>h
 | [],r::R2,S,x,hl,_,_=>ADz
 |r::R,[],S,x,hl,_,_=>ADz
 |r::R,r2::R2,S,x,hl,hc,⟨k,hk,y,hy,e⟩=>by have h0:=hc 0 OF OF k hk;simp only[ACO]at h0;refine⟨k,hk,y,AS.pt R R2 (S.erase k) y No (λi h1 h2 q hq=>?_) hy,by rw[e,h0]⟩;have:=hc (i+1) ADg ADg q (ABr hq);simpa only[List.getElem_cons_succ]using this
def Rs(rows:List By)(S:Is):List By:=rows.map λr=>S.map (ga r)
theorem lG(rows:List By)(hn:S.Nodup)(x:Int):AS (Pv (Rs rows S)) (List.range S.length) x↔AS (Pv rows) S x:=by
 have hS:(List.range S.length).map (λk=>S.getD k 0)=S:=by apply ACG OF;intro i h1 h2;simp[AAI h2]
 have e:AS ((Pv rows).map λ(r:Nat->Int) k=>r (S.getD k 0)) (List.range S.length) x↔AS (Pv rows) S x:=by
  have:=AS.rename (λk=>S.getD k 0) (Pv rows) (List.range S.length) x AB7 (λa ha b hb h=>by
   rw[AAX]at ha hb;simp only[List.getD,AAI ha,AAI hb,AA8]at h;exact eV hn ha hb h)
  rw[hS]at this;exact this
 have same:∀i (h1:i<(Pv (Rs rows S)).length) (h2:i<((Pv rows).map λ(r:Nat->Int) k=>r (S.getD k 0)).length),∀k∈List.range S.length,(Pv (Rs rows S))[i] k=((Pv rows).map λ(r:Nat->Int) k=>r (S.getD k 0))[i] k:=λi h1 h2 k hk=>by
  rw[AAX]at hk;have hi:i<rows.length:=by simpa[Pv,Rs]using h1
  have e1:(Pv (Rs rows S))[i]=ga (S.map (ga rows[i])):=by simp[Pv,Rs]
  have e2:((Pv rows).map λ(r:Nat->Int) k=>r (S.getD k 0))[i]=λk=>ga rows[i] (S.getD k 0):=by simp[Pv]
  rw[e1,e2];show ga (S.map (ga rows[i])) k=ga rows[i] (S.getD k 0);rw[List.getD,AAI hk,AA8];generalize ga rows[i]=f;unfold ga;grind
 have hl:(Pv (Rs rows S)).length=((Pv rows).map λ(r:Nat->Int) k=>r (S.getD k 0)).length:=by simp[Pv,Rs]
 exact⟨λh=>e.1 (AS.pt _ _ _ x hl same h),λh=>AS.pt _ _ _ x hl.symm (λi h1 h2 k hk=>(same i h2 h1 k hk).symm) (e.2 h)⟩
theorem o3(hc:CM a0 m)(i:Nat)(hs:∀k∈S,k<m)(hl:a0.length-i<=S.length)(h10:S.length<=10):CM (Rs (a0.drop i) S) S.length:=by
 refine⟨λr hr=>?_,by simp[Rs];omega,h10,λr hr x hx=>?_⟩
 ·obtain⟨q,_,rfl⟩:=AAt.1 hr;simp
 ·obtain⟨q,hq,rfl⟩:=AAt.1 hr;obtain⟨k,hk,rfl⟩:=AAt.1 hx;have hq2:=ACK hq;have:=hc.row q hq2;have hg:q[k]?=some (ga q k):=Tm No;exact hc.NC q hq2 _ (AAN hg)
theorem Yx(x:List α)(j:Nat):sub x 0 j=x.take j:=by simp[sub]
theorem bM(x:List α)(j:Nat):sub x j x.length=x.drop j:=by unfold sub;exact ABv OF
theorem bJ(rows:List By)(hl:rows.length<=10)(h10:S.length<=10)(hj:j<S.length)(n:Nat)(hn:Ps<=n):Sr n (Rs rows S) (j:Int)=some (Rs (rows.drop 1) (S.eraseIdx j)):=by
 have hL:(Rs rows S).length=rows.length:=by simp[Rs]
 by_cases h0:rows.length=0
 ·have:rows=[]:=AAO h0;subst this;obtain⟨k,rfl⟩:∃k,n=k+1:=⟨n-1,ADd⟩;unfold Sr;rw[QO (z:=(([]:List By),(1:Int))) (by simp[SF,Rs])];rfl
 have hw:Pn ((j:Int)+1)=((j+1:Nat):Int):=Pj hj J
 have:=P8 (SF (Rs rows S) (j:Int)) (λi=>((Rs (rows.drop 1) (S.eraseIdx j)).take i,((i+1:Nat):Int))) (rows.length-1) (Rs (rows.drop 1) (S.eraseIdx j),(rows.length:Int)) (λi hi=>by
  have hi1:i+1<(Rs rows S).length:=by rw[hL];omega
  have hd:decide (((i+1:Nat):Int)<((Rs rows S).length:Int))=true:=by rw[AAf];omega
  have hg:JQ (Rs rows S) ((i+1:Nat):Int)=some (S.map (ga (rows[i+1]'(by omega)))):=by rw[Pk hi1];simp[Rs]
  generalize hr:rows[i+1]'(by omega)=r at hg;have hlen:(S.map (ga r)).length=S.length:=OF
  have c1:decide (0<=(0:Int))=true:=rfl;have c2:decide ((0:Int)<=(j:Int))=true:=by rw[AAf];omega
  have c3:decide ((j:Int)<=((S.map (ga r)).length:Int))=true:=by rw[AAf,hlen];omega
  have c4:decide ((0:Int)<=((j+1:Nat):Int))=true:=by rw[AAf];omega
  have c5:decide (((j+1:Nat):Int)<=((S.map (ga r)).length:Int))=true:=by rw[AAf,hlen];omega
  have c6:decide (((S.map (ga r)).length:Int)<=((S.map (ga r)).length:Int))=true:=OF
  have c7:decide (([]:By).length+(sub (S.map (ga r)) 0 j).length<=Dj)=true:=by rw[Yx,AAf];simp[Dj];omega
  have c8:decide ((([]:By)++sub (S.map (ga r)) 0 j).length+(sub (S.map (ga r)) (j+1) (S.map (ga r)).length).length<=Dj)=true:=by rw[Yx,bM,AAf];simp[Dj];omega
  have c9:∀q:By,decide (((Rs (rows.drop 1) (S.eraseIdx j)).take i).length+[q].length<=Dj)=true:=λq=>by rw[AAf];simp[Dj,Rs];omega
  have hw2:Pn (((i+1:Nat):Int)+1)=((i+1+1:Nat):Int):=Pj (show i+1<rows.length by omega) J
  have hval:([]:By)++sub (S.map (ga r)) 0 j++sub (S.map (ga r)) (j+1) (S.map (ga r)).length=(S.eraseIdx j).map (ga r):=by rw[Yx,bM,AA0,List.eraseIdx_eq_take_drop_succ,List.map_append,List.map_take,List.map_drop]
  simp only[SF,hd,ABU,hg,ABT,c1,c2,c3,hw,c4,c5,c6,ACE,ACQ,ABX,c7,c8,c9,hw2,hval];congr 4;have hi2:i<(Rs (rows.drop 1) (S.eraseIdx j)).length:=by simp[Rs];omega
  rw[ABe hi2];congr 2;simp only[Rs,ABj,ACa];rw[<-hr];congr 3;omega) (by
  have hd:decide (((rows.length-1+1:Nat):Int)<((Rs rows S).length:Int))=false:=by rw[AAl,hL];omega
  simp only[SF,hd,ABV];rw[ABv (by simp[Rs]),show rows.length-1+1=rows.length by omega]) n ADd
 unfold Sr;grind
theorem Wi(hc:CM a0 m)(h0:a0=[]->m=0)(n:Nat)(hn:Ps<=n):∃s,WQ n a0=some (Pp (pk (Pv a0) (List.range m)),s)/\Y0 (Pv a0) (List.range m)=some s:=by
 have hm10:=hc.m10;have hnm:=hc.nm;have rb:=hc.rb;have hR:(Pv a0).length=a0.length:=by simp[Pv]
 obtain⟨s0,hs0,hL0⟩:=eO hc n hn;have hb0:=km hL0
 have hnames:iter n (Uj a0) (([]:By),0)=some (Pp (List.range m),(m:Int)):=by
  have:=P8 (Uj a0) (λi=>(Pp (List.range i),(i:Int))) m (Pp (List.range m),(m:Int)) (λi hi=>by
   have hl:0<a0.length:=by
    rcases ACX a0.length with e|e
    ·have:=h0 (AAO e);omega
    ·exact e
   have hd:decide ((a0.length:Int)>0)=true:=by rw[AAf];omega
   have hg:JQ a0 0=some a0[0]:=Pk hl;have hd2:decide ((i:Int)<(a0[0].length:Int))=true:=by rw[AAf,hc.row _ (ABW hl)];omega
   have hr:decide ((Pp (List.range i)).length+[(i:Int)].length<=Dj)=true:=Ru (by simp[Pp];omega);simp only[Uj,hd,ABU,hg,ABT,hd2,hr,Pj hi J];congr 3;simp[Pp,AB3]) (by
   by_cases e:a0=[]
   ·subst e;rw[h0 rfl];rfl
   ·have hl:0<a0.length:=List.length_pos_iff.2 e;have hd:decide ((a0.length:Int)>0)=true:=by rw[AAf];omega
    have hg:JQ a0 0=some a0[0]:=Pk hl;have hd2:decide ((m:Int)<(a0[0].length:Int))=false:=by rw[AAl,hc.row _ (ABW hl)];omega
    simp only[Uj,hd,ABU,hg,ABT,hd2,ABV]) n ADd
  simpa[Pp]using this
 obtain⟨z,hz1,hz⟩:=UJ (f:=Wh n)
  (λk x=>∃(i:Nat) (S:Is) (out:By) (left:Int),x=(out,left,Rs (a0.drop i) S,Pp S)/\i+k=a0.length/\S.Nodup/\(∀k∈S,k<m)/\a0.length-i<=S.length/\S.length<=10/\Y0 ((Pv a0).drop i) S=some left/\out++Pp (pk ((Pv a0).drop i) S)=Pp (pk (Pv a0) (List.range m))/\out.length=i)
  (λz=>z.1=Pp (pk (Pv a0) (List.range m)))
  (λk x hx=>by
   obtain⟨i,S,out,left,rfl,hk,hnd,hsm,hl,h10,hb,hout,hol⟩:=hx;have hLen:(Rs (a0.drop i) S).length=a0.length-i:=by simp[Rs]
   by_cases hi:i=a0.length
   ·left;subst hi;have hd:decide (((Rs (a0.drop a0.length) S).length:Int)>0)=false:=by rw[AAl,hLen];omega
    refine⟨(out,left,Rs (a0.drop a0.length) S,Pp S),by simp only[Wh,hd,ABV],?_⟩;rw[List.drop_of_length_le (by rw[hR];exact AAc _)]at hout;simpa only[pk,Pp,List.map_nil,ABn]using hout
   ·right;have hi':i<a0.length:=J
    have hd:decide (((Rs (a0.drop i) S).length:Int)>0)=true:=by rw[AAf,hLen];omega
    have hdrop:(Pv a0).drop i=ga a0[i]::(Pv a0).drop (i+1):=by rw[ABh J];congr 1;exact ABj ..
    have zJ:=hb;rw[hdrop]at zJ;obtain⟨q,hq,hf,y,hy,hxy⟩:=hZ zJ;obtain⟨hpq,pre,bs,hSab,hfail⟩:=List.find?_eq_some_iff_append.1 hf;have hj:pre.length<S.length:=by rw[hSab];simp
    have hSj:S[pre.length]=q:=by simp[hSab]
    have hg0:JQ (Rs (a0.drop i) S) 0=some (S.map (ga a0[i])):=by rw[show(0:Int)=((0:Nat):Int)from rfl,Pk (by rw[hLen];omega)];simp[Rs]
    have hRd:∀i,Pv (a0.drop i)=(Pv a0).drop i:=λi=>by simp[Pv,List.map_drop]
    have lst:∀j (hj:j<S.length),∃v,S8 n (Rs (a0.drop (i+1)) (S.eraseIdx j))=some v/\Y0 ((Pv a0).drop (i+1)) (S.erase S[j])=some v/\0<=v/\v<=1000000:=λj hj=>by
     have hnd2:(S.eraseIdx j).Nodup:=hnd.sublist (List.eraseIdx_sublist ..);have zN:(S.eraseIdx j).length=S.length-1:=by rw[List.length_eraseIdx,AAP hj]
     have hsm2:∀k∈S.eraseIdx j,k<m:=λk hk=>hsm k (List.mem_of_mem_eraseIdx hk);obtain⟨v,v1,v2⟩:=eO (o3 hc (i+1) hsm2 J J) n hn
     have v3:pf ((Pv a0).drop (i+1)) (S.erase S[j]) v:=by rw[bU hnd hj,<-hRd];exact⟨(lG _ hnd2 v).1 v2.1,λy hy=>v2.2 y ((lG _ hnd2 y).2 hy)⟩
     have v4:=km v3;refine⟨v,v1,v4,dp v4 (λr hr k hk=>(rb.b r (ACK hr) k (hsm k (ABr hk))).1),?_⟩;have:=mw v4 (M:=100000) J (λr hr k hk=>(rb.b r (ACK hr) k (hsm k (ABr hk))).2);rw[ACF,hR]at this;omega
    have wo:∀j,j<S.length->Sr n (Rs (a0.drop i) S) (j:Int)=some (Rs (a0.drop (i+1)) (S.eraseIdx j)):=λj hj=>by
     rw[bJ (a0.drop i) ADg h10 hj n hn,List.drop_drop]
    have cost:∀j (hj:j<S.length),JQ (S.map (ga a0[i])) (j:Int)=some (ga a0[i] S[j])/\0<=ga a0[i] S[j]/\ga a0[i] S[j]<=100000:=λj hj=>by refine⟨?_,rb.b (ga a0[i]) (ACV (ABW hi')) _ (hsm _ (ABW hj))⟩;rw[Pk ADx];simp
    have yt:iter n (Uk n) (out,left,Rs (a0.drop i) S,Pp S,0)=some (out++[(q:Int)],y,Rs (a0.drop (i+1)) (S.erase q),Pp (S.erase q),(pre.length:Int)):=by
     have:=P8 (Uk n) (λj=>(out,left,Rs (a0.drop i) S,Pp S,(j:Int))) pre.length (out++[(q:Int)],y,Rs (a0.drop (i+1)) (S.erase q),Pp (S.erase q),(pre.length:Int)) (λj hja=>by
      have hjS:j<S.length:=J
      have hdj:decide ((j:Int)<((S.map (ga a0[i])).length:Int))=true:=by rw[AAf];simp;omega
      obtain⟨v,v1,v2,v3,v4⟩:=lst j hjS;obtain⟨c1,c2,c3⟩:=cost j hjS;have hww:Pn (ga a0[i] S[j]+v)=ga a0[i] S[j]+v:=Pr J J
      have zD:(ga a0[i] S[j]+v==left)=false:=by
       have hmem:S[j]∈pre:=by
        have:S[j]=pre[j]:=by simp[hSab,hja]
        rw[this];exact ABW hja
       have:=hfail S[j] hmem;rw[v2,zJ]at this;simpa using this
      simp only[Uk,hg0,ABT,hdj,ABU,wo j hjS,c1,v1,hww,zD,ABV,Pj hja J]) (by
      have hdj:decide ((pre.length:Int)<((S.map (ga a0[i])).length:Int))=true:=by rw[AAf];simp;omega
      obtain⟨v,v1,v2,v3,v4⟩:=lst pre.length hj;obtain⟨c1,c2,c3⟩:=cost pre.length hj;rw[hSj]at v2 c1 c2 c3;rw[hy]at v2;injection v2 with v2
      subst v2;have hww:Pn (ga a0[i] q+y)=ga a0[i] q+y:=Pr J J;have he:(ga a0[i] q+y==left)=true:=by rw[<-hxy];simp
      have hcl:(Pp S).length=S.length:=by simp[Pp]
      have i1:O3 (Pp S) (pre.length:Int)=true:=Po J
      have e1:(Pp S)[pre.length]?=some (q:Int):=by unfold Pp;rw[AAb,AAI hj,hSj];rfl
      have r1:decide (out.length+[(q:Int)].length<=Dj)=true:=Ru J;have p9:Pn ((pre.length:Int)+1)=((pre.length+1:Nat):Int):=Pj hj J;have hwl:Pn (left-ga a0[i] q)=y:=by rw[hxy,Pr J J];omega
      have d1:decide (0<=(0:Int))=true:=rfl;have d2:decide ((0:Int)<=(pre.length:Int))=true:=by rw[AAf];omega
      have d3:decide ((pre.length:Int)<=((Pp S).length:Int))=true:=by rw[AAf,hcl];omega
      have d4:decide ((0:Int)<=((pre.length+1:Nat):Int))=true:=by rw[AAf];omega
      have d5:decide (((pre.length+1:Nat):Int)<=((Pp S).length:Int))=true:=by rw[AAf,hcl];omega
      have d6:decide (((Pp S).length:Int)<=((Pp S).length:Int))=true:=OF
      have c7:decide (([]:By).length+(sub (Pp S) 0 pre.length).length<=Dj)=true:=by rw[Yx,AAf];simp[Dj,Pp];omega
      have c8:decide ((([]:By)++sub (Pp S) 0 pre.length).length+(sub (Pp S) (pre.length+1) (Pp S).length).length<=Dj)=true:=by rw[Yx,bM,AAf];simp[Dj,Pp];omega
      have hval:([]:By)++sub (Pp S) 0 pre.length++sub (Pp S) (pre.length+1) (Pp S).length=Pp (S.erase q):=by rw[Yx,bM,AA0,<-hSj,bU hnd hj,List.eraseIdx_eq_take_drop_succ];simp[Pp]
      have hnext:S.eraseIdx pre.length=S.erase q:=by rw[<-bU hnd hj,hSj]
      simp only[Uk,hg0,ABT,hdj,ABU,wo pre.length hj,c1,v1,hww,he,i1,e1,r1,d1,d2,d3,d4,d5,d6,p9,hwl,ACE,ACQ,ABX,c7,c8,hval];rw[hnext]) n ADd
     simpa using this
    have hpk:pk ((Pv a0).drop i) S=q::pk ((Pv a0).drop (i+1)) (S.erase q):=by rw[hdrop];simp only[pk,hf]
    have zN:(S.erase q).length=S.length-1:=List.length_erase_of_mem hq;refine⟨(out++[(q:Int)],y,Rs (a0.drop (i+1)) (S.erase q),Pp (S.erase q)),k-1,?_,⟨i+1,S.erase q,out++[(q:Int)],y,rfl,J,hnd.erase q,λk hk=>hsm k (ABr hk),J,J,hy,?_,by simp[hol]⟩,J⟩
    ·simp only[Wh,hd,ABU,yt,ABT]
    ·rw[<-hout,hpk];simp[Pp])
  n a0.length (([]:By),s0,a0,Pp (List.range m)) ⟨0,List.range m,[],s0,by
   congr 3;rw[List.drop_zero];unfold Rs;apply ACG OF;intro r h1 h2;rw[ABj];have hl:=hc.row _ (ABW h1);apply ACG (by simp[hl]);intro k k1 k2;rw[ABj,List.getElem_range];unfold ga;rw[List.getD,AAI k1,AA8],J,AB7,λk hk=>AAX.1 hk,ADg,ADg,hb0,rfl,rfl⟩ ADd
 refine⟨s0,?_,hb0⟩;unfold WQ;rw[cJ hc n hn];grind
theorem Y1{β:Type}(L:List β×Int->Option ((List β×Int)⊕(List β×Int)))(f:Nat->β)(m:Nat)
  (hL:∀i,i<m->L ((List.range i).map f,(i:Int))=some (.inl ((List.range i).map f++[f i],((i+1:Nat):Int)))) (he:L ((List.range m).map f,(m:Int))=some (.inr ((List.range m).map f,(m:Int)))) (n:Nat) (hn:m<n):
  iter n L ([],0)=some ((List.range m).map f,(m:Int)):=by
 have:=P8 L (λi=>((List.range i).map f,(i:Int))) m ((List.range m).map f,(m:Int)) (λi hi=>by
  rw[hL i hi,AB3,List.map_append];rfl) he n hn
 grind
def UZ(w h:Int)(c:By)(a b:Int):Int:=(Tx Ps w h c a b).getD (-1)
theorem bL{w:Int}(hc:c.length<=1048576)(hf:P3 w h c=true)(a b:Int)(n:Nat)(hn:Ps<=n):
  Tx n w h c a b=some (UZ w h c a b)/\Tq n w h c a b=some (UZ w h c a b) /\ -1<=UZ w h c a b/\UZ w h c a b<100:=by
 have f:=WC hf;have hN:=f.le
 have zP:∀(n:Nat),Ps<=n->∀i,T4 n w h c i=some (Qg i 0 ((c.length:Int)-1)):=λn hn i=>by unfold T4;rw[QT w h c hc n hn,hf,show Pn ((c.length:Int)-1)=(c.length:Int)-1 from Pr ADb ADb];simp only[ABT,ABU,Q8]
 have hic:∀i,Ts w h c i=some (Qg i 0 ((c.length:Int)-1)):=λi=>by unfold Ts;rw[show Pn ((c.length:Int)-1)=(c.length:Int)-1 from Pr ADb ADb];simp only[ABT,eI];rfl
 have key:∃s, -1<=s/\s<100/\∀n,Ps<=n->Tx n w h c a b=some s/\Tq n w h c a b=some s:=by
  cases hb:Qy c b with
  |false=>
   refine⟨-1,J,J,λn hn=>⟨?_,?_⟩⟩
   ·unfold Tx YA;rw[zP n hn b];cases hi:Qg b 0 ((c.length:Int)-1)with
    |false=>rfl
    |true=>
     obtain⟨m,rfl,hm⟩:=Zi hi;unfold Qy at hb;rw[hi,ABx]at hb;have hg:(c[m]==0)=true:=by simpa[hm]using hb
     simp only[ABT,ABc,ABV,Pk hm,hg,ABU];rfl
   ·obtain⟨k,k1,k2⟩:=Tp w h c hc hf b n hn;rw[hb]at k2;have k3:(k==0)=true:=by simpa using k2
    unfold Tq;rw[k1];simp only[ABT,k3,ABU]
  |true=>
   have hbr:0<=b/\b<(c.length:Int):=by unfold Qy Qg at hb;simp only[AAJ,AAf]at hb;omega
   have hib:Qg b 0 ((c.length:Int)-1)=true:=by unfold Qg;simp only[AAJ,AAf];omega
   obtain⟨m,rfl,hm⟩:=Zi hib
   have hg:(c[m]==0)=false:=by unfold Qy at hb;rw[hib,ABx]at hb;simpa[hm]using hb
   obtain⟨F,hF,hl,hbd⟩:=iZ f hbr false;have zD:((F.length:Int)==0)=false:=by simp;intro e;rw[e]at hl;simp at hl;omega
   have hsf:∀n,Ps<=n->YA n w h c (m:Int) false=some F:=λn hn=>by unfold YA;simp only[zP n hn,hib,ABT,ABc,ABV,Pk hm,hg,(hF n hn).1]
   have hkk:∀n,Ps<=n->∃k,Rh n w h c (m:Int)=some k/\(k==0)=false:=λn hn=>by obtain⟨k,k1,k2⟩:=Tp w h c hc hf (m:Int) n hn;rw[hb]at k2;exact⟨k,k1,by simpa using k2⟩
   cases hia:Qg a 0 ((c.length:Int)-1)with
   |false=>
    refine⟨-1,J,J,λn hn=>⟨?_,?_⟩⟩
    ·unfold Tx;simp only[hsf n hn,ABT,zD,ABV,zP n hn,hia,ABu,ABU]
    ·obtain⟨k,k1,k2⟩:=hkk n hn;unfold Tq;simp only[k1,ABT,k2,ABV,hic,hia,ABu,ABU]
   |true=>
    obtain⟨q,rfl,hq⟩:=Zi hia;have hqF:q<F.length:=J
    have hb2:=hbd _ (ABW hqF);refine⟨F[q],hb2.1,J,λn hn=>⟨?_,?_⟩⟩
    ·unfold Tx;simp only[hsf n hn,ABT,zD,ABV,zP n hn,hia,ABc,Po hqF,ABX,AAI hqF,ABU]
    ·obtain⟨k,k1,k2⟩:=hkk n hn;unfold Tq;simp only[k1,ABT,k2,ABV,hic,hia,ABc,(hF n hn).2,Po hqF,ABX,AAI hqF,ABU]
 obtain⟨s,s1,s2,s3⟩:=key;have e:UZ w h c a b=s:=by unfold UZ;rw[(s3 Ps (AAc _)).1];rfl
 grind
def R8(w h:Int)(c:By)(a b:Int):Int:=if UZ w h c a b<0 then 100000 else UZ w h c a b
def SO(a:It)(id:Int):Int:=(Q4 Ps a id).getD (-1)
theorem RE(a:It)(hl:a.length<=1048576)(id:Int)(n:Nat)(hn:Ps<=n):Q4 n a id=some (SO a id)/\(SO a id = -1/\(∀p∈a,p.1≠id)\/∃i,∃h:i<a.length,SO a id=(i:Int)/\a[i].1=id):=by
 have hs:∀(i:Nat)(x:Pt),i<a.length->a[i]?=some x->SN a id (i:Int)=some (bif x.1==id then .inr (.inr (i:Int))else .inl ((i+1:Nat):Int)):=λi x h1 h2=>by
  have hx:a[i]=x:=by rw[AAI h1]at h2;exact Option.some.inj h2
  simp only[SN,Pk h1,hx,ABT,Pj h1 (show a.length<=9223372036854775807 by clear hn;omega)];rw[show decide ((i:Int)<(a.length:Int))=true by simpa using h1];cases hq:(x.1==id)<;>rfl
 have he:SN a id (a.length:Int)=some (.inr (.inl (a.length:Int))):=by simp[SN]
 have key:∃v:Int,(∀n,Ps<=n->Q4 n a id=some v)/\(v = -1/\(∀p∈a,p.1≠id)\/∃i,∃h:i<a.length,v=(i:Int)/\a[i].1=id):=by
  cases hf:a.findIdx? λp=>p.1==id with
  |none=>
   have hno:∀p∈a,p.1≠id:=λp hp=>by have:=List.findIdx?_eq_none_iff.1 hf p hp;simpa using this
   refine⟨-1,λn hn=>?_,.inl ⟨rfl,hno⟩⟩
   have:=P8 (SN a id) (λi=>(i:Int)) a.length (.inl (a.length:Int)) (λi hi=>by
    rw[hs i a[i] hi (AAI hi),show(a[i].1==id)=false by simpa using hno _ (ABW hi),ABV]) he n ADd
   unfold Q4;rw[show((0:Nat):Int)=0 from rfl]at this;rw[this];rfl
  |some i=>
   obtain⟨hi,hp,hb⟩:=List.findIdx?_eq_some_iff_getElem.1 hf;have hp':a[i].1=id:=by simpa using hp
   refine⟨(i:Int),λn hn=>?_,.inr ⟨i,hi,rfl,hp'⟩⟩
   have:=P8 (SN a id) (λi=>(i:Int)) i (.inr (i:Int)) (λj hj=>by
    have zJ:=hb j hj;rw[hs j a[j] J (AAI J),show(a[j].1==id)=false by simpa using zJ,ABV]) (by
    rw[hs i a[i] hi (AAI hi),show(a[i].1==id)=true by simpa using hp',ABU]) n ADd
   unfold Q4;rw[show((0:Nat):Int)=0 from rfl]at this;rw[this];rfl
 obtain⟨v,v1,v2⟩:=key;have e:SO a id=v:=by unfold SO;rw[v1 Ps (AAc _)];rfl
 grind
theorem W0:S3=Q4:=rfl
abbrev P9:=Int×Int×Int×Bool×Int
abbrev ADX:=List P9
abbrev P6:=Int×Int×Int×Int
abbrev AAH:=List P6
def eL(l:AAH)(r:P9):Bool:=r.2.2.1 == -1 && !r.2.2.2.1&&l.all λt => !(t.2.2.1==r.1)
def RR(crew:ADX)(l:AAH)(i:Nat):Bool:=match crew[i]? with
 |some r=>eL l r
 |none=>false
def P2(crew:ADX)(l:AAH):Is:=((List.range crew.length).filter (RR crew l)).take 10
theorem Y5{crew:ADX}{l:AAH}(h:k∈P2 crew l):∃hk:k<crew.length,eL l crew[k]=true:=by have:=ACT h;obtain⟨h1,h2⟩:=ABm.1 this;rw[AAX]at h1;refine⟨h1,?_⟩;unfold RR at h2;grind
theorem Xv(crew:ADX)(l:AAH):(P2 crew l).length<=10:=by unfold P2;grind
theorem lp(crew:ADX)(l:AAH):(P2 crew l).Nodup:=(AB7.filter _).sublist (List.take_sublist _ _)
theorem gh(xs:Is)(k m:Nat):(xs++[k]).take m=if xs.length<m then xs.take m++[k]else xs.take m:=by
 by_cases h:xs.length<m
 ·rw[AAP h,ABv ADg,ABv J]
 grind
theorem iG(crew:ADX)(hc:crew.length<=1048576)(l:AAH)(hl:l.length<=1048576)(n:Nat)(hn:Ps<=n):Xg n crew l=some (Pp (P2 crew l)):=by
 have yt:∀(i:Nat)(hi:i<crew.length)(out:By)(b:Bool),iter n (TJ crew l (out,(i:Int))) (b,0)=some (b||l.any λt=>t.2.2.1==crew[i].1,(l.length:Int)):=λi hi out b=>by
  have:=P8 (TJ crew l (out,(i:Int))) (λk=>(b||(l.take k).any λt=>t.2.2.1==crew[i].1,(k:Int))) l.length (b||l.any λt=>t.2.2.1==crew[i].1,(l.length:Int)) (λk hk=>by
   rw[ABe hk,List.any_append];simp only[TJ,Pk hk,Pk hi,ABT,Pj hk (show l.length<=9223372036854775807 by clear hn;omega),List.any_cons,List.any_nil,Bool.or_false];rw[show decide ((k:Int)<(l.length:Int))=true by simpa using hk];cases b<;>cases(l.take k).any (λt=>t.2.2.1==crew[i].1)<;>rfl) (by simp[TJ]) n ADd
  simpa using this
 obtain⟨z,hz1,hz⟩:=UJ (f:=TI n crew l)
  (λk x=>∃i:Nat,x=(Pp (((List.range i).filter (RR crew l)).take 10),(i:Int))/\i+k=crew.length)
  (λz=>z.1=Pp (P2 crew l)) (λk x hx=>by
   obtain⟨i,rfl,hk⟩:=hx;have hlen:(Pp (((List.range i).filter (RR crew l)).take 10)).length=min 10 ((List.range i).filter (RR crew l)).length:=by simp[Pp]
   by_cases hi:i<crew.length
   ·by_cases h10:((List.range i).filter (RR crew l)).length<10
    ·right;have hd:decide ((i:Int)<(crew.length:Int))=true:=ADm
     have hd2:decide (((Pp (((List.range i).filter (RR crew l)).take 10)).length:Int)<10)=true:=by rw[AAf,hlen];clear hn;omega
     have yz:decide ((Pp (((List.range i).filter (RR crew l)).take 10)).length+[(i:Int)].length<=Dj)=true:=Ru (by rw[hlen];clear hn;omega);have hidle:RR crew l i=eL l crew[i]:=by unfold RR;rw[AAI hi]
     refine⟨(Pp (((List.range (i+1)).filter (RR crew l)).take 10),((i+1:Nat):Int)),k-1,?_,⟨i+1,rfl,ADb⟩,ADb⟩;rw[AB3,AB1];simp only[TI,hd,ABU,hd2,ABT,Pk hi,yt i hi,yz,Pj hi (show crew.length<=9223372036854775807 by clear hn;omega)]
     have hany:(l.any λt=>t.2.2.1==crew[i].1) = !(l.all λt => !(t.2.2.1==crew[i].1)):=by rw[List.not_all_eq_any_not];simp
     rw[hany];generalize hA:(l.all λt => !(t.2.2.1==crew[i].1))=A;have h2:RR crew l i=(crew[i].2.2.1 == -1 && !crew[i].2.2.2.1&&A):=by rw[hidle,<-hA];rfl
     rw[show(crew[i].2.2.1 != -1) = !(crew[i].2.2.1 == -1)from rfl];cases q1:(crew[i].2.2.1 == -1)<;>cases q2:crew[i].2.2.2.1<;>cases A<;>rw[q1,q2]at h2<;>simp[h2,gh,h10,Pp]
    ·left;refine⟨(Pp (((List.range i).filter (RR crew l)).take 10),(i:Int)),?_,?_⟩
     ·have hd:decide ((i:Int)<(crew.length:Int))=true:=ADm
      have hd2:decide (((Pp (((List.range i).filter (RR crew l)).take 10)).length:Int)<10)=false:=by rw[AAl,hlen];clear hn;omega
      simp only[TI,hd,ABU,hd2,ABT,ABV]
     ·show Pp _=Pp _;unfold P2;congr 1
      have:List.range crew.length=List.range i++(List.range (crew.length-i)).map (i + ·):=by rw[<-List.range_add];congr 1;clear hn;omega
      rw[this,AB1,List.take_append_of_le_length ADb]
   ·left;have hie:i=crew.length:=ADb
    refine⟨(Pp (((List.range i).filter (RR crew l)).take 10),(i:Int)),?_,by rw[hie];rfl⟩;have hd:decide ((i:Int)<(crew.length:Int))=false:=ADm
    simp only[TI,hd,ABV,ABT])
  n crew.length ([],0) ⟨0,rfl,ADb⟩ ADd
 unfold Xg;grind
theorem gx(crew:ADX)(hc:crew.length<=1048576)(l:AAH)(hl:l.length<=1048576)(n:Nat)(hn:Ps<=n):Z4 n crew l=some (Pp (P2 crew l)):=by
 have yt:∀(r:P9)(b:Bool),iter n (Vl l r) (b,0)=some (b&&l.all λt => !(t.2.2.1==r.1),(l.length:Int)):=λr b=>by
  have:=P8 (Vl l r) (λk=>(b&&(l.take k).all λt => !(t.2.2.1==r.1),(k:Int))) l.length (b&&l.all λt => !(t.2.2.1==r.1),(l.length:Int)) (λk hk=>by
   rw[ABe hk,List.all_append];simp only[Vl,Pk hk,ABT,Pj hk (show l.length<=9223372036854775807 by clear hn;omega),List.all_cons,List.all_nil,ACD];rw[show decide ((k:Int)<(l.length:Int))=true by simpa using hk,show(l[k].2.2.1 != r.1) = !(l[k].2.2.1==r.1)from rfl];cases b<;>cases(l.take k).all (λt => !(t.2.2.1==r.1))<;>rfl) (by simp[Vl]) n ADd
  grind
 have:=P8 (Vk n crew l) (λi=>(Pp (((List.range i).filter (RR crew l)).take 10),(i:Int))) crew.length (Pp (P2 crew l),(crew.length:Int)) (λi hi=>by
  have hlen:(Pp (((List.range i).filter (RR crew l)).take 10)).length=min 10 ((List.range i).filter (RR crew l)).length:=by simp[Pp]
  have hd:decide ((i:Int)<(crew.length:Int))=true:=ADm
  have yz:decide ((Pp (((List.range i).filter (RR crew l)).take 10)).length+[(i:Int)].length<=Dj)=true:=Ru (by rw[hlen];clear hn;omega);have hidle:RR crew l i=eL l crew[i]:=by unfold RR;rw[AAI hi]
  have h10:decide (((Pp (((List.range i).filter (RR crew l)).take 10)).length:Int)<10)=decide (((List.range i).filter (RR crew l)).length<10):=by rw[decide_eq_decide,hlen];clear hn;omega
  rw[AB3,AB1];simp only[Vk,hd,ABU,ABT,Pk hi,yt,yz,Pj hi (show crew.length<=9223372036854775807 by clear hn;omega),h10];generalize hA:(l.all λt => !(t.2.2.1==crew[i].1))=A;have h2:RR crew l i=(crew[i].2.2.1 == -1 && !crew[i].2.2.2.1&&A):=by rw[hidle,<-hA];rfl
  by_cases hq:((List.range i).filter (RR crew l)).length<10
  ·rw[ABZ hq];cases q1:(crew[i].2.2.1 == -1)<;>cases q2:crew[i].2.2.2.1<;>cases A<;>rw[q1,q2]at h2<;>simp[h2,gh,hq,Pp]
  grind) (by
  have hd:decide ((crew.length:Int)<(crew.length:Int))=false:=OF
  simp only[Vk,hd,ABV];rfl) n ADd
 unfold Z4;have h2:iter n (Vk n crew l) ([],0)=some (Pp (P2 crew l),(crew.length:Int)):=by simpa[Pp]using this
 rw[h2];rfl
theorem mv{β:Type}(f:Int->Option (Int⊕(Int⊕Bool)))(xs:List β)(P:β->Bool)(hs:∀(i:Nat)(x:β),i<xs.length->xs[i]?=some x->f (i:Int)=some (bif P x then .inr (.inr true)else .inl ((i+1:Nat):Int)))
  (he:f (xs.length:Int)=some (.inr (.inl (xs.length:Int)))):∀n,xs.length<n->iter n f 0=some (bif xs.any P then .inr true else .inl (xs.length:Int)):=by
 intro n hn;refine Xq f xs (λp l=>bif l.any P then .inr true else .inl (xs.length:Int)) ?_ ?_ n hn
 all_goals grind
theorem QU(a:By)(h:a.length<=1048576)(c:Int)(n:Nat)(hn:Ps<=n):Qu n a c=some (a.any λx=>x==c):=by
 unfold Qu
 rw[mv (VA a c) a (λx=>x==c) (λi x h1 h2=>by
  have hx:a[i]=x:=by rw[AAI h1]at h2;exact Option.some.inj h2
  simp only[VA,Pk h1,hx];rw[show decide ((i:Int)<(a.length:Int))=true by simpa using h1];cases hq:(x==c)<;>simp[hq,Pj h1 J]) (by simp[VA]) n ADd]
 grind
theorem VL:Q7=Qu:=rfl
def W5(s:By)(x:Ph):By:=bif s.any (λy=>y==x.1)then s else s++[x.1]
theorem cD(s:By)(x:Ph):(W5 s x).length<=s.length+1:=by unfold W5;grind
def Tu(a:AAB):By:=a.foldl W5 []
theorem Yu:∀(a:AAB)(s:By),(a.foldl W5 s).length<=s.length+a.length
 | [],s=>OF
 |x::a,s=>by have h1:=Yu a (W5 s x);have h2:=cD s x;grind
theorem YB(a:AAB)(h:a.length<=1048576)(n:Nat)(hn:Ps<=n):VR n a=some (Tu a):=by
 have hc:=QA (σ:=By) (Vv n a) (λi s=>(s,(i:Int))) a (λl s=>(l.foldl W5 s,(a.length:Int))) (λi s=>s.length<=i)
  (λs hs=>by simp[Vv])
  (λi x l s h1 h2 h3 h4 h5=>by
   left;have hx:a[i]=x:=by rw[AAI h1]at h2;exact Option.some.inj h2
   have hr:decide (s.length+1<=Dj)=true:=Ru J;have ha:=QU s J x.1 n hn;refine⟨W5 s x,?_,by have:=cD s x;omega,OF⟩;simp only[Vv,Pk h1,hx,ABT,ha,Pj h1 J];rw[show decide ((i:Int)<(a.length:Int))=true by simpa using h1];unfold W5;grind)
  n ADd [] (AAc _)
 unfold VR;rw[show((0:Nat):Int)=0 from rfl]at hc;rw[hc];rfl
theorem Ze(a:AAB)(h:a.length<=1048576)(n:Nat)(hn:Ps<=n):Wy n a=some (Tu a):=by
 have hc:=QA (σ:=By) (Vd n a) (λi s=>(s,(i:Int))) a (λl s=>(l.foldl W5 s,(a.length:Int))) (λi s=>s.length<=i)
  (λs hs=>by simp[Vd])
  (λi x l s h1 h2 h3 h4 h5=>by
   left;have hx:a[i]=x:=by rw[AAI h1]at h2;exact Option.some.inj h2
   have hr:decide (s.length+1<=Dj)=true:=Ru J;have ha:=QU s J x.1 n hn;refine⟨W5 s x,?_,by have:=cD s x;omega,OF⟩;simp only[Vd,Pk h1,hx,ABT,VL,ha,Pj h1 J];rw[show decide ((i:Int)<(a.length:Int))=true by simpa using h1];unfold W5;grind)
  n ADd [] (AAc _)
 unfold Wy;rw[show((0:Nat):Int)=0 from rfl]at hc;rw[hc];rfl
theorem YU(c:Int)(p:By)(h:p.length<=1048576)(n:Nat)(hn:Ps<=n):iter n (R1 c p) (([]:ADe),0)=some (p.map λx=>(c,x,(0:Int),(1:Int)),(p.length:Int)):=by
 have hc:=QA (σ:=ADe) (R1 c p) (λi s=>(s,(i:Int))) p (λl s=>(s++l.map λx=>(c,x,(0:Int),(1:Int)),(p.length:Int))) (λi s=>s.length<=i)
  (λs hs=>by simp[R1])
  (λi x l s h1 h2 h3 h4 h5=>by
   left;have hx:p[i]=x:=by rw[AAI h1]at h2;exact Option.some.inj h2
   have hr:decide (s.length+1<=Dj)=true:=Ru J;exact⟨s++[(c,x,0,1)],by simp[R1,h1,Po h1,hx,Pj h1 J,hr],ADg,OF⟩)
  n ADd [] (AAc _)
 grind
theorem dS(a:Pe)(h:a.2.2.2.1.length<=1048576)(n:Nat)(hn:Ps<=n):Xe n a.1 a.2.1 a.2.2.1 a.2.2.2.1 a.2.2.2.2=some ((Tu a.2.2.2.1).map λx=>(a.1,x,(0:Int),(1:Int))):=by
 have hp:(Tu a.2.2.2.1).length<=1048576:=by have:=Yu a.2.2.2.1 [];simp at this;exact AAv this h
 unfold Xe;rw[YB _ h n hn,ABT,YU a.1 _ hp n hn];rfl
theorem iL:ZP=R1:=rfl
theorem dJ(a:Pe)(h:a.2.2.2.1.length<=1048576)(n:Nat)(hn:Ps<=n):Y8 n a.1 a.2.1 a.2.2.1 a.2.2.2.1 a.2.2.2.2=some ((Tu a.2.2.2.1).map λx=>(a.1,x,(0:Int),(1:Int))):=by
 have hp:(Tu a.2.2.2.1).length<=1048576:=by have:=Yu a.2.2.2.1 [];simp at this;exact AAv this h
 unfold Y8;rw[Ze _ h n hn,ABT,iL,YU a.1 _ hp n hn];rfl
def aK(a:It)(tk:By)(t:P6):Bool:=t.2.2.2==1&&decide (SO a t.2.1>=0) && !(tk.any λy=>y==t.2.1)
def bD(a:It):Nat->By->Nat->AAH->Is
 |0,_,_,_=>[]
 |_+1,_,_,[]=>[]
 |m+1,tk,i,t::ts=>bif aK a tk t then i::bD a m (tk++[t.2.1]) (i+1) ts else bD a (m+1) tk (i+1) ts
theorem nz(a:It)(m:Nat)(tk:By)(i:Nat)(t:P6)(ts:AAH):bD a (m+1) tk i (t::ts)=bif aK a tk t then i::bD a m (tk++[t.2.1]) (i+1) ts else bD a (m+1) tk (i+1) ts:=rfl
theorem dg(a:It)(m:Nat)(tk:By)(i:Nat):bD a m tk i []=[]:=by cases m<;>rfl
theorem ZH(a:It):∀(ts:AAH)(m:Nat)(tk:By)(i:Nat),(bD a m tk i ts).length<=m
 | [],m,tk,i=>by rw[dg];simp
 |t::ts,0,tk,i=>by simp[bD]
 |t::ts,m+1,tk,i=>by
  unfold bD;cases aK a tk t with
  |true=>have:=ZH a ts m (tk++[t.2.1]) (i+1);grind
  |false=>simpa only[ABV]using ZH a ts (m+1) tk (i+1)
theorem eY(a:It):∀(ts:AAH)(m:Nat)(tk:By)(i:Nat),∀x∈bD a m tk i ts,i<=x/\∃h:x-i<ts.length,ts[x-i].2.2.2=1/\SO a ts[x-i].2.1>=0/\ts[x-i].2.1∉tk
 | [],m,tk,i=>by rw[dg];simp
 |t::ts,0,tk,i=>by simp[bD]
 |t::ts,m+1,tk,i=>by
  intro x hx
  have up:∀(h:i+1<=x) (h2:x-(i+1)<ts.length),∃h:x-i<(t::ts).length,(t::ts)[x-i]=ts[x-(i+1)]:=λh h2=>No
  unfold bD at hx;cases hr:aK a tk t with
  |true=>
   rw[hr,ABU]at hx;rcases AAd.1 hx with rfl|hx
   ·unfold aK at hr;grind
   ·obtain⟨h1,h2,h3,h4,h5⟩:=eY a ts m (tk++[t.2.1]) (i+1) x hx;grind
  |false=>
   rw[hr,ABV]at hx;obtain⟨h1,h2,h3,h4,h5⟩:=eY a ts (m+1) tk (i+1) x hx;grind
theorem eZ(a:It):∀(ts:AAH)(m:Nat)(tk:By)(i:Nat),(bD a m tk i ts).Pairwise λx y=>x<y/\∀(hx:x-i<ts.length)(hy:y-i<ts.length),ts[x-i].2.1≠ts[y-i].2.1
 | [],m,tk,i=>by rw[dg];exact List.Pairwise.nil
 |t::ts,0,tk,i=>by simp[bD]
 |t::ts,m+1,tk,i=>by
  have up:∀(m:Nat)(tk:By),(bD a m tk (i+1) ts).Pairwise λx y=>x<y/\∀(hx:x-i<(t::ts).length) (hy:y-i<(t::ts).length),(t::ts)[x-i].2.1≠(t::ts)[y-i].2.1:=λm tk=>by refine ACN (fun {x y} hx hy hxy=>⟨hxy.1,λh1 h2=>?_⟩) (eZ a ts m tk (i+1));obtain⟨x1,x2,_⟩:=eY a ts m tk (i+1) x hx;grind
  unfold bD;cases hr:aK a tk t with
  |true=>
   rw[ABU];refine ABl.2 ⟨λy hy=>?_,up m (tk++[t.2.1])⟩;obtain⟨y1,y2,y3,y4,y5⟩:=eY a ts m (tk++[t.2.1]) (i+1) y hy;grind
  |false=>grind
def UX(l:AAH):By:=(l.filter λt => !(t.2.2.2==1)).map (·.2.1)
def QW(a:It)(l:AAH)(m:Nat):Is:=bD a m (UX l) 0 l
theorem gE(L:By×Int->Option ((By×Int)⊕(By×Int)))(l:AAH)(hl:l.length<=1048576)
  (hL:∀(i:Nat)(out:By)(hi:i<l.length),out.length<=i->L (out,(i:Int))=some (.inl (bif l[i].2.2.2==1 then out else out++[l[i].2.1],((i+1:Nat):Int)))) (he:∀out,L (out,(l.length:Int))=some (.inr (out,(l.length:Int)))) (n:Nat) (hn:Ps<=n):
  iter n L ([],0)=some (UX l,(l.length:Int)):=by
 have:=P8 L (λi=>(UX (l.take i),(i:Int))) l.length (UX l,(l.length:Int)) (λi hi=>by
  rw[hL i _ hi (by unfold UX;rw[ABB];exact AAv (ABs _ _) ADg),ABe hi];unfold UX;grind) No n ADd
 simpa[UX]using this
theorem jN(L:By×By×Int->Option ((By×By×Int)⊕(By×By×Int)))(a:It)(l:AAH)(M:Nat)(tk0:By)
  (hgo:∀(i:Nat)(out tk:By)(hi:i<l.length),out.length<M->out.length<=i->tk.length<=tk0.length+i->L (out,tk,(i:Int))=some (.inl (bif aK a tk l[i]then(out++[(i:Int)],tk++[l[i].2.1],((i+1:Nat):Int))else(out,tk,((i+1:Nat):Int)))))
  (hfull:∀(i:Nat)(out tk:By)(hi:i<l.length),out.length=M->tk.length<=tk0.length+i->L (out,tk,(i:Int))=some (.inl (out,tk,((i+1:Nat):Int)))\/L (out,tk,(i:Int))=some (.inr (out,tk,(i:Int))))
  (hend:∀(out tk:By),L (out,tk,(l.length:Int))=some (.inr (out,tk,(l.length:Int)))) (n:Nat) (hn:l.length<n):
  ∃z,z.1=Pp (bD a M tk0 0 l)/\iter n L ([],tk0,0)=some z:=by
 refine UJ (f:=L) (λk x=>∃(i:Nat) (out:Is) (tk:By),x=(Pp out,tk,(i:Int))/\i+k=l.length/\out.length<=M/\out.length<=i/\tk.length<=tk0.length+i/\out++bD a (M-out.length) tk i (l.drop i)=bD a M tk0 0 l)
  (λz=>z.1=Pp (bD a M tk0 0 l)) (λk x hx=>?_) n l.length ([],tk0,0) ⟨0,[],tk0,rfl,J,OF,OF,OF,OF⟩ hn
 obtain⟨i,out,tk,rfl,hk,h1,h2,h3,h4⟩:=hx;have hcl:(Pp out).length=out.length:=by simp[Pp]
 by_cases hi:i<l.length
 ·by_cases hM:out.length=M
  ·rcases hfull i (Pp out) tk hi J h3 with e|e
   ·refine .inr ⟨_,k-1,e,⟨i+1,out,tk,rfl,J,h1,J,J,?_⟩,J⟩;rw[<-h4,hM,ACW];simp[bD]
   ·refine .inl ⟨_,e,?_⟩;show Pp out=_;rw[<-h4,hM,ACW];simp[bD]
  ·have e:=hgo i (Pp out) tk hi J J h3;have hd:l.drop i=l[i]::l.drop (i+1):=ABh hi;obtain⟨m,hm⟩:∃m,M-out.length=m+1:=⟨M-out.length-1,J⟩;rw[hd,hm,nz]at h4;cases hr:aK a tk l[i]with
   |true=>
    rw[hr,ABU]at e h4;refine .inr ⟨_,k-1,e,⟨i+1,out++[i],tk++[l[i].2.1],by simp[Pp],J,ADg,ADg,ADg,?_⟩,J⟩;rw[<-h4,ABo];congr 1;rw[show M-(out++[i]).length=m by simp;omega];rfl
   |false=>
    rw[hr,ABV]at e h4;refine .inr ⟨_,k-1,e,⟨i+1,out,tk,rfl,J,h1,J,J,?_⟩,J⟩;grind
 ·have hie:i=l.length:=J
  subst hie;refine .inl ⟨_,hend _ _,?_⟩;show Pp out=_;rw[<-h4,List.drop_length,dg,ABn]
theorem fy(a:It)(ha:a.length<=1048576)(l:AAH)(hl60:l.length<=60)(M:Nat)(n:Nat)(hn:Ps<=n):Wp n a l (M:Int)=some (Pp (QW a l M)):=by
 have hl:l.length<=1048576:=ADb
 have h1:=gE (UR l) l hl (λi out hi ho=>by
  have hd:decide ((i:Int)<(l.length:Int))=true:=ADm
  have hr:decide (out.length+[l[i].2.1].length<=Dj)=true:=Ru ADb;simp only[UR,hd,ABU,Pk hi,ABT,hr,Pj hi (show l.length<=9223372036854775807 by clear hn;omega),bne];grind) (λout=>by simp[UR]) n hn
 have hbl:(UX l).length<=60:=by unfold UX;rw[ABB];exact AAv (ABs _ _) hl60
 obtain⟨z,z1,z2⟩:=jN (Sl n a l (M:Int)) a l M (UX l) (λi out tk hi h1 h2 h3=>by
  have hd:decide ((i:Int)<(l.length:Int))=true:=ADm
  have hd2:decide ((out.length:Int)<(M:Int))=true:=by rw[AAf];clear hn;omega
  have hr:decide (out.length+[(i:Int)].length<=Dj)=true:=Ru ADb
  have hr2:decide (tk.length+[l[i].2.1].length<=Dj)=true:=by rw[AAf];simp[Dj];clear hn;omega
  simp only[Sl,hd,hd2,ABU,Pk hi,ABT,hr,hr2,Pj hi (show l.length<=9223372036854775807 by clear hn;omega),(RE a ha l[i].2.1 n hn).1];have ham:Qu n tk l[i].2.1=some (tk.any λy=>y==l[i].2.1):=QU tk ADb _ n hn;simp only[ham,ABT];unfold aK;grind) (λi out tk hi h1 h3=>by
  right;have hd:decide ((i:Int)<(l.length:Int))=true:=ADm
  have hd2:decide ((out.length:Int)<(M:Int))=false:=by rw[AAl];clear hn;omega
  simp only[Sl,hd,hd2,ABU,ABV,ABT]) (λout tk=>by
  have hd:decide ((l.length:Int)<(l.length:Int))=false:=OF
  simp only[Sl,hd,ABV,ABT]) n ADd
 unfold Wp;rw[h1];simp only[ABT,z2,z1];rfl
theorem fX(a:It)(ha:a.length<=1048576)(l:AAH)(hl60:l.length<=60)(M:Nat)(n:Nat)(hn:Ps<=n):ZB n a l (M:Int)=some (Pp (QW a l M)):=by
 have hl:l.length<=1048576:=ADb
 have h1:=gE (Wc l) l hl (λi out hi ho=>by
  have hd:decide ((i:Int)<(l.length:Int))=true:=ADm
  have hr:decide (out.length+[l[i].2.1].length<=Dj)=true:=Ru ADb;simp only[Wc,hd,ABU,Pk hi,ABT,hr,Pj hi (show l.length<=9223372036854775807 by clear hn;omega),bne];grind) (λout=>by simp[Wc]) n hn
 have hbl:(UX l).length<=60:=by unfold UX;rw[ABB];exact AAv (ABs _ _) hl60
 obtain⟨z,z1,z2⟩:=jN (Ui n a l (M:Int)) a l M (UX l) (λi out tk hi h1 h2 h3=>by
  have hd:decide ((i:Int)<(l.length:Int))=true:=ADm
  have hd2:decide ((out.length:Int)<(M:Int))=true:=by rw[AAf];clear hn;omega
  have hr:decide (out.length+[(i:Int)].length<=Dj)=true:=Ru ADb
  have hr2:decide (tk.length+[l[i].2.1].length<=Dj)=true:=by rw[AAf];simp[Dj];clear hn;omega
  simp only[Ui,W0,VL,hd,hd2,ABU,Pk hi,ABT,hr,hr2,Pj hi (show l.length<=9223372036854775807 by clear hn;omega),(RE a ha l[i].2.1 n hn).1];have ham:Qu n tk l[i].2.1=some (tk.any λy=>y==l[i].2.1):=QU tk ADb _ n hn;simp only[ham,ABT];unfold aK;grind) (λi out tk hi h1 h3=>by
  left;have hd:decide ((i:Int)<(l.length:Int))=true:=ADm
  have hd2:decide ((out.length:Int)<(M:Int))=false:=by rw[AAl];clear hn;omega
  obtain⟨b,hb⟩:∃b,Qu n tk l[i].2.1=some b:=⟨_,QU tk ADb _ n hn⟩;simp only[Ui,W0,VL,hd,hd2,ABU,ABV,Pk hi,ABT,Pj hi (show l.length<=9223372036854775807 by clear hn;omega),(RE a ha l[i].2.1 n hn).1,hb];grind) (λout tk=>by
  have hd:decide ((l.length:Int)<(l.length:Int))=false:=OF
  simp only[Ui,hd,ABV]) n ADd
 unfold ZB;rw[h1];simp only[ABT,z2,z1];rfl
def YH(crew:ADX)(k:Nat):P9:=crew.getD k (0,0,0,false,0)
def XA(l:AAH)(i:Nat):P6:=l.getD i (0,0,0,0)
theorem iD{crew:ADX}(h:k<crew.length):crew[k]?=some (YH crew k):=by unfold YH;grind
theorem dh{l:AAH}(h:k<l.length):l[k]?=some (XA l k):=by unfold XA;grind
def QY(a:It)(id:Int):Int:=match a[(SO a id).toNat]? with
 |some p=>p.2.1
 |none=>0
def RY(a:It)(crew:ADX)(l:AAH)(p:Nat×Nat)(st:ADX×AAH):ADX×AAH:=
 (List.modify (List.modify st.1 p.2 λy=>(y.1,y.2.1,QY a (XA l p.1).2.1,y.2.2.2.1,y.2.2.2.2)) p.2 λy=>(y.1,y.2.1,y.2.2.1,y.2.2.2.1,0),
  List.modify (List.modify st.2 p.1 λy=>(y.1,y.2.1,(YH crew p.2).1,y.2.2.2)) p.1 λy=>(y.1,y.2.1,y.2.2.1,2))
def sendAll(a:It)(crew:ADX)(l:AAH)(prs:List (Nat×Nat)):ADX×AAH:=prs.foldl (λst p=>RY a crew l p st) (crew,l)
structure SI(crew:ADX)(l:AAH)(st:ADX×AAH):Prop where
 l1:st.1.length=crew.length
 l2:st.2.length=l.length
 id:∀k,k<crew.length->∃r,st.1[k]?=some r/\r.1=(YH crew k).1
 Pu:∀i,i<l.length->∃t,st.2[i]?=some t/\t.2.1=(XA l i).2.1
theorem SI.first(crew:ADX)(l:AAH):SI crew l (crew,l):=⟨rfl,rfl,λk h=>⟨_,iD h,rfl⟩,λi h=>⟨_,dh h,rfl⟩⟩
theorem SI.one{a:It}{crew:ADX}{l:AAH}{st:ADX×AAH}(h:SI crew l st)(p:Nat×Nat):SI crew l (RY a crew l p st):=by
 refine⟨by simp[RY,h.l1],by simp[RY,h.l2],λk hk=>?_,λi hi=>?_⟩
 ·obtain⟨r,h1,h2⟩:=h.id k hk;simp only[RY,ABf,h1];grind
 ·obtain⟨r,h1,h2⟩:=h.Pu i hi;simp only[RY,ABf,h1];grind
theorem SI.all{a:It}{crew:ADX}{l:AAH}:∀(prs:List (Nat×Nat)) (st:ADX×AAH),SI crew l st->SI crew l (prs.foldl (λst p=>RY a crew l p st) st)
 | [],st,h=>h
 |p::prs,st,h=>SI.all prs _ (h.one p)
def VW(w h:Int)(c:By)(a:It)(crew:ADX)(l:AAH):List By:=
 (QW a l (P2 crew l).length).map λt=>(P2 crew l).map λk=>R8 w h c (YH crew k).2.1 (QY a (XA l t).2.1)
def Qm(w h:Int)(c:By)(a:It)(crew:ADX)(l:AAH):Is:=pk (Pv (VW w h c a crew l)) (List.range (P2 crew l).length)
def X3(w h:Int)(c:By)(a:It)(crew:ADX)(l:AAH)(j:Nat):Option (Nat×Nat):=
 if R8 w h c (YH crew ((P2 crew l).getD ((Qm w h c a crew l).getD j 0) 0)).2.1 (QY a (XA l ((QW a l (P2 crew l).length).getD j 0)).2.1)<100000
 then some ((QW a l (P2 crew l).length).getD j 0,(P2 crew l).getD ((Qm w h c a crew l).getD j 0) 0)else none
def QR(w h:Int)(c:By)(a:It)(crew:ADX)(l:AAH):List (Nat×Nat):=(List.range (Qm w h c a crew l).length).filterMap (X3 w h c a crew l)
def gu(w h:Int)(c:By)(a:It)(crew:ADX)(l:AAH):Bool:=QP a&&Tl w h c crew&&SU l
def gI(w h:Int)(c:By)(a:It)(crew:ADX)(l:AAH):ADX×AAH:=bif gu w h c a crew l then sendAll a crew l (QR w h c a crew l)else(crew,l)
theorem oR{w:Int}(hc:c.length<=1048576)(hf:P3 w h c=true)(a b:Int):0<=R8 w h c a b/\R8 w h c a b<=100000:=by obtain⟨_,_,h1,h2⟩:=bL hc hf a b Ps (AAc _);unfold R8;omega
theorem dr{w:Int}(hc:c.length<=1048576)(hf:P3 w h c=true)(a:It)(crew:ADX)(l:AAH):CM (VW w h c a crew l) (P2 crew l).length:=by
 refine⟨λr hr=>?_,?_,Xv crew l,λr hr x hx=>?_⟩
 ·obtain⟨t,_,rfl⟩:=AAt.1 hr;simp
 ·unfold VW;rw[ABB];exact ZH a l _ _ _
 ·obtain⟨t,_,rfl⟩:=AAt.1 hr;obtain⟨k,_,rfl⟩:=AAt.1 hx;exact oR hc hf _ _
theorem kU{M:List By}(hc:CM M m)(n:Nat)(hn:Ps<=n):∃s,WQ n M=some (Pp (pk (Pv M) (List.range m)),s):=by
 by_cases h0:M=[]
 ·subst h0;have hc0:CM [] 0:=⟨OF,OF,J,OF⟩;obtain⟨s,s1,_⟩:=Wi hc0 (λ_=>rfl) n hn;exact⟨s,s1⟩
 ·obtain⟨s,s1,_⟩:=Wi hc (λe=>absurd e h0) n hn;exact⟨s,s1⟩
theorem jl{M:List By}(hc:CM M m)(n:Nat)(hn:Ps<=n):∃s,Xw n M=some (Pp (pk (Pv M) (List.range m)),s)/\WQ n M=some (Pp (pk (Pv M) (List.range m)),s):=by
 by_cases h0:M=[]
 ·subst h0;have hc0:CM [] 0:=⟨OF,OF,J,OF⟩;obtain⟨s,s1,s2⟩:=aG hc0 (λ_=>rfl) n hn;obtain⟨s',s3,s4⟩:=Wi hc0 (λ_=>rfl) n hn;rw[s2]at s4;injection s4 with s4
  subst s4;exact⟨s,s1,s3⟩
 ·obtain⟨s,s1,s2⟩:=aG hc (λe=>absurd e h0) n hn;obtain⟨s',s3,s4⟩:=Wi hc (λe=>absurd e h0) n hn;grind
theorem Vp{β:Type}(F:Nat->β)(s:Is):(List.range s.length).map (λi=>F (s.getD i 0))=s.map F:=by apply ACG OF;grind
theorem WA{s:Is}(h:i<s.length):O3 (Pp s) (i:Int)=true/\(Pp s)[i]?=some ((s.getD i 0:Nat):Int):=by refine⟨Po (by simpa[Pp]using h),?_⟩;unfold Pp;grind
theorem VY{s:Is}(h:i<s.length):s.getD i 0∈s:=No
theorem YR{a:It}(ha:a.length<=1048576){l:AAH}{M t:Nat}(h:t∈QW a l M):t<l.length/\(XA l t).2.2.2=1/\(XA l t).2.1∉UX l/\∃i,∃hi:i<a.length,SO a (XA l t).2.1=(i:Int)/\a[i].1=(XA l t).2.1/\QY a (XA l t).2.1=a[i].2.1:=by
 obtain⟨_,h2,h3,h4,h5⟩:=eY a l M (UX l) 0 t h;simp only[Nat.sub_zero]at h2 h3 h4 h5;have e:XA l t=l[t]:=by unfold XA;rw[List.getD,AAI h2];rfl
 rw[e];refine⟨h2,h3,h5,?_⟩;rcases(RE a ha l[t].2.1 Ps (AAc _)).2 with⟨q,_⟩|⟨i,hi,q,q2⟩
 ·omega
 ·refine⟨i,hi,q,q2,?_⟩;unfold QY;grind
end Go.Ev.N
