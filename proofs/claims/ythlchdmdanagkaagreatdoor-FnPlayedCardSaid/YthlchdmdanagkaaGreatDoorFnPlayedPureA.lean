/- A plain law. Conditions: none. -/
import Derived.Test.YthlchdmdanagkaaGreatDoorFnPlayedNat
set_option linter.all false
namespace Go.Ev.N
open Go Go.Ev
variable {i m j k s:Nat}{α:Type}{c:By}{w u v:Nat->Int}{h x:Int}{R:List (Nat->Int)}{S:It}{a b:Option Int}{C:Nat->Nat->Int}{a0:List By}
theorem ABS:type_of% @Option.bind_some:=@Option.bind_some
theorem ABT:type_of% @cond_true:=@cond_true
theorem ABU:type_of% @List.getElem_mem:=@List.getElem_mem
theorem ABV:type_of% @cond_false:=@cond_false
theorem ABW:type_of% @Int.toNat_natCast:=@Int.toNat_natCast
theorem ABX:type_of% @List.mem_iff_getElem:=@List.mem_iff_getElem
theorem ABY:type_of% @decide_eq_true:=@decide_eq_true
theorem ABZ:type_of% @beq_eq_false_iff_ne:=@beq_eq_false_iff_ne
theorem ABa:type_of% @Bool.not_true:=@Bool.not_true
theorem ABb:type_of% @List.length_singleton:=@List.length_singleton
theorem ABc:type_of% @decide_eq_false:=@decide_eq_false
theorem ABd:type_of% @List.mem_filter:=@List.mem_filter
theorem ABe:type_of% @Nat.lt_trichotomy:=@Nat.lt_trichotomy
theorem ABf:type_of% @List.getElem?_modify:=@List.getElem?_modify
theorem ABg:type_of% @List.take_succ_eq_append_getElem:=@List.take_succ_eq_append_getElem
theorem ABh:type_of% @List.map_congr_left:=@List.map_congr_left
theorem ABi:type_of% @List.getElem_map:=@List.getElem_map
theorem ABj:type_of% @List.drop_eq_getElem_cons:=@List.drop_eq_getElem_cons
theorem ABk:type_of% @List.append_assoc:=@List.append_assoc
theorem ABl:type_of% @beq_self_eq_true:=@beq_self_eq_true
theorem ABm:type_of% @List.pairwise_map:=@List.pairwise_map
theorem ABn:type_of% @Bool.not_false:=@Bool.not_false
theorem ABo:type_of% @List.mem_of_find?_eq_some:=@List.mem_of_find?_eq_some
theorem ABp:type_of% @List.length_map:=@List.length_map
theorem ABq:type_of% @List.pairwise_cons:=@List.pairwise_cons
theorem ABr:type_of% @List.pairwise_append:=@List.pairwise_append
theorem ABs:type_of% @List.take_of_length_le:=@List.take_of_length_le
theorem ABt:type_of% @Bool.not_eq_true:=@Bool.not_eq_true
theorem ABu:type_of% @List.take_append_drop:=@List.take_append_drop
theorem ABv:type_of% @List.mem_of_mem_erase:=@List.mem_of_mem_erase
theorem ABw:type_of% @List.length_filter_le:=@List.length_filter_le
theorem ABx:type_of% @List.ext_getElem?:=@List.ext_getElem?
theorem ABy:type_of% @Bool.true_and:=@Bool.true_and
theorem ABz:type_of% @List.filter_cons:=@List.filter_cons
theorem AB0:type_of% @Bool.eq_iff_iff:=@Bool.eq_iff_iff
theorem AB1:type_of% @Nat.le_add_right:=@Nat.le_add_right
theorem AB2:type_of% @List.ext_getElem:=@List.ext_getElem
theorem AB3:type_of% @Bool.false_and:=@Bool.false_and
theorem AB4:type_of% @List.getElem_of_mem:=@List.getElem_of_mem
theorem AB5:type_of% @List.filter_eq_nil_iff:=@List.filter_eq_nil_iff
theorem AB6:type_of% @Int.le_refl:=@Int.le_refl
theorem AB7:type_of% @Bool.and_self:=@Bool.and_self
theorem AB8:type_of% @List.nodup_range:=@List.nodup_range
theorem AB9:type_of% @List.find?_eq_none:=@List.find?_eq_none
theorem ACA:type_of% @List.singleton_append:=@List.singleton_append
theorem ACB:type_of% @List.range_succ:=@List.range_succ
theorem ACC:type_of% @List.mem_of_mem_take:=@List.mem_of_mem_take
theorem ACD:type_of% @List.mem_of_mem_drop:=@List.mem_of_mem_drop
theorem ACE:type_of% @bne_iff_ne:=@bne_iff_ne
theorem ACF:type_of% @List.Pairwise.imp_of_mem:=@List.Pairwise.imp_of_mem
theorem ACG:type_of% @Bool.and_true:=@Bool.and_true
theorem ACH:type_of% @List.length_take:=@List.length_take
theorem ACI:type_of% @List.getElem_cons_zero:=@List.getElem_cons_zero
theorem ACJ:type_of% @List.filter_append:=@List.filter_append
theorem ACK:type_of% @List.set_append_right:=@List.set_append_right
theorem ACL:type_of% @List.getElem?_set:=@List.getElem?_set
theorem ACN:type_of% @List.find?_map:=@List.find?_map
theorem ACO:type_of% @List.filter_eq_self:=@List.filter_eq_self
theorem ACP:type_of% @Int.add_assoc:=@Int.add_assoc
theorem ACQ:type_of% @List.find?_some:=@List.find?_some
theorem ACR:type_of% @bne_self_eq_false:=@bne_self_eq_false
theorem ACS:type_of% @Nat.sub_self:=@Nat.sub_self
theorem ACT:type_of% @List.map_map:=@List.map_map
theorem ACU:type_of% @Bool.and_eq_false_iff:=@Bool.and_eq_false_iff
theorem ACV:type_of% @List.take_length:=@List.take_length
theorem ACW:type_of% @List.length_drop:=@List.length_drop
theorem ACX:type_of% @Nat.zero_le:=@Nat.zero_le
theorem ACY:type_of% @List.replicate_succ':=@List.replicate_succ'
theorem ACZ:type_of% @List.length_nil:=@List.length_nil
theorem ACa:type_of% @List.mem_map_of_mem:=@List.mem_map_of_mem
theorem ACb:type_of% @Int.zero_add:=@Int.zero_add
theorem ACc:type_of% @List.set_cons_zero:=@List.set_cons_zero
theorem ACd:type_of% @Int.toNat_zero:=@Int.toNat_zero
theorem ACe:type_of% @List.getElem?_replicate:=@List.getElem?_replicate
theorem PJ{n:Int}(h1 : -9223372036854775808<=n)(h2:n<=9223372036854775807):PB n=n:=by unfold PB IntKind.wrap;simp only[IntKind.bits,IntKind.signed];grind
theorem O9(h:i<m)(hm:m<=9223372036854775807):PB ((i:Int)+1)=((i+1:Nat):Int):=by rw[PJ J J];omega
theorem RY(xs:List α)(i:Nat):Iz xs (i:Int)=xs[i]?:=by unfold Iz;grind
theorem PA{α:Type}{xs:List α}(h:i<xs.length):Iz xs (i:Int)=some xs[i]:=by rw[RY];grind
theorem pv(xs:List α)(i:Nat):OU xs (i:Int)=decide (i<xs.length):=by unfold OU;grind
theorem PE{α:Type}{xs:List α}(h:i<xs.length):OU xs (i:Int)=true:=by rw[pv];simpa using h
theorem P5(l:List α)(n:Nat)(y:α):DL l n y=l.set n y:=CG l n y
def wA{α:Type}(p:α->Prop)(x:List α):Prop:=List.length x<=maxLen/\∀y,List.Mem y x->p y
section
variable {α γ σ β:Type}
theorem Ru{f:α->Option (α⊕γ)}{x y:α}(h:f x=some (.inl y))(n:Nat):iter (n+1) f x=iter n f y:=by simp[iter,h]
theorem Pr{f:α->Option (α⊕γ)}{x:α}{z:γ}(h:f x=some (.inr z))(n:Nat):iter (n+1) f x=some z:=by simp[iter,h]
theorem Pc(f:α->Option (α⊕γ))(st:Nat->α)(m:Nat)(r:γ)(hs:∀i,i<m->f (st i)=some (.inl (st (i+1))))(he:f (st m)=some (.inr r)):∀n,m<n->iter n f (st 0)=some r:=by
 have key:∀d i n,i+d=m->d<n->iter n f (st i)=some r:=by
  intro d
  induction d with
  |zero=>
   intro i n hi hn;obtain⟨n,rfl⟩:∃k,n=k+1:=⟨n-1,J⟩;have:i=m:=J
   subst this;exact Pr he n
  |succ d ih=>
   intro i n hi hn;obtain⟨n,rfl⟩:∃k,n=k+1:=⟨n-1,J⟩;rw[Ru (hs i J) n];exact ih (i+1) n J J
 grind
theorem Ph(f:α->Option (α⊕γ))(st:Nat->σ->α)(xs:List β)(G:List β->σ->γ)(Inv:Nat->σ->Prop)
  (hend:∀s,Inv xs.length s->f (st xs.length s)=some (.inr (G [] s)))
  (hstep:∀i x l s,i<xs.length->xs[i]?=some x->xs.drop i=x::l->xs.drop (i+1)=l->Inv i s->(∃s',f (st i s)=some (.inl (st (i+1) s'))/\Inv (i+1) s'/\G (x::l) s=G l s')\/f (st i s)=some (.inr (G (x::l) s))):
  ∀n,xs.length<n->∀s,Inv 0 s->iter n f (st 0 s)=some (G xs s):=by
 have key:∀d i n s,i+d=xs.length->d<n->Inv i s->iter n f (st i s)=some (G (xs.drop i) s):=by
  intro d
  induction d with
  |zero=>
   intro i n s hi hn hI;obtain⟨n,rfl⟩:∃k,n=k+1:=⟨n-1,J⟩;have:i=xs.length:=J
   subst this;rw[Pr (hend s hI) n,List.drop_length]
  |succ d ih=>
   intro i n s hi hn hI;obtain⟨n,rfl⟩:∃k,n=k+1:=⟨n-1,J⟩;have xz:i<xs.length:=J
   have hd:xs.drop i=xs[i]::xs.drop (i+1):=ABj xz;rcases hstep i xs[i] (xs.drop (i+1)) s xz (AAM xz) hd rfl hI with⟨s',h1,h2,h3⟩|h1
   ·rw[Ru h1 n,ih (i+1) n s' J J h2,hd,h3]
   ·rw[Pr h1 n,hd]
 grind
theorem W9(f:Int->Option (Int⊕γ))(xs:List β)(G:List β->List β->γ)(hend:f (xs.length:Int)=some (.inr (G xs [])))
  (hstep:∀i x l p,i<xs.length->xs[i]?=some x->xs=p++x::l->p.length=i->p=xs.take i->(f (i:Int)=some (.inl ((i+1:Nat):Int))/\G p (x::l)=G (p++[x]) l)\/f (i:Int)=some (.inr (G p (x::l)))):
  ∀n,xs.length<n->iter n f 0=some (G [] xs):=by
 intro n hn;refine Ph (σ:=List β) f (λi _=>(i:Int)) xs (λl p=>G p l) (λi p=>p=xs.take i) (λs hs=>?_) (λi x l s h1 h2 h3 h4 h5=>?_) n hn [] so
 ·grind
 ·have hlen:s.length=i:=by rw[h5];simp;omega
  have hx:xs=s++x::l:=by rw[<-h3,h5,ABu]
  grind
end
theorem QP{β:Type}(f:Int->Option (Int⊕(Int⊕Bool)))(xs:List β)(P:β->Bool)(hs:∀(i:Nat)(x:β),i<xs.length->xs[i]?=some x->f (i:Int)=some (bif P x then .inl ((i+1:Nat):Int)else .inr (.inr false)))
  (he:f (xs.length:Int)=some (.inr (.inl (xs.length:Int)))):∀n,xs.length<n->iter n f 0=some (bif xs.all P then .inl (xs.length:Int)else .inr false):=by
 intro n hn;refine W9 f xs (λp l=>bif l.all P then .inl (xs.length:Int)else .inr false) ?_ ?_ n hn
 all_goals grind
theorem mm(b:Bool)(x y:α):(bif b then some x else some y)=some (bif b then x else y):=No
def PO:Nat:=18446744073709551616
theorem AD5{p:Prop}(h:p:=by unfold PO at hB;omega):p:=h
theorem ADW{p:Prop}(h:p:=by unfold PO at hn;omega):p:=h
theorem fA(xs:List α)(i:Nat)(f:α->α)(h:i<xs.length):List.modify xs i f=xs.set i (f xs[i]):=by
 apply AB2
 all_goals grind
def kK(a:List (Int×Int)):Prop:=a.length<=1048576
def kL(a:List (Int×Int×Int)):Prop:=a.length<=1048576
def bB(a:Int×Int×(List (Int×Int))×(List (Int×Int×Int))×Int):Prop:=kK a.2.2.1/\kL a.2.2.2.1
def na(a:List (Int×Int×(List (Int×Int))×(List (Int×Int×Int))×Int)):Prop:=a.length<=1048576/\∀y∈a,bB y
def Qd(a:Int×(List (Int×Int×(List (Int×Int))×(List (Int×Int×Int))×Int))):Prop:=na a.2
def jJ(a:By):Prop:=a.length<=1048576
def pM(a:Int×Int×By):Prop:=jJ a.2.2
def ng(a:List (Int×Int×Int)):Prop:=a.length<=1048576
def rQ(a:Int×Int×(List (Int×Int×Int))):Prop:=ng a.2.2
def Pf(a:List (Int×Int×(List (Int×Int×Int)))):Prop:=a.length<=1048576/\∀y∈a,rQ y
def pN(a:(List (Int×Int×(List (Int×Int×Int))))):Prop:=Pf a
def nc(a:List (Int×Int×Int×Bool×Int)):Prop:=a.length<=1048576
def pO(a:List (Int×Int×Int×Int)):Prop:=a.length<=1048576
def fQ(a:Int×Int×By×(List (Int×Int×(List (Int×Int×Int))))×Int×(List (Int×Int×(List (Int×Int))×(List (Int×Int×Int))×Int))×(List (Int×Int×Int×Bool×Int))×(List (Int×Int×Int×Int))×By×By×Int):Prop:=pM (a.1,a.2.1,a.2.2.1)/\pN a.2.2.2.1/\Qd (a.2.2.2.2.1,a.2.2.2.2.2.1)/\nc a.2.2.2.2.2.2.1/\pO a.2.2.2.2.2.2.2.1/\jJ a.2.2.2.2.2.2.2.2.1/\jJ a.2.2.2.2.2.2.2.2.2.1
theorem SV(h:m<=1048576):decide (m+1<=E8)=true:=by have hm:E8=68719476736:=rfl;grind
theorem VD(h:m<=1048576):decide (m<=E8)=true:=by have hm:E8=68719476736:=rfl;grind
theorem oW{α γ:Type}(f g:α->Option (α⊕γ))(I:Nat->α->Prop)(Q:γ->Prop)(m:Nat)
  (h:∀i x,i<=m->I i x->g x=f x/\((∃y,f x=some (.inl y)/\I (i+1) y/\i<m)\/∃r,f x=some (.inr r)/\Q r)):
  ∀n,m<n->∀x,I 0 x->iter n g x=iter n f x/\∃r,iter n f x=some r/\Q r:=by
 have key:∀d i n x,i+d=m->d<n->I i x->iter n g x=iter n f x/\∃r,iter n f x=some r/\Q r:=by
  intro d
  induction d with
  |zero=>
   intro i n x hi hn hI;obtain⟨n,rfl⟩:∃k,n=k+1:=⟨n-1,J⟩;obtain⟨e,h1|⟨r,h1,h2⟩⟩:=h i x J hI
   ·obtain⟨y,_,_,xz⟩:=h1;omega
   ·exact⟨by rw[Pr h1 n,Pr (e.trans h1) n],r,Pr h1 n,h2⟩
  |succ d ih=>
   intro i n x hi hn hI;obtain⟨n,rfl⟩:∃k,n=k+1:=⟨n-1,J⟩;obtain⟨e,⟨y,h1,h2,_⟩|⟨r,h1,h2⟩⟩:=h i x J hI
   ·obtain⟨j1,j2⟩:=ih (i+1) n y J J h2;rw[Ru h1 n,Ru (e.trans h1) n];exact⟨j1,j2⟩
   ·exact⟨by rw[Pr h1 n,Pr (e.trans h1) n],r,Pr h1 n,h2⟩
 grind
theorem Yq(a:O5)(h:a.2.2.2.1.length<=1048576)(c:Int)(n:Nat)(hn:PO<=n):Ut n a.1 a.2.1 a.2.2.1 a.2.2.2.1 a.2.2.2.2 c=some (a.2.2.2.1.filter λx=>x.1==c):=by
 have hc:=Ph (σ:=OF) (SS a.2.2.2.1 c) (λi s=>(s,(i:Int))) a.2.2.2.1 (λl s=>(s++l.filter λx=>x.1==c,(a.2.2.2.1.length:Int))) (λi s=>s.length<=i)
  (λs hs=>by simp[SS])
  (λi x l s h1 h2 h3 h4 h5=>by
   left;have hx:a.2.2.2.1[i]=x:=by rw[AAM h1]at h2;exact Option.some.inj h2
   have hr:decide (s.length+1<=E8)=true:=SV J;cases hq:x.1==c with
   |true=>exact⟨s++[x],by simp[SS,h1,PA h1,hx,hq,O9 h1 J,hr],ADb,by simp[hq]⟩
   |false=>exact⟨s,by simp[SS,h1,PA h1,hx,hq,O9 h1 J],J,by simp[hq]⟩)
  n ADW [] (AAi _)
 unfold Ut;grind
def tX(x:Int):Prop:=IntKind.min .u8<=x/\x<=IntKind.max .u8
theorem ae(x:Int):0<=OA .i64 x 255/\OA .i64 x 255<=255:=by
 unfold OA
 have h:(BitVec.ofInt (IntKind.bits .i64) x &&& BitVec.ofInt (IntKind.bits .i64) 255).toNat<=255:=by
  rw[BitVec.toNat_and];have:(BitVec.ofInt (IntKind.bits .i64) 255).toNat=255:=ADd
  rw[this];exact Nat.and_le_right
 generalize (BitVec.ofInt (IntKind.bits .i64) x &&& BitVec.ofInt (IntKind.bits .i64) 255).toNat=m at h;have:IntKind.wrap .i64 (m:Int)=(m:Int):=PJ J J;omega
theorem bq(b:By)(i h:Int)(hi:0<=i)(hb:b.length<=1048576):∃x i' h':Int,TI b i h=some (x,b,i',h')/\0<=x/\x<=255/\0<=i':=by
 unfold TI;rw[show decide ((0:Nat)<=33)=true from rfl,show decide ((0:Nat)<=47)=true from rfl];simp only[ABT];by_cases hl:i<(b.length:Int)
 ·obtain⟨j,rfl⟩:∃j:Nat,i=(j:Int):=⟨i.toNat,J⟩;have hj:j<b.length:=J
  rw[show decide ((j:Int)<(b.length:Int))=true by grind,ABT,PA hj];simp only[ABS];refine⟨_,_,_,rfl,(ae _).1,(ae _).2,?_⟩;rw[O9 hj J];omega
 ·rw[show decide (i<(b.length:Int))=false by grind,ABV];simp only[ABS];exact⟨_,_,_,rfl,(ae _).1,(ae _).2,hi⟩
theorem lK(b:By)(i h:Int)(hi:0<=i)(hb:b.length<=1048576)(n:Int):∃x i' h':Int,Pn b i h n=some (x,b,i',h')/\0<=i'/\0<=x/\(x<n\/n<=0/\x=0):=by
 unfold Pn;by_cases h0:n<=0
 ·rw[show decide (n<=0)=true by simpa using h0,ABT];grind
 rw[show decide (n<=0)=false by grind,ABV];have hz:(n==0)=false:=by rw[<-ABt];simp;omega
 rw[hz]
 have fin:∀x:Int,0<=x->0<=Int.tmod x n/\Int.tmod x n<n:=λx hx=>by rw[Int.tmod_eq_emod_of_nonneg hx];exact⟨Int.emod_nonneg _ J,Int.emod_lt_of_pos _ J⟩
 obtain⟨x,i1,h1,e1,x0,x1,j1⟩:=bq b i h hi hb;rw[e1];simp only[ABS,ABV];by_cases h2:n<=256
 ·grind
 rw[show decide (n<=256)=false by grind,ABV];obtain⟨y,i2,h2',e2,y0,y1,j2⟩:=bq b i1 h1 j1 hb;rw[e2];simp only[ABS];obtain⟨z,i3,h3',e3,z0,z1,j3⟩:=bq b i2 h2' j2 hb;rw[e3];simp only[ABS];rw[PJ (n:=x*65536) J J,PJ (n:=y*256) J J,PJ (n:=x*65536+y*256) J J,PJ (n:=x*65536+y*256+z) J J];exact⟨_,_,_,rfl,j3,(fin _ J).1,.inl (fin _ J).2⟩
theorem oY(a:By)(ha:a.length<=1048576)(n:Nat)(hn:PO<=n):∃h:Int,Yl n a=some (a,0,h):=by
 obtain⟨_,r,e,_⟩:=oW (α:=Int×Int) (γ:=Int×Int) (WD a) (WD a) (λi x=>x.2=(i:Int)) (λ_=>True) a.length (λi x hi hI=>by
  refine⟨rfl,?_⟩;obtain⟨h,k⟩:=x;dsimp only at hI;subst hI;unfold WD;dsimp only;by_cases hl:i<a.length
  ·rw[show decide ((i:Int)<(a.length:Int))=true by simp;omega,ABT];simp only[ABS];cases decide ((i:Int)<4000)with
   |false=>grind
   |true=>
    rw[ABT,PA hl];exact .inl ⟨_,rfl,O9 hl J,hl⟩
  ·rw[show decide ((i:Int)<(a.length:Int))=false by simp;omega];exact .inr ⟨_,rfl,trivial⟩) n ADW (PB (275275+(a.length:Int)),0) rfl
 unfold Yl;rw[e];exact⟨r.1,rfl⟩
theorem nB(a:By)(ha:a.length<=1048576)(m:Int)(hm:0<=m):∃r:Int,Xs a m=some r/\0<=r/\r<=m:=by
 unfold Xs;have e:Int.tdiv (a.length:Int) 12=((a.length / 12:Nat):Int):=by rw[Int.tdiv_eq_ediv_of_nonneg J];omega
 rw[e,PJ (n:=((a.length / 12:Nat):Int)) J J,PJ (n:=3+((a.length / 12:Nat):Int)) J J];by_cases h:3+((a.length / 12:Nat):Int)>m
 ·rw[show decide (3+((a.length / 12:Nat):Int)>m)=true by simpa using h];grind
 ·rw[show decide (3+((a.length / 12:Nat):Int)>m)=false by simpa using h];grind
theorem gm{β:Type}(f:Int->Option (Int⊕(Int⊕Int)))(xs:List β)(P:β->Bool)(hs:∀(i:Nat)(x:β),i<xs.length->xs[i]?=some x->f (i:Int)=some (bif P x then .inr (.inr (i:Int))else .inl ((i+1:Nat):Int)))
  (he:f (xs.length:Int)=some (.inr (.inl (xs.length:Int)))):∀n,xs.length<n->iter n f 0=some (.inl (xs.length:Int))\/∃i,∃h:i<xs.length,P xs[i]=true/\iter n f 0=some (.inr (i:Int)):=by
 have key:∀d i n,i+d=xs.length->d<n->iter n f (i:Int)=some (.inl (xs.length:Int))\/∃j,∃h:j<xs.length,P xs[j]=true/\iter n f (i:Int)=some (.inr (j:Int)):=by
  intro d
  induction d with
  |zero=>
   intro i n hi hn;obtain⟨n,rfl⟩:∃k,n=k+1:=⟨n-1,J⟩;have:i=xs.length:=J
   subst this;exact .inl (Pr he n)
  |succ d ih=>
   intro i n hi hn;obtain⟨n,rfl⟩:∃k,n=k+1:=⟨n-1,J⟩;have xz:i<xs.length:=J
   have hf:=hs i xs[i] xz (AAM xz);cases hp:P xs[i]with
   |true=>rw[hp,ABT]at hf;exact .inr ⟨i,xz,hp,Pr hf n⟩
   |false=>rw[hp,ABV]at hf;rw[Ru hf n];exact ih (i+1) n J J
 grind
theorem YZ:Qc=Ww:=rfl
theorem ZR(a:O5)(h:bB a):Qv a.1 a.2.1 a.2.2.1 a.2.2.2.1 a.2.2.2.2=some a:=by obtain⟨h1,h2⟩:=h;unfold Qv;simp[VD h1,VD h2]
theorem Si(a:O5)(h:bB a):Rz a.1 a.2.1 a.2.2.1 a.2.2.2.1 a.2.2.2.2=some a:=by obtain⟨h1,h2⟩:=h;unfold Rz Qa XM;simp[VD h1,VD h2]
abbrev Dp:=Int×Int×By×(List (Int×Int×OF))×Int×ADa×(List (Int×Int×Int×Bool×Int))×(List (Int×Int×Int×Int))×By×By×Int
def jg(t:List (Int×Int×Int×Int))(o:O5):Bool := !((t.any λx=>x.1==o.1) != (o.2.2.2.2==1))
theorem ig(t:List (Int×Int×Int×Int))(h:t.length<=1048576)(o:O5)(n:Nat)(hn:PO<=n):iter n (Ur t o) (false,0)=some (t.any λx=>x.1==o.1,(t.length:Int)):=by
 have hc:=Ph (σ:=Bool) (Ur t o) (λi s=>(s,(i:Int))) t (λl s=>(s||l.any λx=>x.1==o.1,(t.length:Int))) (λ_ _=>True)
  (λs hs=>by simp[Ur])
  (λi x l s h1 h2 h3 h4 h5=>by
   left;have hx:t[i]=x:=by rw[AAM h1]at h2;exact Option.some.inj h2
   refine⟨s||x.1==o.1,?_,trivial,by simp[Bool.or_assoc]⟩;simp only[Ur,PA h1,hx,ABS,O9 h1 J];rw[show decide ((i:Int)<(t.length:Int))=true by simpa using h1];cases s<;>rfl)
  n ADW false trivial
 grind
theorem ij(a:Dp)(h:fQ a)(n:Nat)(hn:PO<=n):bd n a.1 a.2.1 a.2.2.1 a.2.2.2.1 a.2.2.2.2.1 a.2.2.2.2.2.1 a.2.2.2.2.2.2.1 a.2.2.2.2.2.2.2.1 a.2.2.2.2.2.2.2.2.1 a.2.2.2.2.2.2.2.2.2.1 a.2.2.2.2.2.2.2.2.2.2=some (a.2.2.2.2.2.1.all (jg a.2.2.2.2.2.2.2.1)):=by
 have hl:a.2.2.2.2.2.1.length<=1048576:=h.2.2.1.1;have ht:a.2.2.2.2.2.2.2.1.length<=1048576:=h.2.2.2.2.1
 have:=QP (Wk n a.2.2.2.2.2.1 a.2.2.2.2.2.2.2.1) a.2.2.2.2.2.1 (jg a.2.2.2.2.2.2.2.1) (λi x h1 h2=>by
  have hx:a.2.2.2.2.2.1[i]=x:=by rw[AAM h1]at h2;exact Option.some.inj h2
  simp only[Wk,PA h1,hx,ABS,O9 h1 J,ig _ ht x n hn,jg];rw[show decide ((i:Int)<(a.2.2.2.2.2.1.length:Int))=true by simpa using h1];cases((a.2.2.2.2.2.2.2.1.any λy=>y.1==x.1) != (x.2.2.2.2==1))<;>rfl) (by simp[Wk]) n ADW
 unfold bd;grind
theorem Tu:PX=PS:=rfl
theorem mF(a b c:Int):PS a b c=some (decide (b<=a)&&decide (a<=c)):=by unfold PS;grind
theorem ea(n:Nat)(a:List (Int×Int)):RZ n a=Qs n a:=by
 have h:WZ a=P0 a:=by
  funext i;unfold WZ P0;rw[Tu];cases decide (i<(a.length:Int))with
  |false=>rfl
  |true=>
   cases hg:Iz a i with
   |none=>simp[hg]
   |some x=>simp[hg]
 unfold RZ Qs;rw[h]
theorem lH{γ:Type}(f:Int->Option (Int⊕γ))(m:Nat)(hs:∀i:Nat,i<m->f (i:Int)=some (.inl ((i+1:Nat):Int))\/∃r,f (i:Int)=some (.inr r))(he:∃r,f (m:Int)=some (.inr r)):∀n,m<n->∃r,iter n f 0=some r:=by
 have key:∀d i n,i+d=m->d<n->∃r,iter n f (i:Int)=some r:=by
  intro d
  induction d with
  |zero=>
   intro i n hi hn;obtain⟨n,rfl⟩:∃k,n=k+1:=⟨n-1,J⟩;have:i=m:=J
   subst this;obtain⟨r,hr⟩:=he;exact⟨r,Pr hr n⟩
  |succ d ih=>
   intro i n hi hn;obtain⟨n,rfl⟩:∃k,n=k+1:=⟨n-1,J⟩;rcases hs i J with h|⟨r,h⟩
   ·rw[Ru h n];exact ih (i+1) n J J
   ·exact⟨r,Pr h n⟩
 intro n hn;exact key m 0 n J hn
theorem ix(n:Nat)(hn:PO<=n)(a:List (Int×Int))(ha:a.length<=1048576):∃b,Qs n a=some b:=by
 obtain⟨r,hr⟩:=lH (P0 a) a.length (λi hi=>by
  unfold P0;rw[show decide ((i:Int)<(a.length:Int))=true by grind,ABT,PA hi,O9 hi J];simp only[ABS,mF];by_cases h0:i=0
  ·grind
  ·obtain⟨j,rfl⟩:∃j,i=j+1:=⟨i-1,J⟩;have e:PB (((j+1:Nat):Int)-1)=(j:Int):=by rw[PJ J J];omega
   rw[e,PA (by omega:j<a.length)];grind) (by unfold P0;simp) n ADW
 unfold Qs;rw[hr];cases r with
 |inl k=>exact⟨_,rfl⟩
 |inr b=>exact⟨_,rfl⟩
theorem Qf(f:α->Option (α⊕(α⊕Bool)))(st:Nat->α)(m:Nat)(P:Nat->Bool)(hs:∀i,i<m->f (st i)=some (bif P i then .inl (st (i+1))else .inr (.inr false)))(he:f (st m)=some (.inr (.inl (st m)))):
  ∀n,m<n->iter n f (st 0)=some (bif(List.range m).all P then .inl (st m)else .inr false):=by
 have key:∀d i n,i+d=m->d<n->iter n f (st i)=some (bif(List.range' i d).all P then .inl (st m)else .inr false):=by
  intro d
  induction d with
  |zero=>
   intro i n hi hn;obtain⟨n,rfl⟩:∃k,n=k+1:=⟨n-1,J⟩;have:i=m:=J
   subst this;rw[Pr he n];rfl
  |succ d ih=>
   intro i n hi hn;obtain⟨n,rfl⟩:∃k,n=k+1:=⟨n-1,J⟩;have hf:=hs i J;rw[List.range'_succ,List.all_cons];cases hp:P i with
   |true=>rw[hp,ABT]at hf;rw[Ru hf n,ih (i+1) n J J];rfl
   |false=>rw[hp,ABV]at hf;rw[Pr hf n];rfl
 grind
theorem aZ(f:Int->Option (Int⊕Int))(m:Nat)(P:Nat->Bool)(hs:∀i,i<m->f (i:Int)=some (bif P i then .inl ((i+1:Nat):Int)else .inr (i:Int)))(he:f (m:Int)=some (.inr (m:Int))):
  ∀n,m<n->∃j,j<=m/\iter n f 0=some (j:Int)/\(∀i,i<j->P i=true)/\(j<m->P j=false):=by
 have key:∀d i n,i+d=m->d<n->∃j,i<=j/\j<=m/\iter n f (i:Int)=some (j:Int)/\(∀q,i<=q->q<j->P q=true)/\(j<m->P j=false):=by
  intro d
  induction d with
  |zero=>
   intro i n hi hn;obtain⟨n,rfl⟩:∃k,n=k+1:=⟨n-1,J⟩;have:i=m:=J
   subst this;exact⟨i,AAi _,AAi _,Pr he n,λq h1 h2=>J,λh=>J⟩
  |succ d ih=>
   intro i n hi hn;obtain⟨n,rfl⟩:∃k,n=k+1:=⟨n-1,J⟩;have hf:=hs i J;cases hp:P i with
   |true=>
    rw[hp,ABT]at hf;obtain⟨j,h1,h2,h3,h4,h5⟩:=ih (i+1) n J J;refine⟨j,J,h2,by rw[Ru hf n];exact h3,λq q1 q2=>?_,h5⟩;by_cases e:q=i
    ·subst e;exact hp
    ·exact h4 q J q2
   |false=>rw[hp,ABV]at hf;exact⟨i,AAi _,J,Pr hf n,λq h1 h2=>J,λ_=>hp⟩
 intro n hn;obtain⟨j,_,h2,h3,h4,h5⟩:=key m 0 n J hn;grind
theorem bK{β:Type}{a:List β}{y:β}(h:j<(a.take i).length)(hy:(a.take i)[j]?=some y):j<i/\∃h:j<a.length,a[j]=y:=No
def Qo{β:Type}(key:β->Int)(a:List β)(i:Nat)(x:β):Bool:=match i with
 |0=>true
 |j+1=>match a[j]? with
  |some y => !decide (key y>=key x)
  |none=>true
theorem X3{β γ:Type}(key:β->Int)(a:List β)(x:β)(i:Nat)(hi:i<a.length)(hl:a.length<=1048576)(F:Bool->Option γ):
  (bif decide ((i:Int)>0)then(Iz a (PB ((i:Int)-1))).bind (λy=>F (decide (key y>=key x)))else F false)=F (!Qo key a i x):=by
 cases i with
 |zero=>rfl
 |succ j=>
  have hw:PB (((j+1:Nat):Int)-1)=(j:Int):=by rw[PJ J J];omega
  rw[show decide (((j+1:Nat):Int)>0)=true by grind,ABT,hw,PA J,ABS];simp only[Qo,AAM (show j<a.length by omega),Bool.not_not]
def P7(a b c:Int):Bool:=decide (b<=a)&&decide (a<=c)
theorem QR(a b c:Int):PS a b c=some (P7 a b c):=mF a b c
def PY(w h:Int)(c:By):Bool:=P7 w 1 10&&P7 h 1 10&&((c.length:Int)==PB (w*h))&&c.all λk=>P7 k 0 4
theorem Ps(w h:Int)(c:By)(hl:c.length<=1048576)(n:Nat)(hn:PO<=n):Qr n w h c=some (PY w h c):=by
 have:=QP (UK c) c (λk=>P7 k 0 4) (λi x h1 h2=>by
  have hx:c[i]=x:=by rw[AAM h1]at h2;exact Option.some.inj h2
  simp only[UK,PA h1,hx,ABS,O9 h1 J,QR];grind) (by simp[UK]) n ADW
 unfold Qr PY;rw[this];simp only[QR,ABS,bne];cases P7 w 1 10<;>cases P7 h 1 10<;>cases((c.length:Int)==PB (w*h))<;>cases(c.all λk=>P7 k 0 4)<;>rfl
theorem X9:SJ=Qr:=rfl
def QU(c:By)(i:Int):Bool:=P7 i 0 ((c.length:Int)-1)&&(c.getD i.toNat 0 != 0)
theorem ZB{i:Int}(h:P7 i 0 ((c.length:Int)-1)=true):∃m:Nat,i=(m:Int)/\m<c.length:=by unfold P7 at h;simp only[AAN,AAh]at h;exact⟨i.toNat,J,J⟩
theorem fU(w h:Int)(c:By)(hl:c.length<=1048576)(i:Int):Xt w h c i=some (QU c i):=by
 unfold Xt QU;rw[show PB ((c.length:Int)-1)=(c.length:Int)-1 from PJ J J];simp only[QR,ABS];cases hb:P7 i 0 ((c.length:Int)-1)with
 |false=>rfl
 |true=>
  obtain⟨m,rfl,hm⟩:=ZB hb;simp[PA hm,hm]
theorem S6(w h:Int)(c:By)(hl:c.length<=1048576)(hf:PY w h c=true)(i:Int)(n:Nat)(hn:PO<=n):∃k,Q5 n w h c i=some k/\(k != 0)=QU c i:=by
 unfold Q5 TB QU;rw[X9,Ps w h c hl n hn,hf,show PB ((c.length:Int)-1)=(c.length:Int)-1 from PJ J J];simp only[Tu,QR,ABS];cases hb:P7 i 0 ((c.length:Int)-1)with
 |false=>grind
 |true=>
  obtain⟨m,rfl,hm⟩:=ZB hb;exact⟨c[m],by simp[PA hm],by simp[hm]⟩
theorem YE(w h:Int)(c:By)(hl:c.length<=1048576)(hf:PY w h c=true)(x:O7)(n:Nat)(hn:PO<=n):Ro n w h c x.1 x.2.1 x.2.2.1 x.2.2.2.1 x.2.2.2.2=some (QU c x.2.1&&(x.2.2.1 == -1||QU c x.2.2.1)):=by unfold Ro;obtain⟨k1,e1,q1⟩:=S6 w h c hl hf x.2.1 n hn;obtain⟨k2,e2,q2⟩:=S6 w h c hl hf x.2.2.1 n hn;grind
def pD(c:By)(crew:List (Int×Int×Int×Bool×Int))(i:Nat):Bool:=match crew[i]? with
 |none=>false
 |some x=>P7 x.1 1 99&&QU c x.2.1&&(x.2.2.1 == -1||QU c x.2.2.1)&&P7 x.2.2.2.2 0 1000000&&Qo (·.1) crew i x&&(crew.take i).all λy => !(y.2.1==x.2.1)
def S1(w h:Int)(c:By)(crew:List (Int×Int×Int×Bool×Int)):Bool:=PY w h c&&decide (crew.length<=20)&&(List.range crew.length).all (pD c crew)
theorem fS(crew:List (Int×Int×Int×Bool×Int))(hl:crew.length<=1048576)(i:Nat)(hi:i<crew.length)(x:Int×Int×Int×Bool×Int)(n:Nat)(hn:PO<=n):
  iter n (R5 crew (i:Int) x) 0=some (bif(crew.take i).all λy => !(y.2.1==x.2.1)then .inl (i:Int)else .inr false):=by
 have hlen:(crew.take i).length=i:=ADb
 have:=QP (R5 crew (i:Int) x) (crew.take i) (λy => !(y.2.1==x.2.1)) (λj y h1 h2=>by
  obtain⟨hj,hj2,hy⟩:=bK h1 h2;simp only[R5,PA hj2,hy,ABS,O9 hj2 J];rw[show decide ((j:Int)<(i:Int))=true by rw[AAh];omega];cases(y.2.1==x.2.1)<;>rfl) (by first|(simp[R5,hlen];done)|(simp[R5,hlen];omega)) n ADW
 grind
theorem ZN(w h:Int)(c:By)(hc:c.length<=1048576)(crew:List (Int×Int×Int×Bool×Int))(hl:crew.length<=1048576)(n:Nat)(hn:PO<=n):Xl n w h c crew=some (S1 w h c crew):=by
 have:=Qf (VG n w h c crew) (λi=>(i:Int)) crew.length (pD c crew) (λi hi=>by
  have hp:(bif decide ((i:Int)>0)then(Iz crew (PB ((i:Int)-1))).bind (λy=>some (decide (y.1>=crew[i].1)))else some false)=some (!Qo (·.1) crew i crew[i]):=X3 (·.1) crew crew[i] i hi hl some;simp only[VG,pD,PA hi,AAM hi,ABS,QR,fU w h c hc,O9 hi J,hp,fS crew hl i hi crew[i] n hn,bne];grind) (by simp[VG]) n ADW
 unfold Xl S1;rw[show((0:Nat):Int)=0 from rfl]at this;rw[this,Ps w h c hc n hn];rw[show decide ((crew.length:Int)>20) = !decide (crew.length<=20) by by_cases q:crew.length<=20<;>simp[q]<;>omega];cases PY w h c<;>cases decide (crew.length<=20)<;>cases(List.range crew.length).all (pD c crew)<;>rfl
theorem eN(crew:List (Int×Int×Int×Bool×Int))(hl:crew.length<=1048576)(i:Nat)(hi:i<crew.length)(x:Int×Int×Int×Bool×Int)(n:Nat)(hn:PO<=n):
  iter n (S4 crew (i:Int) x) 0=some (bif(crew.take i).all λy => !(y.2.1==x.2.1)then .inl (i:Int)else .inr false):=by
 have yu:sub crew (Int.toNat (0:Int)) (Int.toNat (i:Int))=crew.take i:=by simp[sub]
 have hlen:(crew.take i).length=i:=ADb
 have:=QP (S4 crew (i:Int) x) (crew.take i) (λy => !(y.2.1==x.2.1)) (λj y h1 h2=>by
  obtain⟨hj,hj2,hy⟩:=bK h1 h2;simp only[S4,yu,RY,h2,ABS,O9 hj2 J,hlen];rw[show decide ((j:Int)<(i:Int))=true by rw[AAh];omega];cases(y.2.1==x.2.1)<;>rfl) (by simp only[S4,yu,hlen];simp) n ADW
 grind
theorem S5(w h:Int)(c:By)(hc:c.length<=1048576)(crew:List (Int×Int×Int×Bool×Int))(hl:crew.length<=1048576)(n:Nat)(hn:PO<=n):SF n w h c crew=some (S1 w h c crew):=by
 unfold SF S1;rw[X9,Ps w h c hc n hn];rw[show decide ((crew.length:Int)>20) = !decide (crew.length<=20) by by_cases q:crew.length<=20<;>simp[q]<;>omega];cases hf:PY w h c with
 |false=>rfl
 |true=>
  have:=Qf (Uq n w h c crew) (λi=>(i:Int)) crew.length (pD c crew) (λi hi=>by
   have hp:∀C:Option Bool,(bif decide ((i:Int)>0)then(Iz crew (PB ((i:Int)-1))).bind (λy=>bif decide (y.1>=crew[i].1)then some true else C)else C)=bif !Qo (·.1) crew i crew[i]then some true else C:=λC=>X3 (·.1) crew crew[i] i hi hl λb=>bif b then some true else C;have hr:(decide (0<=(0:Int))&&decide ((0:Int)<=(i:Int))&&decide ((i:Int)<=(crew.length:Int)))=true:=ADb
   simp only[Uq,pD,PA hi,AAM hi,ABS,Tu,QR,YE w h c hc hf _ n hn,O9 hi J,hp,eN crew hl i hi crew[i] n hn,hr];grind) (by simp[Uq]) n ADW
  rw[show((0:Nat):Int)=0 from rfl]at this;rw[this];cases decide (crew.length<=20)<;>cases(List.range crew.length).all (pD c crew)<;>rfl
def Wh(t:List (Int×Int×Int×Int))(x:Int×Int×Int×Bool×Int):Bool:=t.any λy=>y.2.2.1==x.1&&P7 y.2.2.2 3 4
def ax(a:Dp):Bool:=S1 a.1 a.2.1 a.2.2.1 a.2.2.2.2.2.2.1&&a.2.2.2.2.2.2.1.all λx => !(x.2.2.2.1 && !Wh a.2.2.2.2.2.2.2.1 x)
theorem eO(t:List (Int×Int×Int×Int))(h:t.length<=1048576)(r:Int×Int×Int×Bool×Int)(n:Nat)(hn:PO<=n):iter n (S8 t r) (false,0)=some (Wh t r,(t.length:Int)):=by
 have hc:=Ph (σ:=Bool) (S8 t r) (λi s=>(s,(i:Int))) t (λl s=>(s||Wh l r,(t.length:Int))) (λ_ _=>True)
  (λs hs=>by simp[S8,Wh])
  (λj x l s h1 h2 h3 h4 h5=>by
   left;have hx:t[j]=x:=by rw[AAM h1]at h2;exact Option.some.inj h2
   refine⟨s||(x.2.2.1==r.1&&P7 x.2.2.2 3 4),?_,trivial,by simp[Wh,Bool.or_assoc]⟩;have xv:P7 x.2.2.2 3 4=(x.2.2.2==3||x.2.2.2==4):=by unfold P7;rw[AB0];simp;omega
   simp only[S8,PA h1,hx,ABS,O9 h1 J,xv];rw[show decide ((j:Int)<(t.length:Int))=true by simpa using h1];cases s<;>cases(x.2.2.1==r.1)<;>cases(x.2.2.2==3)<;>cases(x.2.2.2==4)<;>rfl)
  n ADW false trivial
 grind
theorem eP(a:Dp)(h:fQ a)(n:Nat)(hn:PO<=n):Y8 n a.1 a.2.1 a.2.2.1 a.2.2.2.1 a.2.2.2.2.1 a.2.2.2.2.2.1 a.2.2.2.2.2.2.1 a.2.2.2.2.2.2.2.1 a.2.2.2.2.2.2.2.2.1 a.2.2.2.2.2.2.2.2.2.1 a.2.2.2.2.2.2.2.2.2.2=some (ax a):=by
 have hf:a.2.2.1.length<=1048576:=h.1;have hl:a.2.2.2.2.2.2.1.length<=1048576:=h.2.2.2.1;have ht:a.2.2.2.2.2.2.2.1.length<=1048576:=h.2.2.2.2.1
 have:=QP (Uv n a.2.2.2.2.2.2.1 a.2.2.2.2.2.2.2.1) a.2.2.2.2.2.2.1 (λx => !(x.2.2.2.1 && !Wh a.2.2.2.2.2.2.2.1 x)) (λi x h1 h2=>by
  have hx:a.2.2.2.2.2.2.1[i]=x:=by rw[AAM h1]at h2;exact Option.some.inj h2
  simp only[Uv,PA h1,hx,ABS,O9 h1 J,eO _ ht x n hn];rw[show decide ((i:Int)<(a.2.2.2.2.2.2.1.length:Int))=true by simpa using h1];cases x.2.2.2.1<;>cases Wh a.2.2.2.2.2.2.2.1 x<;>rfl) (by simp[Uv]) n ADW
 unfold Y8 ax;rw[S5 _ _ _ hf _ hl n hn,this];grind
def WH(l:OF)(i:Nat):Bool:=match l[i]? with
 |none=>false
 |some x=>P7 x.1 1 50&&P7 x.2.1 1 1000&&P7 x.2.2 0 x.2.1&&Qo (·.1) l i x
def Ql(l:OF):Bool:=(List.range l.length).all (WH l)&&decide (l.length<=8)
abbrev PK:=Int×Int×OF
abbrev Is:=List PK
def cy(a:Is)(i:Nat):Bool:=match a[i]? with
 |none=>false
 |some x=>P7 x.1 1 999&&P7 x.2.1 0 99&&Ql x.2.2&&Qo (·.1) a i x&&(a.take i).all λy => !(y.2.1==x.2.1)
def Pw(a:Is):Bool:=decide (a.length<=12)&&(List.range a.length).all (cy a)
theorem cQ(l:OF)(hl:l.length<=1048576)(n:Nat)(hn:PO<=n):WE n l=some (Ql l):=by
 have:=Qf (Th l) (λi=>(i:Int)) l.length (WH l) (λi hi=>by
  have hp:(bif decide ((i:Int)>0)then(Iz l (PB ((i:Int)-1))).bind (λy=>some (decide (y.1>=l[i].1)))else some false)=some (!Qo (·.1) l i l[i]):=X3 (·.1) l l[i] i hi hl some;simp only[Th,WH,PA hi,AAM hi,ABS,QR,O9 hi J,hp];rw[show decide ((i:Int)<(l.length:Int))=true by simpa using hi];generalize l[i]=x;generalize Qo (·.1) l i x=b4;cases P7 x.1 1 50<;>cases P7 x.2.1 1 1000<;>cases P7 x.2.2 0 x.2.1<;>cases b4<;>rfl) (by simp[Th]) n ADW
 unfold WE Ql;rw[show((0:Nat):Int)=0 from rfl]at this;rw[this];rw[show decide ((l.length:Int)<=8)=decide (l.length<=8) by rw[AB0];simp;omega];grind
theorem dT(a:Is)(hl:a.length<=1048576)(i:Nat)(hi:i<a.length)(x:PK)(n:Nat)(hn:PO<=n):
  iter n (RR a (i:Int) x) 0=some (bif(a.take i).all λy => !(y.2.1==x.2.1)then .inl (i:Int)else .inr false):=by
 have hlen:(a.take i).length=i:=ADb
 have:=QP (RR a (i:Int) x) (a.take i) (λy => !(y.2.1==x.2.1)) (λj y h1 h2=>by
  obtain⟨hj,hj2,hy⟩:=bK h1 h2;simp only[RR,PA hj2,hy,ABS,O9 hj2 J];rw[show decide ((j:Int)<(i:Int))=true by rw[AAh];omega];cases(y.2.1==x.2.1)<;>rfl) (by first|(simp[RR,hlen];done)|(simp[RR,hlen];omega)) n ADW
 grind
theorem QM(a:Is)(hs:Pf a)(n:Nat)(hn:PO<=n):Q1 n a=some (Pw a):=by
 have hl:a.length<=1048576:=hs.1
 have:=Qf (UL n a) (λi=>(i:Int)) a.length (cy a) (λi hi=>by
  have hp:(bif decide ((i:Int)>0)then(Iz a (PB ((i:Int)-1))).bind (λy=>some (decide (y.1>=a[i].1)))else some false)=some (!Qo (·.1) a i a[i]):=X3 (·.1) a a[i] i hi hl some;have hst:a[i].2.2.length<=1048576:=hs.2 _ (ABU hi);simp only[UL,cy,PA hi,AAM hi,ABS,QR,O9 hi J,hp,cQ _ hst n hn,dT a hl i hi a[i] n hn];rw[show decide ((i:Int)<(a.length:Int))=true by simpa using hi];generalize a[i]=x;generalize ((a.take i).all λy => !(y.2.1==x.2.1))=b5;generalize Qo (·.1) a i x=b4;cases P7 x.1 1 999<;>cases P7 x.2.1 0 99<;>cases Ql x.2.2<;>cases b4<;>cases b5<;>rfl) (by simp[UL]) n ADW
 unfold Q1 Pw;grind
theorem gL(p:PK)(hl:p.2.2.length<=1048576)(n:Nat)(hn:PO<=n):YW n p.1 p.2.1 p.2.2=some (P7 p.1 1 999&&P7 p.2.1 0 99&&Ql p.2.2):=by
 have:=Qf (V2 p.2.2) (λi=>(i:Int)) p.2.2.length (WH p.2.2) (λi hi=>by
  have hp:(bif decide ((i:Int)>0)then(Iz p.2.2 (PB ((i:Int)-1))).bind (λy=>some (decide (y.1>=p.2.2[i].1)))else some false)=some (!Qo (·.1) p.2.2 i p.2.2[i]):=X3 (·.1) p.2.2 p.2.2[i] i hi hl some;simp only[V2,WH,PA hi,AAM hi,ABS,Tu,QR,O9 hi J,hp];grind) (by simp[V2]) n ADW
 unfold YW Ql;rw[show((0:Nat):Int)=0 from rfl]at this;rw[this,show decide ((p.2.2.length:Int)>8) = !decide (p.2.2.length<=8) by by_cases q:p.2.2.length<=8<;>simp[q]<;>omega];simp only[Tu,QR,ABS];cases P7 p.1 1 999<;>cases P7 p.2.1 0 99<;>cases decide (p.2.2.length<=8)<;>cases(List.range p.2.2.length).all (WH p.2.2)<;>rfl
theorem dL(a:Is)(hl:a.length<=1048576)(i:Nat)(hi:i<a.length)(x:PK)(n:Nat)(hn:PO<=n):
  iter n (SU a (i:Int) x) 0=some (bif(a.take i).all λy => !(y.2.1==x.2.1)then .inl (i:Int)else .inr false):=by
 have yu:sub a (Int.toNat (0:Int)) (Int.toNat (i:Int))=a.take i:=by simp[sub]
 have hlen:(a.take i).length=i:=ADb
 have:=QP (SU a (i:Int) x) (a.take i) (λy => !(y.2.1==x.2.1)) (λj y h1 h2=>by
  obtain⟨hj,hj2,hy⟩:=bK h1 h2;simp only[SU,yu,RY,h2,ABS,O9 hj2 J,hlen];rw[show decide ((j:Int)<(i:Int))=true by rw[AAh];omega];cases(y.2.1==x.2.1)<;>rfl) (by simp only[SU,yu,hlen];simp) n ADW
 grind
theorem QK(a:Is)(hs:Pf a)(n:Nat)(hn:PO<=n):Q0 n a=some (Pw a):=by
 have hl:a.length<=1048576:=hs.1
 have:=Qf (UD n a) (λi=>(i:Int)) a.length (cy a) (λi hi=>by
  have hp:(bif decide ((i:Int)>0)then(Iz a (PB ((i:Int)-1))).bind (λy=>some (decide (y.1>=a[i].1)))else some false)=some (!Qo (·.1) a i a[i]):=X3 (·.1) a a[i] i hi hl some;have hst:a[i].2.2.length<=1048576:=hs.2 _ (ABU hi);have hr:(decide (0<=(0:Int))&&decide ((0:Int)<=(i:Int))&&decide ((i:Int)<=(a.length:Int)))=true:=ADb
  simp only[UD,cy,PA hi,AAM hi,ABS,O9 hi J,hp,gL _ hst n hn,dL a hl i hi a[i] n hn,hr];rw[show decide ((i:Int)<(a.length:Int))=true by simpa using hi];generalize a[i]=x;generalize ((a.take i).all λy => !(y.2.1==x.2.1))=b5;generalize Qo (·.1) a i x=b4;cases P7 x.1 1 999<;>cases P7 x.2.1 0 99<;>cases Ql x.2.2<;>cases b4<;>cases b5<;>rfl) (by simp[UD]) n ADW
 unfold Q0 Pw;rw[show((0:Nat):Int)=0 from rfl]at this;rw[this];rw[show decide ((a.length:Int)<=12)=decide (a.length<=12) by rw[AB0];simp;omega];grind
def S0(l:OF)(k:Int):Int:=match l.find? λx=>x.1==k with
 |some x=>x.2.1
 |none=>0
theorem fV{l:OF}(h:Ql l=true):∀(i j:Nat)(hj:j<l.length)(hij:i<j),(l[i]'(by omega)).1<l[j].1:=by
 unfold Ql at h;simp only[AAN,AAZ,AAb]at h
 have step:∀j (hj:j+1<l.length),(l[j]'(by omega)).1<l[j+1].1:=by intro j hj;have:=h.1 (j+1) hj;simp only[WH,AAM hj,AAN,Qo,AAM (show j<l.length by omega)]at this;have:=this.2;simpa using this
 grind
theorem cR{l:OF}(h:Ql l=true)(k:Int):0<=S0 l k/\S0 l k<=1000:=by
 unfold S0;cases hf:l.find? λx=>x.1==k with
 |none=>simp
 |some x=>
  have hm:=ABo hf;obtain⟨i,hi,rfl⟩:=AB4 hm;unfold Ql at h;simp only[AAN,AAZ,AAb]at h;have:=h.1 i hi;simp only[WH,AAM hi,AAN,P7,AAh]at this;grind
theorem qo{l:OF}(h:Ql l=true)(hj:j<l.length){k:Int}(hk:l[j].1=k):S0 l k=l[j].2.1:=by
 unfold S0;cases hf:l.find? λx=>x.1==k with
 |none=>
  grind
 |some x=>
  obtain⟨i,hi,rfl⟩:=AB4 (ABo hf);have hki:l[i].1=k:=by have:=ACQ hf;simpa using this
  rcases ABe i j with q|q|q
  ·have:=fV h i j hj q;omega
  ·subst q;rfl
  ·have:=fV h j i hi q;omega
theorem oJ{l:OF}{k:Int}(h:∀x∈l,x.1≠k):S0 l k=0:=by unfold S0;grind
def Sf(a:Is)(k:Int):Int:=bif Pw a then(a.map λp=>S0 p.2.2 k).foldl (· + ·) 0 else 0
theorem jE{a:Is}(h:Pw a=true):a.length<=12/\∀i (hi:i<a.length),Ql a[i].2.2=true:=by unfold Pw at h;simp only[AAN,AAZ,AAb,AAh]at h;refine⟨h.1,λi hi=>?_⟩;have:=h.2 i hi;simp only[cy,AAM hi,AAN]at this;grind
theorem dY(p:PK)(hl:p.2.2.length<=1048576)(k:Int)(n:Nat)(hn:PO<=n):∃s,Rj n p.1 p.2.1 p.2.2 k=some s/\s.2.1=S0 p.2.2 k:=by
 have hc:=Ph (σ:=Unit) (QN p.2.2 k) (λi _=>((i:Int),(0:Int),(0:Int),(0:Int))) p.2.2 (λl _=>match l.find? (λx=>x.1==k)with|some x=>.inr x|none=>.inl ((p.2.2.length:Int),0,0,0)) (λ_ _=>True)
  (λs hs=>by simp[QN])
  (λi x l s h1 h2 h3 h4 h5=>by
   have hx:p.2.2[i]=x:=by rw[AAM h1]at h2;exact Option.some.inj h2
   cases hq:(x.1==k)with
   |true=>right;simp[QN,h1,PA h1,hx,hq]
   |false=>left;exact⟨(),by simp[QN,h1,PA h1,hx,hq,O9 h1 J],trivial,by simp[hq]⟩)
  n ADW () trivial
 unfold Rj;rw[show((0:Nat):Int)=0 from rfl]at hc;rw[hc];unfold S0;cases p.2.2.find? λx=>x.1==k with
 |none=>exact⟨(k,0,0),rfl,rfl⟩
 |some x=>grind
theorem gW(a:Is)(hs:Pf a)(k:Int)(n:Nat)(hn:PO<=n):Ye n a k=some (Sf a k):=by
 have hl:a.length<=1048576:=hs.1;have hst:=QM a hs n hn;unfold Ye Sf;cases hk:Pw a with
 |false=>
  obtain⟨m,rfl⟩:∃m,n=m+1:=⟨n-1,ADW⟩
  have:Sd (m+1) a k ((0:Int),(0:Int))=some (.inr (0,0)):=by unfold Sd;rw[hst,hk];grind
  rw[Pr this m];rfl
 |true=>
  obtain⟨h12,hp⟩:=jE hk
  have hc:=Ph (σ:=Int) (Sd n a k) (λi s=>(s,(i:Int))) a (λl s=>((l.map λp=>S0 p.2.2 k).foldl (· + ·) s,(a.length:Int))) (λi s=>0<=s/\s<=1000*(i:Int)/\i<=12)
   (λs hs=>by simp[Sd])
   (λi x l s h1 h2 h3 h4 h5=>by
    left;have hx:a[i]=x:=by rw[AAM h1]at h2;exact Option.some.inj h2
    have hlen:x.2.2.length<=1048576:=by rw[<-hx];exact hs.2 _ (ABU h1)
    obtain⟨q,e,he⟩:=dY x hlen k n hn;have hb:=cR (hx▸hp i h1) k;refine⟨s+S0 x.2.2 k,?_,J,rfl⟩;unfold Sd;rw[hst,hk,show decide ((i:Int)<(a.length:Int))=true by simpa using h1];simp only[ABT,ABS,PA h1,hx,e,he,O9 h1 J];rw[PJ J J])
   n ADW 0 ⟨J,J,J⟩
  grind
theorem dO(p:PK)(hl:p.2.2.length<=1048576)(hs:Ql p.2.2=true)(k:Int)(n:Nat)(hn:PO<=n):
  ∃(j:Nat) (b:Bool),QF n p.1 p.2.1 p.2.2 k=some ((j:Int),b)/\(b=true->∃h:j<p.2.2.length,S0 p.2.2 k=p.2.2[j].2.1)/\(b=false->S0 p.2.2 k=0):=by
 obtain⟨j,h1,h2,h3,h4⟩:=aZ (QE p.2.2 k) p.2.2.length (λi=>decide ((p.2.2.getD i (0,0,0)).1<k)) (λi hi=>by
  simp only[QE,PA hi,ABS,O9 hi J];grind) (by simp[QE]) n ADW
 have hlow:∀i (hi:i<p.2.2.length),i<j->p.2.2[i].1<k:=by intro i hi hij;have:=h3 i hij;simpa[hi]using this
 unfold QF;rw[h2];by_cases hj:j<p.2.2.length
 ·have yx:=h4 hj;have yx:k<=p.2.2[j].1:=by simpa[hj]using yx
  refine⟨j,p.2.2[j].1==k,?_,λhb=>⟨hj,qo hs hj No⟩,λhb=>oJ λx hx=>?_⟩
  ·simp[hj,PA hj]
  ·obtain⟨i,hi,rfl⟩:=AB4 hx;have yF:p.2.2[j].1≠k:=ADz
   rcases ABe i j with q|q|q
   ·grind
   ·grind
   ·have:=fV hs j i hi q;omega
 ·refine⟨j,false,?_,λhb=>(by cases hb),λ_=>oJ λx hx=>?_⟩
  ·grind
  ·obtain⟨i,hi,rfl⟩:=AB4 hx;grind
theorem gE(a:Is)(hs:Pf a)(k:Int)(n:Nat)(hn:PO<=n):aK n a k=some (Sf a k):=by
 have hl:a.length<=1048576:=hs.1;unfold aK Sf;rw[QK a hs n hn];cases hk:Pw a with
 |false=>rfl
 |true=>
  obtain⟨h12,hp⟩:=jE hk
  have hc:=Ph (σ:=Int) (Vq n a k) (λi s=>(s,(i:Int))) a (λl s=>((l.map λp=>S0 p.2.2 k).foldl (· + ·) s,(a.length:Int))) (λi s=>0<=s/\s<=1000*(i:Int)/\i<=12)
   (λs hs=>by simp[Vq])
   (λi x l s h1 h2 h3 h4 h5=>by
    left;have hx:a[i]=x:=by rw[AAM h1]at h2;exact Option.some.inj h2
    have hlen:x.2.2.length<=1048576:=by rw[<-hx];exact hs.2 _ (ABU h1)
    obtain⟨j,b,e,zg,hb2⟩:=dO x hlen (hx▸hp i h1) k n hn;have hb:=cR (hx▸hp i h1) k;refine⟨s+S0 x.2.2 k,?_,J,rfl⟩;unfold Vq;rw[show decide ((i:Int)<(a.length:Int))=true by simpa using h1];simp only[ABT,ABS,PA h1,hx,e,O9 h1 J];cases b with
    |false=>simp[hb2 rfl]
    |true=>
     obtain⟨hj,hc⟩:=zg rfl;simp only[ABT,PA hj,ABS,<-hc];rw[PJ J J])
   n ADW 0 ⟨J,J,J⟩
  grind
theorem gb{γ:Type}(f:α->Option (α⊕(α⊕γ)))(st:Nat->α)(m:Nat)(P:Nat->Bool)(r:γ)(hs:∀i,i<m->f (st i)=some (bif P i then .inl (st (i+1))else .inr (.inr r)))(he:f (st m)=some (.inr (.inl (st m)))):
  ∀n,m<n->iter n f (st 0)=some (bif(List.range m).all P then .inl (st m)else .inr r):=by
 have key:∀d i n,i+d=m->d<n->iter n f (st i)=some (bif(List.range' i d).all P then .inl (st m)else .inr r):=by
  intro d
  induction d with
  |zero=>
   intro i n hi hn;obtain⟨n,rfl⟩:∃k,n=k+1:=⟨n-1,J⟩;have:i=m:=J
   subst this;rw[Pr he n];rfl
  |succ d ih=>
   intro i n hi hn;obtain⟨n,rfl⟩:∃k,n=k+1:=⟨n-1,J⟩;have hf:=hs i J;rw[List.range'_succ,List.all_cons];cases hp:P i with
   |true=>rw[hp,ABT]at hf;rw[Ru hf n,ih (i+1) n J J];rfl
   |false=>rw[hp,ABV]at hf;rw[Pr hf n];rfl
 grind
theorem ZU(w h:Int)(c:By)(hl:c.length<=1048576):WN w h c=some (w,h,c):=by unfold WN;simp[VD hl]
theorem al(w h:Int)(c:By)(hl:c.length<=1048576):U1 w h c=some (w,h,c):=by unfold U1 Sa;simp[VD hl]
theorem P2(a:Is)(hs:Pf a)(n:Nat)(hn:PO<=n):Py n a=some a:=by
 have hl:a.length<=1048576:=hs.1
 have hc:=Ph (σ:=Is) (VS a) (λi s=>((i:Int),s)) a (λl s=>((a.length:Int),s++l)) (λi s=>s.length=i)
  (λs hs=>by simp[VS])
  (λi x l s h1 h2 h3 h4 h5=>by
   left;have hx:a[i]=x:=by rw[AAM h1]at h2;exact Option.some.inj h2
   have hst:x.2.2.length<=1048576:=by rw[<-hx];exact hs.2 _ (ABU h1)
   have hr:decide (s.length+1<=E8)=true:=SV J;exact⟨s++[x],by simp[VS,h1,PA h1,hx,VD hst,hr,O9 h1 J],by simp[h5],so⟩)
  n ADW [] rfl
 unfold Py;grind
theorem Pa(a:Is)(hs:Pf a)(n:Nat)(hn:PO<=n):Pg n a=some a:=by
 have hl:a.length<=1048576:=hs.1
 have hc:=Ph (σ:=Is) (Sj a) (λi s=>((i:Int),s)) a (λl s=>((a.length:Int),s++l)) (λi s=>s.length=i)
  (λs hs=>by simp[Sj])
  (λi x l s h1 h2 h3 h4 h5=>by
   left;have hx:a[i]=x:=by rw[AAM h1]at h2;exact Option.some.inj h2
   have hst:x.2.2.length<=1048576:=by rw[<-hx];exact hs.2 _ (ABU h1)
   have hr:decide (s.length+1<=E8)=true:=SV J;exact⟨s++[x],by simp[Sj,h1,PA h1,hx,VD hst,hr,O9 h1 J],by simp[h5],so⟩)
  n ADW [] rfl
 unfold Pg;grind
abbrev Dn:=Int×Int×By×(List (Int×Int×OF))×Int×ADa×(List (Int×Int×Int×Bool×Int))×(List (Int×Int×Int×Int))×By×By×Int
def bT:Dn:=(0,0,[],[],0,[],[],[],[],[],0)
def mb(x:Dn×Bool):Int×Int×By×(List (Int×Int×OF))×Int×ADa×(List (Int×Int×Int×Bool×Int))×(List (Int×Int×Int×Int))×By×By×Int×Bool:=
 (x.1.1,x.1.2.1,x.1.2.2.1,x.1.2.2.2.1,x.1.2.2.2.2.1,x.1.2.2.2.2.2.1,x.1.2.2.2.2.2.2.1,x.1.2.2.2.2.2.2.2.1,x.1.2.2.2.2.2.2.2.2.1,x.1.2.2.2.2.2.2.2.2.2.1,x.1.2.2.2.2.2.2.2.2.2.2,x.2)
def aH(c:By)(a:Is)(i:Nat):Bool:=match a[i]? with
 |some p=>P7 p.2.1 0 ((c.length:Int)-1)&&(c.getD p.2.1.toNat 0==2)
 |none=>false
def YR(a:Is)(i:Nat):Bool:=match a[i]? with
 |some p=>(List.range p.2.2.length).all λk => !decide ((p.2.2.getD k (0,0,0)).2.2>0)
 |none=>false
def Rw(P3:By):Nat->List (Int×Int×Int×Bool×Int)
 |0=>[]
 |i+1=>Rw P3 i++[(((i+1:Nat):Int),P3.getD i 0, -1,false,0)]
theorem UR(P3:By):∀i,(Rw P3 i).length=i
 |0=>rfl
 |i+1=>by simp[Rw,UR P3 i]
def Rv(a:Is):Nat->By
 |0=>List.replicate 51 0
 |i+1=>(Rv a i).set (i+1) (Sf a ((i+1:Nat):Int))
theorem Xv(a:Is):∀i,(Rv a i).length=51
 |0=>rfl
 |i+1=>by simp[Rv,Xv a i]
theorem cK(a:Is)(i:Nat)(hi:i<a.length)(hst:a[i].2.2.length<=1048576)(y:Int×Dn)(hy:y.1=(i:Int))(z:Dn)(n:Nat)(hn:PO<=n):
  iter n (R7 a y) (0,z)=some (bif YR a i then .inl ((a[i].2.2.length:Int),z)else .inr (mb (bT,false))):=by
 have:=gb (R7 a y) (λk=>((k:Int),z)) a[i].2.2.length (λk => !decide ((a[i].2.2.getD k (0,0,0)).2.2>0)) (mb (bT,false)) (λk hk=>by
  unfold R7;rw[hy];simp only[PA hi,ABS,PA hk,O9 hk J];rw[show decide ((k:Int)<(a[i].2.2.length:Int))=true by simpa using hk];rw[show a[i].2.2.getD k (0,0,0)=a[i].2.2[k] by simp[hk]];cases decide (a[i].2.2[k].2.2>0)<;>rfl) (by
  unfold R7;rw[hy];simp[PA hi]) n ADW
 rw[show((0:Nat):Int)=0 from rfl]at this;rw[this];simp only[YR,AAM hi]
theorem bE(c:By)(hc:c.length<=1048576)(a:Is)(hs:Pf a)(z:Dn)(n:Nat)(hn:PO<=n):
  iter n (R6 n c a) (0,z)=some (bif(List.range a.length).all (λi=>aH c a i&&YR a i)then .inl ((a.length:Int),z)else .inr (mb (bT,false))):=by
 have hl:a.length<=1048576:=hs.1
 have:=gb (R6 n c a) (λk=>((k:Int),z)) a.length (λi=>aH c a i&&YR a i) (mb (bT,false)) (λi hi=>by
  have hst:a[i].2.2.length<=1048576:=hs.2 _ (ABU hi);have xv:=cK a i hi hst ((i:Int),z) rfl z n hn;unfold R6;dsimp only;rw[show decide ((i:Int)<(a.length:Int))=true by simpa using hi];simp only[ABT,PA hi,ABS,QR,O9 hi J];rw[show PB ((c.length:Int)-1)=(c.length:Int)-1 from PJ J J];rw[show((0:Int),z.1,z.2.1,z.2.2.1,z.2.2.2.1,z.2.2.2.2.1,z.2.2.2.2.2.1,z.2.2.2.2.2.2.1,z.2.2.2.2.2.2.2.1,z.2.2.2.2.2.2.2.2.1,z.2.2.2.2.2.2.2.2.2.1,z.2.2.2.2.2.2.2.2.2.2)=((0:Int),z)from rfl,xv];simp only[aH,AAM hi];cases hb:P7 a[i].2.1 0 ((c.length:Int)-1)with
  |false=>rfl
  |true=>
   obtain⟨m,hm,hmlt⟩:=ZB hb;rw[hm];simp only[PA hmlt,ABS,ABa,ABV];rw[show c.getD (m:Int).toNat 0=c[m] by simp[hmlt]];cases hq:(c[m]==2)with
   |false=>simp only[bne,hq,ABn,ABT];rfl
   |true=>
    simp only[bne,hq,ABa,ABV];cases YR a i<;>rfl) (by
  unfold R6;simp) n ADW
 omega
theorem dK(w h:Int)(c:By)(hl:c.length<=1048576)(hf:PY w h c=true)(i:Int)(n:Nat)(hn:PO<=n):Q5 n w h c i=some (bif P7 i 0 ((c.length:Int)-1)then c.getD i.toNat 0 else 0):=by
 unfold Q5 TB;rw[X9,Ps w h c hl n hn,hf,show PB ((c.length:Int)-1)=(c.length:Int)-1 from PJ J J];simp only[Tu,QR,ABS];cases hb:P7 i 0 ((c.length:Int)-1)with
 |false=>rfl
 |true=>
  obtain⟨m,rfl,hm⟩:=ZB hb;simp[PA hm,hm]
theorem Zu(a:Is)(hs:Pf a)(f0 f1:Int)(c:By)(p:Is)(bn:Int)(os:ADa)(cr:List (Int×Int×Int×Bool×Int))(ts:List (Int×Int×Int×Int))(ou:By)(tk:Int)(n:Nat)(hn:PO<=n):
  iter n (R8 n a) (1,f0,f1,c,p,bn,os,cr,ts,List.replicate 51 0,ou,tk)=some (51,f0,f1,c,p,bn,os,cr,ts,Rv a 50,ou,tk):=by
 have:=Pc (γ:=Int×Dn) (R8 n a) (λi=>(((i+1:Nat):Int),f0,f1,c,p,bn,os,cr,ts,Rv a i,ou,tk)) 50 (51,f0,f1,c,p,bn,os,cr,ts,Rv a 50,ou,tk) (λi hi=>by
  unfold R8;dsimp only;have xv:OU (Rv a i) (((i+1:Nat):Int))=true:=PE (by rw[Xv];omega);rw[show decide (((i+1:Nat):Int)<=50)=true by grind,ABT,gW a hs _ n hn,ABS,xv,ABT,show PB (((i+1:Nat):Int)+1)=((i+1+1:Nat):Int) by rw[PJ J J];omega];rw[show Int.toNat ((i+1:Nat):Int)=i+1 by omega,P5];rfl) (by unfold R8;simp) n ADW
 exact this
theorem aR(P3:By)(hd:P3.length<=1048576)(f0 f1:Int)(c:By)(p:Is)(bn:Int)(os:ADa)(ts:List (Int×Int×Int×Int))(sr ou:By)(tk:Int)(n:Nat)(hn:PO<=n):
  iter n (R9 P3) (0,f0,f1,c,p,bn,os,[],ts,sr,ou,tk)=some (((min P3.length 20:Nat):Int),f0,f1,c,p,bn,os,Rw P3 (min P3.length 20),ts,sr,ou,tk):=by
 have:=Pc (γ:=Int×Dn) (R9 P3) (λi=>((i:Int),f0,f1,c,p,bn,os,Rw P3 i,ts,sr,ou,tk)) (min P3.length 20) (((min P3.length 20:Nat):Int),f0,f1,c,p,bn,os,Rw P3 (min P3.length 20),ts,sr,ou,tk) (λi hi=>by
  unfold R9;dsimp only;have xz:i<P3.length:=J
  have hr:decide ((Rw P3 i).length+1<=E8)=true:=SV (by rw[UR];omega);have hgo:P3[Int.toNat (i:Int)]?=some P3[i]:=by simp[xz]
  rw[show decide ((i:Int)<(P3.length:Int))=true by rw[AAh];omega,show decide ((i:Int)<20)=true by rw[AAh];omega];simp only[ABT,ABS,PE xz,hgo,ABb,hr,O9 xz J];simp only[Rw];grind) (by
  unfold R9;grind) n ADW
 exact this
def Tl(l:OF):Prop:=l.Pairwise (λa b=>a.1<b.1)/\(∀x∈l,1<=x.1/\x.1<=50/\1<=x.2.1/\x.2.1<=1000/\0<=x.2.2/\x.2.2<=x.2.1)/\l.length<=8
def PQ(a:Is):Prop:=a.length<=12/\a.Pairwise (λx y=>x.1<y.1/\x.2.1≠y.2.1)/\∀p∈a,(1<=p.1/\p.1<=999)/\(0<=p.2.1/\p.2.1<=99)/\Tl p.2.2
theorem ZI{β:Type}{key:β->Int}{a:List β}{R:β->β->Prop}(h:a.Pairwise R)(hR:∀x y,R x y->key x<key y)(i:Nat)(hi:i<a.length):Qo key a i a[i]=true:=by
 cases i with
 |zero=>rfl
 |succ j=>
  have:=hR _ _ (ABP.1 h j (j+1) J hi J);simp only[Qo,AAM (show j<a.length by omega)];grind
theorem Tl.ok{l:OF}(h:Tl l):Ql l=true:=by obtain⟨h1,h2,h3⟩:=h;unfold Ql;simp only[AAN,AAZ,AAb,AAh];refine⟨λi hi=>?_,h3⟩;obtain⟨a1,a2,a3,a4,a5,a6⟩:=h2 _ (ABU hi);simp only[WH,AAM hi,ZI h1 (λx y h=>h) i hi,P7,AAN,AAh];grind
theorem PQ.ok{a:Is}(h:PQ a):Pw a=true:=by
 obtain⟨h1,h2,h3⟩:=h;unfold Pw;simp only[AAN,AAZ,AAb,AAh];refine⟨h1,λi hi=>?_⟩;obtain⟨⟨a1,a2⟩,⟨a3,a4⟩,a5⟩:=h3 _ (ABU hi);have hp:=ZI (key:=(·.1)) h2 (λx y h=>h.1) i hi
 have hh:((a.take i).all λy => !(y.2.1==a[i].2.1))=true:=AAZ.2 λy hy=>by
  obtain⟨j,hj,rfl⟩:=AB4 hy;have hj':j<i:=by rw[ACH]at hj;omega
  have:=(ABP.1 h2 j i J hi hj').2;rw[List.getElem_take];simpa using this
 simp only[cy,AAM hi,hp,hh,a5.ok,P7,AAN,AAh];grind
theorem PQ.sm{a:Is}(h:PQ a):Pf a:=⟨by have:=h.1;omega,λy hy=>by show y.2.2.length<=_;have:=(h.2.2 y hy).2.2.2.2;omega⟩
def PL(l:OF)(k:Int):O8:=match l.find? (λx=>x.1==k)with
 |some x=>x
 |none=>(k,0,0)
theorem ct(p:PK)(hl:p.2.2.length<=1048576)(k:Int)(n:Nat)(hn:PO<=n):Rj n p.1 p.2.1 p.2.2 k=some (PL p.2.2 k):=by
 unfold PL
 have hc:=Ph (σ:=Unit) (QN p.2.2 k) (λi _=>((i:Int),(0:Int),(0:Int),(0:Int))) p.2.2 (λl _=>match l.find? (λx=>x.1==k)with|some x=>.inr x|none=>.inl ((p.2.2.length:Int),0,0,0)) (λ_ _=>True)
  (λs hs=>by simp[QN])
  (λi x l s h1 h2 h3 h4 h5=>by
   have hx:p.2.2[i]=x:=by rw[AAM h1]at h2;exact Option.some.inj h2
   cases hq:(x.1==k)with
   |true=>right;simp[QN,h1,PA h1,hx,hq]
   |false=>left;exact⟨(),by simp[QN,h1,PA h1,hx,hq,O9 h1 J],trivial,by simp[hq]⟩)
  n ADW () trivial
 unfold Rj;grind
def gR(x:O8)(l:OF):OF:=l.map λy=>bif y.1==x.1 then x else y
theorem nE(l:OF)(h:Tl l)(x:O8)(hx:∃z∈l,z.1=x.1)(h0:(x.2.1==0)=false)(n:Nat)(hn:PO<=n):WO n l x.1 x.2.1 x.2.2=some (gR x l):=by
 obtain⟨x0,x1,x2⟩:=x;dsimp only at h0 hx ⊢;have h8:=h.2.2
 have hc:=Ph (σ:=OF×Bool) (RF l x0 x1 x2) (λi s=>(s.1,s.2,(i:Int))) l (λr s=>(s.1++gR (x0,x1,x2) r,s.2||r.any (λz=>z.1==x0),(l.length:Int)))
  (λi s=>s.1.length<=i/\((s.2=false/\∃z∈l.drop i,z.1=x0)\/(s.2=true/\∀z∈l.drop i,z.1≠x0)))
  (λs hs=>by simp[RF,gR])
  (λi y r s h1 h2 h3 h4 h5=>by
   left;have hy:l[i]=y:=by rw[AAM h1]at h2;exact Option.some.inj h2
   obtain⟨hlen,hs⟩:=h5;obtain⟨out,put⟩:=s;dsimp only at hlen hs ⊢;rw[h3]at hs;have hpw:(y::r).Pairwise (λa b=>a.1<b.1):=h3▸h.1.drop;have hyr:=(ABq.1 hpw).1;unfold RF;dsimp only;rw[show decide ((i:Int)<(l.length:Int))=true by simpa using h1,ABT,PA h1,hy,O9 h1 J];simp only[ABS];have r1:∀(o:OF)(w:O8),o.length<=i+1->decide (o.length+[w].length<=E8)=true:=λo w ho=>SV J;rcases hs with⟨rfl,z,hz,hzx⟩|⟨rfl,hs⟩
   ·simp only[ABn,ABT,ABS];by_cases he:y.1=x0
    ·rw[show decide (y.1>=x0)=true by simp;omega,ABT,r1 out _ J,ABT,ABS];rw[show(y.1 != x0)=false by simp[he],ABV,ABS];refine⟨(out++[(x0,x1,x2)],true),rfl,⟨by show(out++[_]).length<=i+1;rw[ABE,ABb];omega,.inr ⟨rfl,λw hw=>?_⟩⟩,?_⟩
     ·have:=hyr w (by rwa[h4]at hw);omega
     ·have:∀w∈r,(w.1==x0)=false:=λw hw=>by have:=hyr w hw;rw[<-ABt];simp;omega
      have e1:gR (x0,x1,x2) r=r:=by unfold gR;rw[ABh (g:=id) λw hw=>by dsimp only;rw[this w hw];rfl];simp
      simp only[gR,ABI,he,ABl,ABT,List.any_cons,Bool.true_or,Bool.or_true,ABk,ACA]
    ·have hzr:z∈r:=by
      rcases AAj.1 hz with e|e
      ·subst e;exact absurd hzx he
      ·exact e
     have xz:=hyr z hzr;rw[show decide (y.1>=x0)=false by simp;omega,ABV,ABS];rw[show(y.1 != x0)=true by simpa using he,ABT,r1 out _ J,ABT,ABS];refine⟨(out++[y],false),rfl,⟨by show(out++[_]).length<=i+1;rw[ABE,ABb];omega,.inl ⟨rfl,z,by rw[h4];exact hzr,hzx⟩⟩,?_⟩;have hb:(y.1==x0)=false:=ADv
     simp only[gR,ABI,hb,ABV,List.any_cons,Bool.false_or,ABk,ACA]
   ·simp only[ABa,ABV,ABS];have he:y.1≠x0:=hs y AAo;rw[show(y.1 != x0)=true by simpa using he,ABT,r1 out _ J,ABT,ABS];refine⟨(out++[y],true),rfl,⟨by show(out++[_]).length<=i+1;rw[ABE,ABb];omega,.inr ⟨rfl,λw hw=>hs w (AAQ _ (by rwa[h4]at hw))⟩⟩,?_⟩;have hb:(y.1==x0)=false:=ADv
    simp only[gR,ABI,hb,ABV,Bool.true_or,ABk,ACA])
  n ADW (([]:OF),false) ⟨so,.inl ⟨rfl,by simpa using hx⟩⟩
 unfold WO;grind
section
variable {α β γ δ:Type}
theorem ZC{f:α->Option (α⊕γ)}{g:β->Option (β⊕δ)}(R:α->β->Prop)(S:γ->δ->Prop)(μ:α->Nat)
  (h:∀x y,R x y->(∃z w,f x=some (.inr z)/\g y=some (.inr w)/\S z w)\/(∃x' y',f x=some (.inl x')/\g y=some (.inl y')/\R x' y'/\μ x'<μ x)):
  ∀n x y,R x y->μ x<n->∃z w,S z w/\iter n f x=some z/\iter n g y=some w:=by
 intro n
 induction n with
 |zero=>omega
 |succ n ih=>
  intro x y hR hn;rcases h x y hR with⟨z,w,h1,h2,h3⟩|⟨x',y',h1,h2,h3,h4⟩
  ·exact⟨z,w,h3,Pr h1 n,Pr h2 n⟩
  ·obtain⟨z,w,h5,h6,h7⟩:=ih x' y' h3 J;exact⟨z,w,h5,(Ru h1 n).trans h6,(Ru h2 n).trans h7⟩
theorem gx{f:α->Option (α⊕γ)}{g:β->Option (β⊕δ)}(R:α->β->Prop)(S:γ->δ->Prop)(μ:α->Nat)
  (h:∀x y,R x y->(∃z w,f x=some (.inr z)/\g y=some (.inr w)/\S z w)\/(∃x' y',f x=some (.inl x')/\g y=some (.inl y')/\R x' y'/\μ x'<μ x)):
  ∀n n' x y,R x y->μ x<n->μ x<n'->∃z w,S z w/\iter n f x=some z/\iter n' g y=some w:=by
 intro n
 induction n with
 |zero=>omega
 |succ n ih=>
  intro n' x y hR hn hn';obtain⟨n',rfl⟩:∃k,n'=k+1:=⟨n'-1,J⟩;rcases h x y hR with⟨z,w,h1,h2,h3⟩|⟨x',y',h1,h2,h3,h4⟩
  ·exact⟨z,w,h3,Pr h1 n,Pr h2 n'⟩
  ·obtain⟨z,w,h5,h6,h7⟩:=ih n' x' y' h3 J J;exact⟨z,w,h5,(Ru h1 n).trans h6,(Ru h2 n').trans h7⟩
theorem YF{f:α->Option (α⊕γ)}(R:α->Prop)(S:γ->Prop)(μ:α->Nat)
  (h:∀x,R x->(∃z,f x=some (.inr z)/\S z)\/(∃x',f x=some (.inl x')/\R x'/\μ x'<μ x)):
  ∀n x,R x->μ x<n->∃z,S z/\iter n f x=some z:=by
 intro n
 induction n with
 |zero=>omega
 |succ n ih=>
  intro x hR hn;rcases h x hR with⟨z,h1,h3⟩|⟨x',h1,h3,h4⟩
  ·exact⟨z,h3,Pr h1 n⟩
  ·obtain⟨z,h5,h6⟩:=ih x' h3 J;exact⟨z,h5,(Ru h1 n).trans h6⟩
end
section
variable {α:Type}{l:List α}{k:Nat}{y z:α}
def hole(l:List α)(k:Nat)(z:α):List α:=l.take k++z::l.drop k
theorem SO(h:k<=l.length):(hole l k z).length=l.length+1:=by simp[hole];omega
theorem dp(h:l[k]?=some y):(hole l (k+1) z)[k]?=some y:=by obtain⟨hk,e⟩:=AAO.1 h;unfold hole;grind
theorem eK(h:l[k]?=some y):(hole l (k+1) z).set (k+1) y=hole l k y:=by obtain⟨hk,e⟩:=AAO.1 h;unfold hole;rw[ACK _ _ ADb];rw[show k+1-(l.take (k+1)).length=0 by simp;omega,ACc,ABg hk,e,ABk,ABj hk,e];rfl
theorem bY(h:k<=l.length)(x:α):(hole l k z).set k x=hole l k x:=by
 unfold hole;rw[ACK _ _ ADb,show k-(l.take k).length=0 by simp;omega,ACc]
theorem gu(x:α):(hole l k x).Perm (x::l):=by unfold hole;have:=List.perm_middle (a:=x) (l₁:=l.take k) (l₂:=l.drop k);rwa[ABu]at this
theorem cq{R:α->α->Prop}(htr:∀a b c,R a b->R b c->R a c)(hl:l.Pairwise R)(hk:k<=l.length){x:α}(h1:∀y∈l.drop k,R x y)(h2:∀y,l[k-1]?=some y->0<k->R y x):(hole l k x).Pairwise R:=by
 have hl2:=hl;rw[<-ABu k l,ABr]at hl2;obtain⟨p1,p2,p3⟩:=hl2;unfold hole;rw[ABr]
 have hx:∀a∈l.take k,R a x:=by
  intro a ha;obtain⟨j,hj,e⟩:=ABX.1 ha;have hj2:j<k/\j<l.length:=by simp at hj;omega
  have e2:l[j]=a:=by rw[<-e];simp
  have hk1:k-1<l.length:=J
  have hlast:=h2 l[k-1] (AAM hk1) J;by_cases hjk:j=k-1
  ·subst hjk;rw[<-e2];exact hlast
  ·have:=ABP.1 hl j (k-1) hj2.2 hk1 J;rw[<-e2];exact htr _ _ _ this hlast
 refine⟨p1,ABq.2 ⟨h1,p2⟩,λa ha b hb=>?_⟩;grind
end
theorem jm(L:Int×By->Option ((Int×By)⊕(Int×By)))(lt:Int->Bool)(l:By)
  (hgo:∀k y z,l[k]?=some y->lt y=true->L (((k+1:Nat):Int),hole l (k+1) z)=some (.inl ((k:Int),hole l k y)))
  (hstop:∀k y z,l[k]?=some y->lt y=false->L (((k+1:Nat):Int),hole l (k+1) z)=some (.inr (((k+1:Nat):Int),hole l (k+1) z)))
  (hend:∀z,L (0,hole l 0 z)=some (.inr (0,hole l 0 z))) (n:Nat) (hn:l.length<n) (x:Int):
  ∃(k:Nat) (z:Int),iter n L ((l.length:Int),l++[x])=some ((k:Int),hole l k z)/\k<=l.length/\(∀y∈l.drop k,lt y=true)/\(∀y,l[k-1]?=some y->0<k->lt y=false):=by
 have:=YF (f:=L) (λs=>∃(k:Nat) (z:Int),s=((k:Int),hole l k z)/\k<=l.length/\∀y∈l.drop k,lt y=true)
  (λs=>∃(k:Nat) (z:Int),s=((k:Int),hole l k z)/\k<=l.length/\(∀y∈l.drop k,lt y=true)/\(∀y,l[k-1]?=some y->0<k->lt y=false)) (λs=>s.1.toNat) (λs hs=>by
   obtain⟨k,z,rfl,hk,hd⟩:=hs;cases k with
   |zero=>exact .inl ⟨_,hend z,0,z,rfl,hk,hd,λ_ _ h=>absurd h so⟩
   |succ k=>
    have zJ:k<l.length:=J
    have hg:l[k]?=some l[k]:=AAM zJ;cases xz:lt l[k]with
    |true=>
     refine .inr ⟨_,hgo k l[k] z hg xz,⟨k,l[k],rfl,J,λy hy=>?_⟩,so⟩;rw[ABj zJ]at hy;rcases AAj.1 hy with rfl|hy
     ·exact xz
     ·exact hd y hy
    |false=>
     refine .inl ⟨_,hstop k l[k] z hg xz,k+1,z,rfl,hk,hd,λy hy _=>?_⟩;rw[Nat.add_sub_cancel,hg]at hy;injection hy with hy
     subst hy;exact xz) n ((l.length:Int),l++[x]) ⟨l.length,x,by simp[hole],AAi _,so⟩ (by simpa using hn)
 grind
structure Ord(lt:Int->Int->Bool)(xs:By):Prop where
 wB:∀x,lt x x=false
 tr:∀x y z,lt x y=true->lt y z=true->lt x z=true
 Q4:∀x∈xs,∀y∈xs,x≠y->lt x y=true\/lt y x=true
theorem aQ{lt:Int->Int->Bool}{xs a b:By}(ho:Ord lt xs)(ha:a.Pairwise λx y=>lt x y=true)(hb:b.Pairwise λx y=>lt x y=true)(pa:a.Perm xs)(pb:b.Perm xs):a=b:=
 List.Perm.eq_of_pairwise (le:=λx y=>lt x y=true) (λx y _ _ h1 h2=>by
  have:=ho.tr x y x h1 h2;rw[ho.wB]at this;cases this) ha hb (pa.trans pb.symm)
theorem eZ(L:By×Int->Option ((By×Int)⊕(By×Int)))(lt:Int->Int->Bool)(xs:By)(zG:xs.Nodup)(ho:Ord lt xs)
  (hstep:∀(i:Nat)(x:Int)(l:By),xs[i]?=some x->l.length=i->l.length<xs.length->(∀y∈l,y∈xs)->∃k≤l.length,L (l,(i:Int))=some (.inl (hole l k x,((i+1:Nat):Int)))/\(∀y∈l.drop k,lt x y=true)/\(∀y,l[k-1]?=some y->0<k->lt x y=false))
  (hend:∀l,L (l,(xs.length:Int))=some (.inr (l,(xs.length:Int)))) (n:Nat) (hn:xs.length<n):
  ∃l,iter n L ([],0)=some (l,(xs.length:Int))/\l.Perm xs/\l.Pairwise λx y=>lt x y=true:=by
 have:=YF (f:=L) (λs=>∃(i:Nat),s.2=(i:Int)/\i<=xs.length/\s.1.Perm (xs.take i)/\s.1.Pairwise λx y=>lt x y=true)
  (λs=>s.2=(xs.length:Int)/\s.1.Perm xs/\s.1.Pairwise λx y=>lt x y=true) (λs=>xs.length-s.2.toNat) (λs hs=>by
   obtain⟨i,h1,h2,h3,h4⟩:=hs;obtain⟨l,j⟩:=s;dsimp only at h1 h3 h4;subst h1;by_cases hi:i=xs.length
   ·subst hi;rw[ACV]at h3;exact .inl ⟨_,hend l,rfl,h3,h4⟩
   ·have zc:i<xs.length:=J
    have hx:xs[i]?=some xs[i]:=AAM zc;have hlen:l.length=i:=by rw[h3.length_eq];simp;omega
    have hmem:∀y∈l,y∈xs:=λy hy=>ACC (h3.mem_iff.1 hy);obtain⟨k,hk,e,q1,q2⟩:=hstep i xs[i] l hx hlen J hmem
    have hnx:xs[i]∉xs.take i:=λhm=>by
     obtain⟨j,hj,e⟩:=ABX.1 hm;have hj2:j<i:=by simp at hj;omega
     have:=ABP.1 zG j i J zc hj2;exact this (by rw[<-e];simp)
    refine .inr ⟨_,e,⟨i+1,rfl,J,?_,?_⟩,by show xs.length-((i+1:Nat):Int).toNat<xs.length-(i:Int).toNat;omega⟩
    ·rw[ABg zc];exact(gu _).trans ((h3.cons _).trans (List.perm_append_singleton _ _).symm)
    ·refine cq (R:=λx y=>lt x y=true) (λa b c=>ho.tr a b c) h4 hk q1 λy hy hk0=>?_;have hm:y∈l:=AAR hy;have yF:y≠xs[i]:=λe=>hnx (e▸h3.mem_iff.1 hm);rcases ho.Q4 y (hmem y hm) xs[i] (ABU zc) yF with h|h
     ·exact h
     ·have:=q2 y hy hk0;rw[h]at this;cases this) n ([],0) ⟨0,rfl,J,so,List.Pairwise.nil⟩ (by simpa using hn)
 grind
section
open Go.Sort
theorem de(l:By)(k:Nat)(x:Int)(h:l[k]?=some x):l.toArray[k]! = x:=No
theorem pT{l r:By}{k:Nat}{x:Int}(hk:k<l.length):swp (hole l (k+1) x++r).toArray (k+1) k=(hole l k x++r).toArray:=by
 have hg:=AAM hk;have e1:(hole l (k+1) x++r).toArray[k]! = l[k]:=de _ _ _ (by rw[ABD (by rw[SO J];omega),dp hg])
 have e2:(hole l (k+1) x++r).toArray[k+1]! = x:=de _ _ _ (by
  rw[ABD (by rw[SO J];omega)];unfold hole;grind)
 unfold swp;rw[e1,e2,List.setIfInBounds_toArray,List.setIfInBounds_toArray];rw[List.set_append_left _ _ (by rw[SO J];omega),eK hg,List.set_append_left _ _ (by rw[SO J];omega),bY J]
theorem eY(lt:Int->Int->Bool)(l r:By)(x:Int):∀k,k<=l.length->(∀y∈l.drop k,lt x y=true)->
  ∃k'≤l.length,insInner lt 0 k (hole l k x++r).toArray=(hole l k' x++r).toArray/\(∀y∈l.drop k',lt x y=true)/\(∀y,l[k'-1]?=some y->0<k'->lt x y=false)
 |0,h,hd=>⟨0,h,rfl,hd,λ_ _ h=>absurd h J⟩
 |k+1,h,hd=>by
  have hk:k<l.length:=J
  have hg:=AAM hk;have e1:(hole l (k+1) x++r).toArray[k]! = l[k]:=de _ _ _ (by rw[ABD (by rw[SO J];omega),dp hg])
  have e2:(hole l (k+1) x++r).toArray[k+1]! = x:=de _ _ _ (by
   rw[ABD (by rw[SO J];omega)];unfold hole;grind)
  unfold insInner;rw[e1,e2];cases xz:lt x l[k]with
  |false=>
   grind
  |true=>
   rw[AAS so,pT hk];refine eY lt l r x k J λy hy=>?_;rw[ABj hk]at hy;grind
theorem cu(lt:Int->Int->Bool)(xs:By)(zG:xs.Nodup)(ho:Ord lt xs):∀d i l,i+d=xs.length->l.Perm (xs.take i)->(l.Pairwise λx y=>lt x y=true)->
  ∃m:By,insOuter lt 0 xs.length i (l++xs.drop i).toArray=m.toArray/\m.Perm xs/\m.Pairwise λx y=>lt x y=true
 |0,i,l,h,hp,hs=>by
  have:i=xs.length:=J
  subst this;rw[insOuter,AAT J,List.drop_length,AA4];grind
 |d+1,i,l,h,h3,h4=>by
  have zc:i<xs.length:=J
  have hlen:l.length=i:=by rw[h3.length_eq];simp;omega
  have hmem:∀y∈l,y∈xs:=λy hy=>ACC (h3.mem_iff.1 hy);rw[insOuter,AAS zc,ABj zc];obtain⟨k,hk,e,q1,q2⟩:=eY lt l (xs.drop (i+1)) xs[i] l.length (AAi _) so;rw[show hole l l.length xs[i]++xs.drop (i+1)=l++xs[i]::xs.drop (i+1) by simp[hole],hlen]at e;rw[e]
  have hnx:xs[i]∉xs.take i:=λhm=>by
   obtain⟨j,hj,e⟩:=ABX.1 hm;have hj2:j<i:=by simp at hj;omega
   have:=ABP.1 zG j i J zc hj2;grind
  refine cu lt xs zG ho d (i+1) _ J ?_ ?_
  ·rw[ABg zc];exact(gu _).trans ((h3.cons _).trans (List.perm_append_singleton _ _).symm)
  ·refine cq (R:=λx y=>lt x y=true) (λa b c=>ho.tr a b c) h4 hk q1 λy hy hk0=>?_;have hm:y∈l:=AAR hy;have yF:y≠xs[i]:=λe=>hnx (e▸h3.mem_iff.1 hm);rcases ho.Q4 y (hmem y hm) xs[i] (ABU zc) yF with h|h
   all_goals grind
end
theorem pP{lt:Int->Int->Option Bool}{xs:By}(hx:∀x∈xs,∀y∈xs,(lt x y).isSome=true)(h20:xs.length<=20)(zG:xs.Nodup)(ho:Ord (OL lt) xs):
  ∃l,Ma lt xs=some l/\l.Perm xs/\l.Pairwise λx y=>OL lt x y=true:=by
 unfold Ma;by_cases h1:xs.length<=1
 ·rw[ABY h1];refine⟨xs,rfl,.refl _,?_⟩
  match xs,h1 with
  | [],_=>exact .nil
  | [x],_=>simp
 ·rw[ABc h1,ABY h20]
  have zA:(xs.all λx=>xs.all λy=>(lt x y).isSome)=true:=by rw[AAZ];intro x hx';rw[AAZ];intro y hy';exact hx x hx' y hy'
  rw[zA]
  match xs,h1,zG,ho with
  |x::r,h1,zG,ho=>
   obtain⟨m,e,p,q⟩:=cu (OL lt) (x::r) zG ho r.length 1 [x] ADb so so;refine⟨m,?_,p,q⟩;show some (Go.Sort.insertionSort (OL lt) (x::r).toArray 0 (x::r).length).toList=some m;unfold Go.Sort.insertionSort;grind
theorem Y5(L:By×Int->Option ((By×Int)⊕(By×Int)))(xs:By)(P:Int->Bool)
  (hstep:∀(i:Nat)(x:Int)(out:By),xs[i]?=some x->i<xs.length->out.length<=i->L (out,(i:Int))=some (.inl ((bif P x then out++[x]else out),((i+1:Nat):Int))))
  (hend:∀out,L (out,(xs.length:Int))=some (.inr (out,(xs.length:Int)))) (n:Nat) (hn:xs.length<n):iter n L ([],0)=some (xs.filter P,(xs.length:Int)):=by
 obtain⟨z,h1,h2⟩:=YF (f:=L) (λs=>∃i≤xs.length,s=((xs.take i).filter P,(i:Int))) (λs=>s=(xs.filter P,(xs.length:Int))) (λs=>xs.length-s.2.toNat) (λs hs=>by
  obtain⟨i,hi,rfl⟩:=hs;by_cases hi2:i=xs.length
  ·grind
  ·have zc:i<xs.length:=J
   have hx:xs[i]?=some xs[i]:=AAM zc;have hlen:((xs.take i).filter P).length<=i:=AA5 (ABw _ _) ADb;refine .inr ⟨_,hstep i _ _ hx zc hlen,⟨i+1,J,?_⟩,by show xs.length-((i+1:Nat):Int).toNat<xs.length-(i:Int).toNat;omega⟩;rw[ABg zc,ACJ];grind) n ([],0) ⟨0,J,so⟩ J
 rw[h2,h1]
def Qj(w h i:Int):By:=(bif decide (i.tdiv w>0)then [i-w]else [])++(bif decide (i.tmod w>0)then [i-1]else [])++(bif decide (i.tmod w<w-1)then [i+1]else [])++(bif decide (i.tdiv w<h-1)then [i+w]else [])
structure Cell(w h i:Int):Prop where
 w1:1<=w
 w2:w<=10
 h1:1<=h
 h2:h<=10
 i1:0<=i
 i2:i<w*h
theorem pc{w:Int}(h1:1<=w)(h2:w<=10)(h3:1<=h)(h4:h<=10):w*h<=100:=by have:=Int.mul_le_mul h2 h4 J (by omega:(0:Int)<=10);omega
theorem je{w i:Int}(c:Cell w h i):∃q r,i=w*q+r/\0<=r/\r<w/\0<=q/\q<=h-1/\i.tdiv w=q/\i.tmod w=r/\0<=w*q/\w*q+w<=w*h:=by obtain⟨w1,w2,h1,h2,i1,i2⟩:=c;have e1:i.tdiv w=i / w:=Int.tdiv_eq_ediv_of_nonneg i1;have e2:i.tmod w=i%w:=Int.tmod_eq_emod_of_nonneg i1;have e3:=Int.mul_ediv_add_emod i w;have r1:=Int.emod_nonneg i (show w≠0 by omega);have r2:=Int.emod_lt_of_pos i (show 0<w by omega);have q1:0<=i / w:=Int.ediv_nonneg i1 J;have q2:i / w<h:=Int.ediv_lt_of_lt_mul J (by rw[Int.mul_comm];exact i2);refine⟨i / w,i%w,e3.symm,r1,r2,q1,J,e1,e2,Int.mul_nonneg J q1,?_⟩;have:=Int.mul_le_mul_of_nonneg_left (show i / w+1<=h by omega) (show(0:Int)<=w by omega);grind
theorem X7{w i:Int}(c:Cell w h i):(∀y∈Qj w h i,0<=y/\y<w*h/\y≠i)/\(Qj w h i).Nodup/\(Qj w h i).length<=4:=by
 obtain⟨q,r,e,r1,r2,q1,q2,e1,e2,m1,m2⟩:=je c;obtain⟨w1,w2,h1,h2,i1,i2⟩:=c;unfold Qj;rw[e1,e2]
 have g1:0<q->w<=w*q:=λh=>by have:=Int.mul_le_mul_of_nonneg_left (show(1:Int)<=q by omega) (show(0:Int)<=w by omega);omega
 have g2:q<h-1->w*q+w+w<=w*h:=λhq=>by have:=Int.mul_le_mul_of_nonneg_left (show q+1+1<=h by omega) (show(0:Int)<=w by omega);grind
 have G1:q<=0\/w<=w*q:=by
  by_cases hq:0<q
  ·omega
  ·omega
 have G2:h-1<=q\/w*q+w+w<=w*h:=by
  by_cases hq:q<h-1
  ·omega
  ·omega
 clear g1 g2;generalize w*q=m at *;generalize w*h=t at *;subst e;by_cases a1:q>0<;>by_cases a2:r>0<;>by_cases a3:r<w-1<;>by_cases a4:q<h-1<;>simp[a1,a2,a3,a4]<;>omega
theorem bR{w i:Int}(c:Cell w h i)(cs:By):WC w h cs i=some (Qj w h i):=by
 obtain⟨q,r,e,r1,r2,q1,q2,e1,e2,m1,m2⟩:=je c;obtain⟨w1,w2,h1,h2,i1,i2⟩:=c;have hb:=pc w1 w2 h1 h2;unfold WC Qj;rw[e1,e2];rw[show(w==0)=false by rw[ABZ];omega];simp only[ABV,PJ (show -9223372036854775808<=q by omega) J,PJ (show -9223372036854775808<=i-w by omega) J,PJ (show -9223372036854775808<=i-1 by omega) J,PJ (show -9223372036854775808<=i+1 by omega) J,PJ (show -9223372036854775808<=i+w by omega) J,PJ (show -9223372036854775808<=w-1 by omega) J,PJ (show -9223372036854775808<=h-1 by omega) J];generalize decide (q>0)=b1;generalize decide (r>0)=b2;generalize decide (r<w-1)=b3;generalize decide (q<h-1)=b4;cases b1<;>cases b2<;>cases b3<;>cases b4<;>rfl
theorem gf:Xf=WC:=rfl
def PF(c:By)(i:Int):Int:=c.getD i.toNat 0
theorem XQ{i:Int}(h:0<=i/\i<(c.length:Int)):Iz c i=some (PF c i):=by obtain⟨m,rfl⟩:∃m:Nat,i=m:=⟨i.toNat,J⟩;rw[PA J];simp[PF,List.getD,AAM (show m<c.length by omega)]
structure me(w h:Int)(c:By):Prop where
 w1:1<=w
 w2:w<=10
 h1:1<=h
 h2:h<=10
 len:(c.length:Int)=w*h
theorem me.cell{w:Int}(f:me w h c){i:Int}(hi:0<=i/\i<(c.length:Int)):Cell w h i:=⟨f.w1,f.w2,f.h1,f.h2,hi.1,f.len▸hi.2⟩
theorem me.le{w:Int}(f:me w h c):c.length<=100:=by have:=pc f.w1 f.w2 f.h1 f.h2;have:=f.len;omega
theorem Tk{w:Int}(hf:PY w h c=true):me w h c:=by unfold PY P7 at hf;simp only[AAN,AAh,AAX]at hf;obtain⟨⟨⟨⟨a,b⟩,⟨d,e⟩⟩,g⟩,_⟩:=hf;have h1:=pc a b d e;have h2:0<=w*h:=Int.mul_nonneg J J;rw[PJ J J]at g;exact⟨a,b,d,e,g⟩
def R3(w h:Int)(c:By)(i:Int)(a:Bool):By:=(Qj w h i).filter λk=>PF c k != 0 && !(a&&PF c k==2)
theorem ar{w:Int}(f:me w h c){i:Int}(hi:0<=i/\i<(c.length:Int))(a:Bool):(∀y∈R3 w h c i a,(0<=y/\y<(c.length:Int))/\y≠i)/\(R3 w h c i a).Nodup/\(R3 w h c i a).length<=4:=by obtain⟨h1,h2,h3⟩:=X7 (f.cell hi);refine⟨λy hy=>?_,h2.filter _,AA5 (ABw _ _) h3⟩;have:=h1 y (ABd.1 hy).1;rw[f.len];omega
theorem bH{w:Int}(f:me w h c){i:Int}(hi:0<=i/\i<(c.length:Int))(a:Bool)(n:Nat)(hn:PO<=n):Xr n w h c i a=some (R3 w h c i a):=by
 obtain⟨h1,h2,h3⟩:=X7 (f.cell hi)
 have:=Y5 (VO c a (Qj w h i)) (Qj w h i) (λk=>PF c k != 0 && !(a&&PF c k==2)) (λj x out hx hj ho=>by
  have hxm:=h1 x (AAR hx);have hm:decide (out.length+[x].length<=E8)=true:=by rw[AAh];simp[E8];omega
  simp only[VO,PE hj,ABW,hx,ABS,XQ (c:=c) (i:=x) (by rw[f.len];exact⟨hxm.1,hxm.2.1⟩),O9 hj J,ABT,hm];grind) (λout=>by simp[VO]) n ADW
 unfold Xr;rw[bR (f.cell hi),ABS,this];rfl
theorem ao{w:Int}(f:me w h c){i:Int}(hi:0<=i/\i<(c.length:Int))(a:Bool)(n:Nat)(hn:PO<=n):YD n w h c i a=some (R3 w h c i a):=by
 obtain⟨h1,h2,h3⟩:=X7 (f.cell hi)
 have:=Y5 (Wq c a (Qj w h i)) (Qj w h i) (λk=>PF c k != 0 && !(a&&PF c k==2)) (λj x out hx hj ho=>by
  have hxm:=h1 x (AAR hx);have hm:decide (out.length+[x].length<=E8)=true:=by rw[AAh];simp[E8];omega
  simp only[Wq,PE hj,ABW,hx,ABS,XQ (c:=c) (i:=x) (by rw[f.len];exact⟨hxm.1,hxm.2.1⟩),O9 hj J,ABT,hm];grind) (λout=>by simp[Wq]) n ADW
 unfold YD;rw[gf,bR (f.cell hi),ABS,this];rfl
structure FJ(N:Nat)(q out:By):Prop where
 len:out.length=N
 wD:∀y∈q,0<=y/\y<(N:Int)
 Mg:∀x∈out, -1<=x/\x<(q.length:Int)
 O1:q.length+out.countP (λx=>decide (x<0))=N
theorem To{out:By}{v:Int}(h:0<=v/\v<(out.length:Int)):OU out v=true/\out[v.toNat]?=some (PF out v)/\PF out v∈out:=by
 obtain⟨m,rfl⟩:∃m:Nat,v=m:=⟨v.toNat,J⟩;have hm:m<out.length:=J
 have e:PF out (m:Int)=out[m]:=by simp[PF,List.getD,AAM hm]
 refine⟨PE hm,?_,?_⟩
 all_goals grind
theorem FJ.s6{N:Nat}{q out:By}(h:FJ N q out){v a:Int}(hv:0<=v/\v<(N:Int))(ha:0<=a/\a<(N:Int))(hneg:PF out v<0):FJ N (q++[v]) (out.set v.toNat (PF out a+1)):=by
 obtain⟨_,e1,_⟩:=To (out:=out) (v:=v) (by rw[h.len];exact hv);obtain⟨_,_,m2⟩:=To (out:=out) (v:=a) (by rw[h.len];exact ha);have hb:=h.Mg _ m2;obtain⟨zE,e2⟩:=AAO.1 e1;refine⟨by simp[h.len],λy hy=>?_,λx hx=>?_,?_⟩
 ·rcases ABK.1 hy with hy|hy
  ·exact h.wD y hy
  grind
 ·rcases List.mem_or_eq_of_mem_set hx with hx|rfl
  ·have:=h.Mg x hx;simp;omega
  grind
 ·have hc:=h.O1;grind
theorem oO(w h:Int)(c:By)(N:Nat)(hN:N<=100)(a:Int)(ha:0<=a/\a<(N:Int))(nl:By)(hnl:∀y∈nl,0<=y/\y<(N:Int))(hl4:nl.length<=4)(k:Nat)(n n':Nat)(hn:PO<=n)(hn':PO<=n')(q out:By)(hk:k<=q.length)(hJ:FJ N q out):
  ∃q' out',iter n (RV a nl) (q,0,out)=some (q',(nl.length:Int),out')/\iter n' (Sb a nl) (q.drop k,0,out)=some (q'.drop k,(nl.length:Int),out')/\k<=q'.length/\FJ N q' out':=by
 obtain⟨z,w',⟨q',out',rfl,rfl,h1,h2⟩,h3,h4⟩:=gx (f:=RV a nl) (g:=Sb a nl)
  (λx y=>∃(i:Nat) (q out:By),x=(q,(i:Int),out)/\y=(q.drop k,(i:Int),out)/\i<=nl.length/\k<=q.length/\FJ N q out)
  (λz w=>∃(q out:By),z=(q,(nl.length:Int),out)/\w=(q.drop k,(nl.length:Int),out)/\k<=q.length/\FJ N q out)
  (λx=>nl.length-x.2.1.toNat) (λx y hR=>by
   obtain⟨i,q,out,rfl,rfl,hi,hk,hJ⟩:=hR;by_cases hi2:i=nl.length
   ·subst hi2;exact .inl ⟨(q,(nl.length:Int),out),(q.drop k,(nl.length:Int),out),by simp[RV],by simp[Sb],q,out,rfl,rfl,hk,hJ⟩
   ·right;have zc:i<nl.length:=J
    have hv:=hnl nl[i] (ABU zc);have hx:nl[i]?=some nl[i]:=AAM zc;generalize nl[i]=v at hv hx;obtain⟨v1,v2,v3⟩:=To (out:=out) (v:=v) (by rw[hJ.len];exact hv);obtain⟨a1,a2,a3⟩:=To (out:=out) (v:=a) (by rw[hJ.len];exact ha);have hd:decide ((i:Int)<(nl.length:Int))=true:=by simpa using zc
    have hq:q.length<=100:=by have:=hJ.O1;omega
    have hw:PB (PF out a+1)=PF out a+1:=by have:=hJ.Mg _ a3;exact PJ J J
    by_cases hneg:PF out v<0
    ·refine⟨(q++[v],((i+1:Nat):Int),out.set v.toNat (PF out a+1)),((q++[v]).drop k,((i+1:Nat):Int),out.set v.toNat (PF out a+1)),?_,?_,⟨i+1,_,_,rfl,rfl,J,ADb,hJ.s6 hv ha hneg⟩,by show nl.length-((i+1:Nat):Int).toNat<nl.length-(i:Int).toNat;omega⟩
     ·have hm:decide (q.length+[v].length<=E8)=true:=by rw[AAh];simp[E8];omega
      simp only[RV,hd,PE zc,ABW,hx,ABS,v1,v2,a1,a2,ABY hneg,ABT,hm,hw,O9 zc J,P5]
     ·have hm:decide ((q.drop k).length+[v].length<=E8)=true:=by rw[AAh];simp[E8];omega
      simp only[Sb,hd,PE zc,ABW,hx,ABS,v1,v2,a1,a2,ABY hneg,ABT,hm,hw,O9 zc J,P5];rw[List.drop_append_of_le_length hk]
    ·refine⟨(q,((i+1:Nat):Int),out),(q.drop k,((i+1:Nat):Int),out),?_,?_,⟨i+1,_,_,rfl,rfl,J,hk,hJ⟩,by show nl.length-((i+1:Nat):Int).toNat<nl.length-(i:Int).toNat;omega⟩
     ·simp only[RV,hd,PE zc,ABW,hx,ABS,v1,v2,ABc hneg,ABT,ABV,O9 zc J]
     ·simp only[Sb,hd,PE zc,ABW,hx,ABS,v1,v2,ABc hneg,ABT,ABV,O9 zc J]) n n' (q,0,out) (q.drop k,0,out) ⟨0,q,out,rfl,rfl,J,hk,hJ⟩ (by show nl.length-(0:Int).toNat<n;unfold PO at hn;omega) (by show nl.length-(0:Int).toNat<n';unfold PO at hn';omega)
 grind
theorem lA(c:By)(hl:c.length<=100)(n:Nat)(hn:PO<=n):iter n (SY c) ([],0)=some (List.replicate c.length (-1),(c.length:Int)):=by
 have:=Pc (SY c) (λi=>(List.replicate i (-1),(i:Int))) c.length (List.replicate c.length (-1),(c.length:Int)) (λi hi=>by
  have hm:decide ((List.replicate i (-1:Int)).length+[(-1:Int)].length<=E8)=true:=by rw[AAh];simp[E8];omega
  simp only[SY,hm,O9 hi J];rw[show decide ((i:Int)<(c.length:Int))=true by simpa using hi];simp[ACY]) (by simp[SY]) n ADW
 grind
theorem kI(L:Int×By->Option ((Int×By)⊕(Int×By)))(N:Nat)(x:Int)(hL:∀(i:Nat)(out:By),i<N->out.length=N->L ((i:Int),out)=some (.inl (((i+1:Nat):Int),out.set i x)))(he:∀out,out.length=N->L ((N:Int),out)=some (.inr ((N:Int),out)))(n:Nat)(hn:N<n):
  iter n L (0,List.replicate N 0)=some ((N:Int),List.replicate N x):=by
 have:=Pc L (λi=>((i:Int),List.replicate i x++List.replicate (N-i) 0)) N ((N:Int),List.replicate N x) (λi hi=>by
  rw[hL i _ hi ADb];congr 3;rw[ACK _ _ so,List.length_replicate,ACS,ACY];rw[show N-i=(N-(i+1))+1 by omega,List.replicate_succ,ACc,ABk];rfl) (by rw[he _ so];simp) n hn
 grind
theorem dN(c:By)(hl:c.length<=100)(n:Nat)(hn:PO<=n):iter n (V0 c) (0,List.replicate (Int.toNat (c.length:Int)) 0)=some ((c.length:Int),List.replicate c.length (-1)):=by rw[ABW];refine kI _ c.length (-1) (λi out hi ho=>?_) (λout ho=>by simp[V0]) n ADW;simp only[V0,PE (ho▸hi),O9 hi J,P5,ABW,ABT,List.length_replicate];grind
theorem bV{w:Int}(f:me w h c){t:Int}(ht:0<=t/\t<(c.length:Int))(b:Bool)(n n':Nat)(hn:PO<=n)(hn':PO<=n'):
  ∃F,VQ n w h c t b=some F/\US n' w h c t b=some F/\F.length=c.length/\∀x∈F, -1<=x/\x<(c.length:Int):=by
 have hN:=f.le;have hB:1048576<=n:=AA5 ADd hn;have hB':1048576<=n':=AA5 ADd hn'
 have hJ0:FJ c.length [t] ((List.replicate c.length (-1)).set t.toNat 0):=by
  have hr:∀x∈List.replicate c.length (-1:Int),x = -1:=λx hx=>(List.mem_replicate.1 hx).2;have htl:t.toNat<(List.replicate c.length (-1:Int)).length:=ADb
  refine⟨so,λy hy=>No,λx hx=>?_,?_⟩
  ·grind
  ·rw[List.countP_set htl];have:(List.replicate c.length (-1:Int)).countP (λx=>decide (x<0))=c.length:=by rw[List.countP_replicate];simp
   grind
 obtain⟨z,w',⟨F,hz,hw,h1,h2⟩,h3,h4⟩:=gx (f:=SZ n w h c t b) (g:=Tr n' w h c t b)
  (λx y=>∃(k:Nat) (q out:By),x=(q,(k:Int),out)/\y=(q.drop k,out)/\k<=q.length/\FJ c.length q out)
  (λz w=>∃F,z.2.2=F/\w.2=F/\F.length=c.length/\∀x∈F, -1<=x/\x<(c.length:Int))
  (λx=>c.length-x.2.1.toNat) (λx y hR=>by
   obtain⟨k,q,out,rfl,rfl,hk,hJ⟩:=hR;have hq:q.length<=c.length:=by have:=hJ.O1;omega
   by_cases hk2:k=q.length
   ·subst hk2;refine .inl ⟨(q,(q.length:Int),out),([],out),by simp[SZ],by simp[Tr],out,rfl,rfl,hJ.len,λx hx=>?_⟩;have:=hJ.Mg x hx;omega
   ·right;have zJ:k<q.length:=J
    have hx:q[k]?=some q[k]:=AAM zJ;have hv:=hJ.wD q[k] (ABU zJ);have hdc:q.drop k=q[k]::q.drop (k+1):=ABj zJ;generalize q[k]=v at hx hv hdc;have hd:decide ((k:Int)<(q.length:Int))=true:=by simpa using zJ
    have hlen1:decide (((q.drop k).length:Int)>0)=true:=by rw[AAh];simp;omega
    have yu:sub (q.drop k) (Int.toNat 1) (Int.toNat ((q.drop k).length:Int))=q.drop (k+1):=by rw[hdc];simp[sub,ABs]
    have hrng:(decide ((0:Nat)<=1)&&decide ((1:Int)<=((q.drop k).length:Int))&&decide (((q.drop k).length:Int)<=((q.drop k).length:Int)))=true:=ADb
    have h0:(q.drop k)[Int.toNat 0]?=some v:=by rw[hdc];rfl
    have hi0:OU (q.drop k) 0=true:=by rw[hdc];exact PE (i:=0) so
    have hwk:=O9 zJ J;have hkc:=XQ (c:=c) (i:=v) (by exact hv);by_cases hskip:(b&&v != t&&PF c v==2)=true
    ·refine⟨(q,((k+1:Nat):Int),out),(q.drop (k+1),out),?_,?_,⟨k+1,q,out,rfl,rfl,J,hJ⟩,No⟩
     ·simp only[SZ,hd,PE zJ,ABW,hx,ABS,ABT,hkc,hwk];grind
     ·simp only[Tr,hlen1,hi0,h0,ABS,ABT,hrng,hkc,yu];grind
    ·obtain⟨n1,n2,n3⟩:=ar f hv false;obtain⟨q',out',e1,e2,e3,e4⟩:=oO w h c c.length hN v hv (R3 w h c v false) (λy hy=>(n1 y hy).1) n3 (k+1) n n' hn hn' q out J hJ;refine⟨(q',((k+1:Nat):Int),out'),(q'.drop (k+1),out'),?_,?_,⟨k+1,q',out',rfl,rfl,e3,e4⟩,No⟩
     ·simp only[SZ,hd,PE zJ,ABW,hx,ABS,ABT,hkc,hwk,bH f hv false n hn,e1];grind
     ·simp only[Tr,hlen1,hi0,h0,ABS,ABT,hrng,hkc,yu,ao f hv false n' hn',e2];grind) n n' ([t],0,(List.replicate c.length (-1)).set t.toNat 0) ([t],(List.replicate c.length (-1)).set t.toNat 0) ⟨0,[t],_,rfl,rfl,so,hJ0⟩ J J
 have xv:OU (List.replicate c.length (-1:Int)) t=true:=(To No).1
 have hmr:(decide ((0:Int)<=(c.length:Int))&&decide ((c.length:Int)<=(E8:Int))&&decide ((c.length:Int)=(c.length:Int)))=true:=by
  have hm:(c.length:Int)<=(E8:Int):=by unfold E8;omega
  rw[ABY hm];simp
 refine⟨F,?_,?_,h1,h2⟩
 ·unfold VQ;rw[lA c hN n hn,ABS];dsimp only;rw[xv,P5,h3,<-hz];rfl
 ·unfold US;rw[hmr,dN c hN n' hn',ABT,ABS];dsimp only;rw[xv,P5,h4,<-hw];rfl
theorem jh{w:Int}(f:me w h c){t:Int}(ht:0<=t/\t<(c.length:Int))(b:Bool):
  ∃F,(∀n,PO<=n->VQ n w h c t b=some F/\US n w h c t b=some F)/\F.length=c.length/\∀x∈F, -1<=x/\x<(c.length:Int):=by
 obtain⟨F,h1,h2,h3,h4⟩:=bV f ht b PO PO (AAi _) (AAi _);refine⟨F,λn hn=>⟨?_,?_⟩,h3,h4⟩
 ·obtain⟨G,g1,g2,_⟩:=bV f ht b n PO hn (AAi _);grind
 ·obtain⟨G,g1,g2,_⟩:=bV f ht b PO n (AAi _) hn;grind
theorem jM(a b c:Int):PS a b c=some (decide (b<=a)&&decide (a<=c)):=by unfold PS;grind
theorem eV(a b c:Int):PX a b c=some (decide (b<=a)&&decide (a<=c)):=by unfold PX;grind
def QA(t:Int×Int×Int×Int):Bool:=
 decide (1<=t.1)&&decide (t.1<=1000000)&&decide (1<=t.2.1)&&decide (t.2.1<=999)&&decide (1<=t.2.2.2)&&decide (t.2.2.2<=4)&&decide (0<=t.2.2.1)&&decide (t.2.2.1<=99)&&((t.2.2.1==0)==(t.2.2.2==1))
def Po(t u:Int×Int×Int×Int):Bool:=
 (t.1==u.1&&t.2.1==u.2.1)||(!(t.2.2.2==1)&&(t.2.2.1==u.2.2.1||(t.2.1==u.2.1 && !(u.2.2.2==1))))
def Rm:List (Int×Int×Int×Int)->List (Int×Int×Int×Int)->Bool
 |_,[]=>true
 |p,x::l=>QA x&&p.all (λu => !Po x u)&&Rm (p++[x]) l
def Sy(l:List (Int×Int×Int×Int)):Bool:=decide (l.length<=60)&&Rm [] l
theorem sub_zero(xs:List α)(i:Nat):sub xs (Int.toNat (0:Int)) (Int.toNat (i:Int))=xs.take i:=by simp[sub]
theorem lE(x u:Int×Int×Int×Int)(i:Nat)(a:List (Int×Int×Int×Int))(k:Nat)(hk:k<(a.take i).length)(hu:(a.take i)[k]?=some u)(hm:a.length<=1048576):
  RO a i x k=some (bif Po x u then .inr (.inr false)else .inl ((k+1:Nat):Int)):=by
 unfold RO;rw[sub_zero,RY,hu];have zJ:decide ((k:Int)<((a.take i).length:Int))=true:=by simp only[AAh];omega
 rw[zJ,ABT,O9 hk ADb];simp only[ABS,Po];grind
theorem ln(x u:Int×Int×Int×Int)(i:Nat)(a:List (Int×Int×Int×Int))(k:Nat)(hk:k<i)(hu:a[k]?=some u)(hi:i<=a.length)(hm:a.length<=1048576):
  RU a i x k=some (bif Po x u then .inr (.inr false)else .inl ((k+1:Nat):Int)):=by
 unfold RU;rw[RY,hu];have zJ:decide ((k:Int)<(i:Int))=true:=by simp only[AAh];omega
 rw[zJ,ABT,O9 hk J];simp only[ABS,Po];grind
theorem lG(x:Int×Int×Int×Int)(i:Nat)(a:List (Int×Int×Int×Int))(hi:i<=a.length)(hm:a.length<=1048576)(n:Nat)(hn:PO<=n):
  iter n (RO a i x) 0=some (bif(a.take i).all (λu => !Po x u)then .inl (i:Int)else .inr false):=by
 have hl:(a.take i).length=i:=ADb
 refine(W9 (RO a i x) (a.take i) (λp l=>bif l.all (λu => !Po x u)then .inl (i:Int)else .inr false) ?_ ?_ n ADW)
 ·unfold RO;rw[sub_zero,hl];simp[hl]
 ·intro k u l p h1 h2 h3 h4 h5;rw[lE x u i a k h1 h2 hm];grind
theorem lp(x:Int×Int×Int×Int)(i:Nat)(a:List (Int×Int×Int×Int))(hi:i<=a.length)(hm:a.length<=1048576)(n:Nat)(hn:PO<=n):
  iter n (RU a i x) 0=some (bif(a.take i).all (λu => !Po x u)then .inl (i:Int)else .inr false):=by
 have hl:(a.take i).length=i:=ADb
 refine(W9 (RU a i x) (a.take i) (λp l=>bif l.all (λu => !Po x u)then .inl (i:Int)else .inr false) ?_ ?_ n ADW)
 ·unfold RU;rw[hl];simp
 ·intro k u l p h1 h2 h3 h4 h5;have hk:k<i:=J
  rw[ln x u i a k hk (by rw[List.getElem?_take_of_lt hk]at h2;exact h2) hi hm];grind
theorem mw(x:Int×Int×Int×Int):
  ((PX x.1 1 1000000).bind λ(x3:Bool)=>bif(!x3)then some true else(PX x.2.1 1 999).bind λ(x4:Bool)=>bif(!x4)then some true else(PX x.2.2.2 1 4).bind λ(x5:Bool)=>bif(!x5)then some true else
   bif((x.2.2.2==1) != (x.2.2.1==0))then some true else(PX x.2.2.1 0 99).bind λ(x6:Bool)=>some (!x6))=some (!QA x):=by
 simp only[eV,ABS,QA];grind
theorem nh(x:Int×Int×Int×Int):
  ((PS x.1 1 1000000).bind λ(x3:Bool)=>bif(!x3)then some true else(PS x.2.1 1 999).bind λ(x4:Bool)=>bif(!x4)then some true else(PS x.2.2.2 1 4).bind λ(x5:Bool)=>bif(!x5)then some true else
   (PS x.2.2.1 0 99).bind λ(x6:Bool)=>bif(!x6)then some true else some ((x.2.2.1==0) != (x.2.2.2==1)))=some (!QA x):=by
 simp only[jM,ABS,QA]
 cases decide (1<=x.1)<;>cases decide (x.1<=1000000)<;>cases decide (1<=x.2.1)<;>cases decide (x.2.1<=999)<;>cases decide (1<=x.2.2.2)<;>cases decide (x.2.2.2<=4)<;>simp <;>
  cases(x.2.2.2==1)<;>cases(x.2.2.1==0)<;>cases decide (0<=x.2.2.1)<;>cases decide (x.2.2.1<=99)<;>simp
theorem Ys(a:List (Int×Int×Int×Int))(hm:a.length<=1048576)(n:Nat)(hn:PO<=n):U0 n a=some (Sy a):=by
 have key:iter n (RN n a) 0=some (bif Rm [] a then .inl (a.length:Int)else .inr false):=by
  refine W9 (RN n a) a (λp l=>bif Rm p l then .inl (a.length:Int)else .inr false) ?_ ?_ n ADW
  ·unfold RN;simp[Rm]
  ·intro i x l p h1 h2 h3 h4 h5
   have e:RN n a i=some (bif QA x&&p.all (λu => !Po x u)then .inl ((i+1:Nat):Int)else .inr (.inr false)):=by
    unfold RN;rw[show decide ((i:Int)<(a.length:Int))=true by grind,ABT,RY,h2];simp only[ABS,mw,O9 h1 J];cases hg:QA x with
    |false=>simp
    |true=>
     rw[show(decide ((0:Int)<=(0:Int))&&decide ((0:Int)<=(i:Int))&&decide ((i:Int)<=(a.length:Int)))=true by simp;omega];rw[lG x i a J hm n hn,<-h5];grind
   rw[e];cases hg:(QA x&&p.all λu => !Po x u)with
   |true=>exact .inl ⟨so,by simp[Rm,hg]⟩
   |false=>exact .inr (by simp[Rm,hg])
 unfold U0;rw[key];cases h:Rm [] a with
 |true=>simp[Sy,h];omega
 |false=>simp[Sy,h]
theorem dV(a:List (Int×Int×Int×Int))(hm:a.length<=1048576)(n:Nat)(hn:PO<=n):Yj n a=some (Sy a):=by
 have key:iter n (RT n a) 0=some (bif Rm [] a then .inl (a.length:Int)else .inr false):=by
  refine W9 (RT n a) a (λp l=>bif Rm p l then .inl (a.length:Int)else .inr false) ?_ ?_ n ADW
  ·unfold RT;simp[Rm]
  ·intro i x l p h1 h2 h3 h4 h5
   have e:RT n a i=some (bif QA x&&p.all (λu => !Po x u)then .inl ((i+1:Nat):Int)else .inr (.inr false)):=by
    unfold RT;rw[show decide ((i:Int)<(a.length:Int))=true by grind,ABT,RY,h2];simp only[ABS,nh,O9 h1 J];cases hg:QA x with
    |false=>simp
    |true=>
     rw[lp x i a J hm n hn,<-h5];grind
   rw[e];cases hg:(QA x&&p.all λu => !Po x u)with
   |true=>exact .inl ⟨so,by simp[Rm,hg]⟩
   |false=>exact .inr (by simp[Rm,hg])
 unfold Yj;rw[key];by_cases hl:a.length<=60
 ·rw[show decide ((a.length:Int)>60)=false by simp;omega];cases h:Rm [] a with
  |true=>simp[Sy,h,hl]
  |false=>simp[Sy,h]
 ·rw[show decide ((a.length:Int)>60)=true by simp;omega];simp[Sy,hl]
def AS:List (Nat->Int)->It->Int->Prop
 | [],_,x=>x=0
 |r::rs,S,x=>∃k∈S,∃y,AS rs (S.erase k) y/\x=r k+y
def qi(R:List (Nat->Int))(S:It)(x:Int):Prop:=AS R S x/\∀y,AS R S y->x<=y
theorem qi.uniq{y:Int}(h1:qi R S x)(h2:qi R S y):x=y:=
 Int.le_antisymm (h1.2 y h2.1) (h2.2 x h1.1)
def Qy:By->Int
 | []=>0
 |x::l=>x+Qy l
theorem fZ:∀a b:By,Qy (a++b)=Qy a+Qy b
 | [],b=>by simp[Qy]
 |x::a,b=>by simp only[ABC,Qy,fZ a b];omega
theorem aV(v:Nat->Int):∀(S:It)(k:Nat),k∈S->Qy (S.map v)=v k+Qy ((S.erase k).map v)
 | [],k,h=>by cases h
 |a::S,k,h=>by
  by_cases e:a=k
  ·subst e;simp[Qy]
  ·have hk:k∈S:=by
    rcases AAj.1 h with h|h
    ·omega
    ·exact h
   have e2:(a==k)=false:=by simpa using e
   rw[List.erase_cons,e2];simp only[ABO,if_false,ABI,Qy,aV v S k hk];omega
theorem kQ(v:Nat->Int):∀(S:It),(∀k∈S,v k<=0)->Qy (S.map v)<=0
 | [],_=>by simp[Qy]
 |a::S,h=>by simp only[ABI,Qy];have:=kQ v S (λk hk=>h k (AAQ _ hk));grind
theorem AS.ge(v:Nat->Int):∀(R:List (Nat->Int)) (u:By) (S:It) (x:Int),u.length=R.length->(∀i (hi:i<R.length) (hu:i<u.length),∀k∈S,u[i]+v k<=R[i] k)->(∀k∈S,v k<=0)->AS R S x->Qy u+Qy (S.map v)<=x
 | [],u,S,x,hl,_,hv,hx=>by obtain rfl:u=[]:=AAU hl;have:=kQ v S hv;simp only[AS]at hx;simp only[Qy];omega
 |r::R,[],S,x,hl,_,_,_=>ADq
 |r::R,u0::u,S,x,hl,hc,hv,hx=>by
  obtain⟨k,hk,y,hy,rfl⟩:=hx
  have ih:=AS.ge v R u (S.erase k) y No (λi hi hu q hq=>by
   have:=hc (i+1) ADb ADb q (ABv hq);simpa using this) (λq hq=>hv q (ABv hq)) hy
  have h0:=hc 0 so so k hk;simp only[ACI]at h0;rw[aV v S k hk];simp only[Qy];omega
theorem iI(f:Nat->Int):∀(S:It),(∀k∈S,f k=0)->Qy (S.map f)=0
 | [],_=>rfl
 |a::S,h=>by simp only[ABI,Qy,iI f S (λk hk=>h k (AAQ _ hk)),h a AAo];omega
theorem l6(f:Nat->Int):∀(cs S:It),cs.Nodup->S.Nodup->(∀k∈cs,k∈S)->(∀k∈S,k∉cs->f k=0)->Qy (S.map f)=Qy (cs.map f)
 | [],S,_,_,_,h=>by rw[iI f S (λk hk=>h k hk so)];rfl
 |k::cs,S,hn,hS,hs,h=>by
  obtain⟨h1,h2⟩:=AAf.1 hn;rw[aV f S k (hs k AAo),l6 f cs (S.erase k) h2 (hS.erase k) (λq hq=>?_) (λq hq hc=>?_)]
  ·rfl
  all_goals grind
theorem aw:∀(a b:It),a.Nodup->(∀x∈a,x∈b)->a.length<=b.length
 | [],_,_,_=>so
 |x::a,b,hn,hs=>by obtain⟨h1,h2⟩:=AAf.1 hn;have hx:=hs x AAo;have:=aw a (b.erase x) h2 (λq hq=>(List.mem_erase_of_ne (λe:q=x=>h1 (e▸hq))).2 (hs q (AAQ _ hq)));grind
def nR:List (Nat->Int)->It->Int
 |r::rs,k::ks=>r k+nR rs ks
 |_,_=>0
theorem AS.of:∀(R:List (Nat->Int)) (cs:It) (S:It),cs.length=R.length->cs.Nodup->(∀k∈cs,k∈S)->AS R S (nR R cs)
 | [],[],S,_,_,_=>rfl
 | [],c::cs,S,hl,_,_=>ADq
 |r::R,[],S,hl,_,_=>ADq
 |r::R,k::cs,S,hl,hn,hs=>by obtain⟨h1,h2⟩:=AAf.1 hn;refine⟨k,hs k AAo,nR R cs,AS.of R cs (S.erase k) ADy h2 (λq hq=>?_),rfl⟩;grind
def Zt:Option Int->Option Int->Option Int
 |none,b=>b
 |some x,none=>some x
 |some x,some y=>some (if y<x then y else x)
theorem mK(h:Zt a b=some x):a=some x\/b=some x:=by
 cases a with
 |none=>exact .inr h
 |some y=>cases b with
  |none=>exact .inl h
  |some z=>
   simp only[Zt,Option.some.injEq]at h;grind
theorem rL{y:Int}(h:a=some y):∃z,Zt a b=some z/\z<=y:=by
 subst h;cases b with
 |none=>exact⟨y,rfl,AB6 _⟩
 |some z=>exact⟨_,rfl,J⟩
theorem rM{y:Int}(h:b=some y):∃z,Zt a b=some z/\z<=y:=by
 subst h;cases a with
 |none=>exact⟨y,rfl,AB6 _⟩
 |some z=>exact⟨_,rfl,J⟩
theorem b9(g:Nat->Option Int):∀(l:It)(b:Option Int),
  (∀x,l.foldl (λb k=>Zt b (g k)) b=some x->b=some x\/∃k∈l,g k=some x)/\
  (∀y,b=some y->∃x,l.foldl (λb k=>Zt b (g k)) b=some x/\x<=y)/\
  (∀k∈l,∀y,g k=some y->∃x,l.foldl (λb k=>Zt b (g k)) b=some x/\x<=y)
 | [],b=>⟨λx h=>.inl h,λy h=>⟨y,h,AB6 _⟩,λk hk=>by cases hk⟩
 |k::l,b=>by
  obtain⟨i1,i2,i3⟩:=b9 g l (Zt b (g k));simp only[List.foldl_cons];refine⟨λx hx=>?_,λy hy=>?_,λq hq y hy=>?_⟩
  ·rcases i1 x hx with h|⟨q,hq,e⟩
   ·rcases mK h with h|h
    ·exact .inl h
    ·exact .inr ⟨k,AAo,h⟩
   grind
  ·obtain⟨z,h1,h2⟩:=rL (b:=g k) hy;grind
  ·rcases AAj.1 hq with rfl|hq
   ·obtain⟨z,h1,h2⟩:=rM (a:=b) hy;obtain⟨x,h3,h4⟩:=i2 z h1;exact⟨x,h3,J⟩
   grind
def YN:List (Nat->Int)->It->Option Int
 | [],_=>some 0
 |r::rs,S=>S.foldl (λb k=>Zt b ((YN rs (S.erase k)).map λy=>r k+y)) none
theorem Sz:∀(R:List (Nat->Int)) (S:It),(∀x,YN R S=some x->qi R S x)/\(∀y,AS R S y->∃x,YN R S=some x/\x<=y)
 | [],S=>⟨λx h=>by
   simp only[YN,Option.some.injEq]at h;subst h;exact⟨rfl,λy hy=>by simp only[AS]at hy;omega⟩,λy hy=>⟨0,rfl,by simp only[AS]at hy;omega⟩⟩
 |r::R,S=>by
  obtain⟨f1,_,f3⟩:=b9 (λk=>(YN R (S.erase k)).map λy=>r k+y) S none
  have up:∀y,AS (r::R) S y->∃x,YN (r::R) S=some x/\x<=y:=by
   rintro _ ⟨k,hk,y,hy,rfl⟩
   obtain⟨x,h1,h2⟩:=(Sz R (S.erase k)).2 y hy;obtain⟨z,h3,h4⟩:=f3 k hk (r k+x) (by rw[h1];rfl);exact⟨z,h3,J⟩
  refine⟨λx hx=>⟨?_,λy hy=>?_⟩,up⟩
  ·rcases f1 x hx with h|⟨k,hk,e⟩
   ·cases h
   ·cases hb:YN R (S.erase k)with
    |none=>rw[hb]at e;cases e
    |some y=>
     rw[hb]at e;simp only[ABA,Option.some.injEq]at e;exact⟨k,hk,y,((Sz R (S.erase k)).1 y hb).1,e.symm⟩
  grind
theorem mB(h:qi R S x):YN R S=some x:=by obtain⟨y,h1,h2⟩:=(Sz R S).2 x h.1;rw[h1,((Sz R S).1 y h1).uniq h]
theorem ku(R:List (Nat->Int))(S:It)(hn:S.Nodup)(hl:R.length<=S.length):∃x,YN R S=some x:=by obtain⟨x,h,_⟩:=(Sz R S).2 _ (AS.of R (S.take R.length) S ADb (hn.sublist (List.take_sublist _ _)) (λk hk=>ACC hk));grind
theorem dx(h:YN R S=some x)(hc:∀r∈R,∀k∈S,0<=r k):0<=x:=by
 induction R generalizing S x with
 |nil=>simp only[YN,Option.some.injEq]at h;omega
 |cons r R ih=>
  obtain⟨⟨k,hk,y,hy,rfl⟩,_⟩:=(Sz _ _).1 x h;obtain⟨z,h1,h2⟩:=(Sz R (S.erase k)).2 y hy;have:=ih h1 (λr hr q hq=>hc r (AAQ _ hr) q (ABv hq));have:=hc r AAo k hk;omega
theorem oH{M:Int}(h:YN R S=some x)(hM:0<=M)(hc:∀r∈R,∀k∈S,r k<=M):x<=M*R.length:=by
 induction R generalizing S x with
 |nil=>simp only[YN,Option.some.injEq]at h;simp;omega
 |cons r R ih=>
  obtain⟨⟨k,hk,y,hy,rfl⟩,_⟩:=(Sz _ _).1 x h;obtain⟨z,h1,h2⟩:=(Sz R (S.erase k)).2 y hy;have hl:=((Sz _ _).1 _ h).2 (r k+z) ⟨k,hk,z,((Sz _ _).1 z h1).1,rfl⟩;have i:=ih h1 (λr hr q hq=>hc r (AAQ _ hr) q (ABv hq));have:=hc r AAo k hk;rw[ABH,Int.natCast_add,Int.mul_add];omega
def pk:List (Nat->Int)->It->It
 | [],_=>[]
 |r::rs,S=>match S.find? λk=>(YN rs (S.erase k)).map (λy=>r k+y)==YN (r::rs) S with
  |some k=>k::pk rs (S.erase k)
  |none=>[]
theorem jC{r:Nat->Int}(h:YN (r::R) S=some x):∃k∈S,(S.find? λk=>(YN R (S.erase k)).map (λy=>r k+y)==YN (r::R) S)=some k/\∃y,YN R (S.erase k)=some y/\x=r k+y:=by
 obtain⟨f1,_,_⟩:=b9 (λk=>(YN R (S.erase k)).map λy=>r k+y) S none;rcases f1 x h with h2|⟨k,hk,e⟩
 ·cases h2
 cases hf:S.find? λk=>(YN R (S.erase k)).map (λy=>r k+y)==YN (r::R) S with
 |none=>
  grind
 |some q=>
  have hq:=ACQ hf;refine⟨q,ABo hf,rfl,?_⟩;rw[h]at hq;cases hb:YN R (S.erase q)with
  |none=>grind
  |some y=>
   grind
theorem qe:∀(R:List (Nat->Int)) (S:It),S.Nodup->R.length<=S.length->(pk R S).length=R.length/\(pk R S).Nodup/\∀k∈pk R S,k∈S
 | [],S,_,_=>by simp[pk]
 |r::R,S,hn,hl=>by
  obtain⟨x,hx⟩:=ku (r::R) S hn hl;obtain⟨k,hk,hf,_⟩:=jC hx;have hle:(S.erase k).length=S.length-1:=List.length_erase_of_mem hk;obtain⟨i1,i2,i3⟩:=qe R (S.erase k) (hn.erase k) (by simp at hl;omega);have e:pk (r::R) S=k::pk R (S.erase k):=by simp only[pk,hf]
  grind
structure HF(C:Nat->Nat->Int)(n m:Nat)(u v:Nat->Int):Prop where
 oN:∀r j,1<=r->r<=n->1<=j->j<=m->u r+v j<=C r j
 rS:∀j,1<=j->j<=m->v j<=0
 tI:∀r,1<=r->r<=n->0<=u r
structure HM(m i:Nat)(w:Nat->Int):Prop where
 gT:∀j,1<=j->j<=m->0<=w j/\w j<(i:Int)
 inj:∀j k,1<=j->j<=m->1<=k->k<=m->w j=w k->0<w j->j=k
 rX:∀r:Nat,1<=r->r<i->∃j,1<=j/\j<=m/\w j=(r:Int)
structure HT(C:Nat->Nat->Int)(m:Nat)(u v w:Nat->Int):Prop where
 tight:∀j (r:Nat),1<=j->j<=m->1<=r->w j=(r:Int)->u r+v j=C r j
 free:∀j,1<=j->j<=m->w j=0->v j=0
theorem HM.open(h:HM m i w)(h1:1<=i)(hi:i<=m):∃j,1<=j/\j<=m/\w j=0:=by
 refine AAp λhno=>?_
 have hp:∀j,1<=j->j<=m->0<w j:=λj a b=>by have:=(h.gT j a b).1;grind
 have:=aw ((List.range m).map λk=>(w (k+1)).toNat) (List.range' 1 (i-1)) ?_ ?_
 ·grind
 ·unfold List.Nodup;rw[ABm];refine ACF (fun {a b} ha hb hab e=>?_) (List.pairwise_lt_range (n:=m));rw[AAb]at ha hb;have p1:=hp (a+1) J J;have p2:=hp (b+1) J J;have:=h.inj (a+1) (b+1) J J J J J p1;omega
 ·intro x hx;obtain⟨k,hk,rfl⟩:=AAw.1 hx;rw[AAb]at hk;have p1:=hp (k+1) J J;have p2:=(h.gT (k+1) J J).2;grind
theorem HF.Mg{n:Nat}(hf:HF C n m u v)(ht:HT C m u v w)(hm:HM m i w)(h1:1<=i)(hi:i<=m)(xv:i<=n){M:Int}(hC:∀r j,1<=r->r<=n->1<=j->j<=m->0<=C r j/\C r j<=M):
  (∀r,1<=r->r<=n->0<=u r/\u r<=M)/\∀j,1<=j->j<=m -> -M<=v j/\v j<=0:=by
 obtain⟨f,f1,f2,f3⟩:=hm.open h1 hi
 have hu:∀r,1<=r->r<=n->0<=u r/\u r<=M:=λr a b=>by have:=hf.oN r f a b f1 f2;rw[ht.free f f1 f2 f3]at this;have:=(hC r f a b f1 f2).2;exact⟨hf.tI r a b,J⟩
 refine⟨hu,λj a b=>⟨?_,hf.rS j a b⟩⟩;obtain⟨q1,q2⟩:=hm.gT j a b;by_cases h0:w j=0
 ·rw[ht.free j a b h0];grind
 ·have:=ht.tight j (w j).toNat a b J J;grind
def Ch(P:Nat->Nat->Prop):It->Prop
 | []=>True
 |a::l=>(a=0/\l=[])\/(1<=a/\(∃x∈l,P a x)/\Ch P l)
theorem Ch.mono{P Q:Nat->Nat->Prop}:∀ {l:It},(∀a x,a∈l->x∈l->P a x->Q a x)->Ch P l->Ch Q l
 | [],_,_=>trivial
 |a::l,h,hc=>by
  rcases hc with hc|⟨h1,⟨x,hx,hP⟩,h3⟩
  ·exact .inl hc
  ·exact .inr ⟨h1,⟨x,hx,h a x AAo (AAQ _ hx) hP⟩,Ch.mono (λa x ha hx=>h a x (AAQ _ ha) (AAQ _ hx)) h3⟩
theorem Ch.tail{P:Nat->Nat->Prop}{a:Nat}{l:It}(h:Ch P (a::l)):Ch P l:=by
 rcases h with⟨_,h⟩|⟨_,_,h⟩
 ·rw[h];trivial
 ·exact h
theorem Ch.drop{P:Nat->Nat->Prop}{l:It}:∀ {p:It},Ch P (p++l)->Ch P l
 | [],h=>h
 |a::p,h=>Ch.drop (p:=p) (Ch.tail h)
def Fr(C:Nat->Nat->Int)(u v w fr:Nat->Int)(a x:Nat):Prop:=fr a=(x:Int)/\∃r:Nat,1<=r/\w x=(r:Int)/\u r+v a=C r a
structure HG(C:Nat->Nat->Int)(n m:Nat)(u v w ls fr:Nat->Int)(Q:It)(j0:Nat):Prop where
 hf:HF C n m u v
 ht:HT C m u v w
 tM:j0<=m
 nd:(j0::Q).Nodup
 qm:∀j∈Q,j<=m
 qp:∀j∈Q,1<=w j
 ch:Ch (Fr C u v w fr) (j0::Q)
 l1:∀j,1<=j->j<=m->j∉Q->∀b∈Q,∀r:Nat,w b=(r:Int)->ls j<=C r j-u r-v j
 l2:Q=[]\/∀j,1<=j->j<=m->j∉Q->∃b∈Q,fr j=(b:Int)/\∃r:Nat,1<=r/\w b=(r:Int)/\ls j=C r j-u r-v j
structure HS(C:Nat->Nat->Int)(n m:Nat)(u v w ls fr:Nat->Int)(Q:It):Prop where
 hf:HF C n m u v
 ht:HT C m u v w
 nd:Q.Nodup
 qm:∀j∈Q,j<=m
 qp:∀j∈Q,1<=w j
 ch:Ch (Fr C u v w fr) Q
 l1:∀j,1<=j->j<=m->j∉Q->∀b∈Q,∀r:Nat,w b=(r:Int)->ls j<=C r j-u r-v j
 l2:∀j,1<=j->j<=m->j∉Q->∃b∈Q,fr j=(b:Int)/\∃r:Nat,1<=r/\w b=(r:Int)/\ls j=C r j-u r-v j
theorem HG.scan{C:Nat->Nat->Int}{n m:Nat}{u v w ls fr ls' fr':Nat->Int}{Q:It}{j0:Nat}(h:HG C n m u v w ls fr Q j0){i0:Nat}(hi:1<=i0)(hw:w j0=(i0:Int))
  (hfar:Q=[]->∀j,1<=j->j<=m->C i0 j-u i0-v j<ls j)
  (hused:∀j,j<=m->j∈j0::Q->fr' j=fr j)
  (hnew:∀j,1<=j->j<=m->j∉j0::Q->(C i0 j-u i0-v j<ls j/\ls' j=C i0 j-u i0-v j/\fr' j=(j0:Int))\/(¬C i0 j-u i0-v j<ls j/\ls' j=ls j/\fr' j=fr j)):
  HS C n m u v w ls' fr' (j0::Q):=by
 refine⟨h.hf,h.ht,h.nd,λj hj=>?_,λj hj=>?_,?_,λj a b hj x hx r hr=>?_,λj a b hj=>?_⟩
 ·rcases AAj.1 hj with rfl|hj
  ·exact h.tM
  ·exact h.qm j hj
 ·rcases AAj.1 hj with rfl|hj
  ·omega
  ·exact h.qp j hj
 ·refine h.ch.mono λa x ha hx hP=>⟨?_,hP.2⟩;rw[hused a ?_ ha]
  ·exact hP.1
  ·rcases AAj.1 ha with rfl|ha
   ·exact h.tM
   ·exact h.qm a ha
 ·have hjQ:j∉Q:=λe=>hj (AAQ _ e);rcases hnew j a b hj with⟨h1,h2,h3⟩|⟨h1,h2,h3⟩
  ·rcases AAj.1 hx with rfl|hx
   ·grind
   ·have:=h.l1 j a b hjQ x hx r hr;omega
  ·rcases AAj.1 hx with rfl|hx
   ·grind
   ·rw[h2];exact h.l1 j a b hjQ x hx r hr
 ·have hjQ:j∉Q:=λe=>hj (AAQ _ e);rcases hnew j a b hj with⟨h1,h2,h3⟩|⟨h1,h2,h3⟩
  ·grind
  ·rcases h.l2 with e|e
   all_goals grind
theorem HS.step{C:Nat->Nat->Int}{n m i:Nat}{u v w ls fr u' v' ls':Nat->Int}{Q:It}(h:HS C n m u v w ls fr Q)(hm:HM m i w)(hw0:w 0=(i:Int))(xv:i<=n){d:Int}{j1:Nat}
  (a1:1<=j1) (a2:j1<=m) (a3:j1∉Q) (hd:ls j1=d) (hmin:∀j,1<=j->j<=m->j∉Q->d<=ls j)
  (hu1:∀r:Nat,1<=r->r<=n->(∃b∈Q,w b=(r:Int))->u' r=u r+d)
  (hu2:∀r:Nat,1<=r->r<=n->¬(∃b∈Q,w b=(r:Int))->u' r=u r)
  (hv1:∀j,1<=j->j<=m->j∈Q->v' j=v j-d) (hv2:∀j,1<=j->j<=m->j∉Q->v' j=v j)
  (hl:∀j,1<=j->j<=m->j∉Q->ls' j=ls j-d):0<=d/\HG C n m u' v' w ls' fr Q j1:=by
 have rn:∀b∈Q,∀r:Nat,w b=(r:Int)->1<=r/\r<=n:=λb hb r hr=>by
  have h1:=h.qp b hb;refine⟨J,?_⟩;by_cases hb0:b=0
  ·grind
  ·have:=hm.gT b J (h.qm b hb);omega
 have hd0:0<=d:=by obtain⟨b,hb,_,r,p2,p3,p4⟩:=h.l2 j1 a1 a2 a3;obtain⟨r1,r2⟩:=rn b hb r p3;have:=h.hf.oN r j1 r1 r2 a1 a2;omega
 have inQ:∀j (r:Nat),1<=j->j<=m->j∉Q->1<=r->w j=(r:Int)->¬ ∃b∈Q,w b=(r:Int):=λj r c1 c2 c3 c4 c5=>by
  rintro ⟨b,hb,e⟩
  by_cases hb0:b=0
  ·subst hb0;have:=hm.gT j c1 c2;omega
  ·have:=hm.inj j b c1 c2 J (h.qm b hb) J J;grind
 have tq:∀a x,a∈Q->1<=a->x∈Q->Fr C u v w fr a x->Fr C u' v' w fr a x:=λa x ha ha1 hx hP=>by obtain⟨p1,r,p2,p3,p4⟩:=hP;obtain⟨r1,r2⟩:=rn x hx r p3;refine⟨p1,r,p2,p3,?_⟩;rw[hu1 r r1 r2 ⟨x,hx,p3⟩,hv1 a ha1 (h.qm a ha) ha];omega
 refine⟨hd0,⟨λr j r1 r2 j1 j2=>?_,λj c1 c2=>?_,λr c1 c2=>?_⟩,⟨λj r c1 c2 c3 c4=>?_,λj c1 c2 c3=>?_⟩,a2,AAf.2 ⟨a3,h.nd⟩,h.qm,h.qp,?_,λj c1 c2 hj b hb r hr=>?_,.inr λj c1 c2 hj=>?_⟩
 ·have hf:=h.hf.oN r j r1 r2 j1 j2;by_cases hr:∃b∈Q,w b=(r:Int)
  ·rw[hu1 r r1 r2 hr];by_cases hj:j∈Q
   ·grind
   ·obtain⟨b,hb,e⟩:=hr;have:=h.l1 j j1 j2 hj b hb r e;grind
  ·rw[hu2 r r1 r2 hr];by_cases hj:j∈Q
   all_goals grind
 ·have:=h.hf.rS j c1 c2;by_cases hj:j∈Q
  all_goals grind
 ·have:=h.hf.tI r c1 c2;by_cases hr:∃b∈Q,w b=(r:Int)
  ·grind
  ·rw[hu2 r c1 c2 hr];omega
 ·have ht:=h.ht.tight j r c1 c2 c3 c4;have:=hm.gT j c1 c2;have hrn:r<=n:=J
  by_cases hj:j∈Q
  ·grind
  ·rw[hv2 j c1 c2 hj,hu2 r c3 hrn (inQ j r c1 c2 hj c3 c4)];omega
 ·have hj:j∉Q:=λhj=>No
  rw[hv2 j c1 c2 hj,h.ht.free j c1 c2 c3]
 ·refine .inr ⟨a1,?_,?_⟩
  ·obtain⟨b,hb,p1,r,p2,p3,p4⟩:=h.l2 j1 a1 a2 a3;obtain⟨r1,r2⟩:=rn b hb r p3;refine⟨b,hb,p1,r,p2,p3,?_⟩;grind
  ·have key:∀(l:It),(∀a∈l,a∈Q)->Ch (Fr C u v w fr) l->Ch (Fr C u' v' w fr) l:=by
    intro l
    induction l with
    |nil=>intro _ _;trivial
    |cons a l ih=>
     intro hs hc;rcases hc with hc|⟨h1,⟨x,hx,hP⟩,h3⟩
     ·exact .inl hc
     ·exact .inr ⟨h1,⟨x,hx,tq a x (hs a AAo) h1 (hs x (AAQ _ hx)) hP⟩,ih (λb hb=>hs b (AAQ _ hb)) h3⟩
   exact key Q (λa ha=>ha) h.ch
 ·obtain⟨r1,r2⟩:=rn b hb r hr;have:=h.l1 j c1 c2 hj b hb r hr;rw[hl j c1 c2 hj,hu1 r r1 r2 ⟨b,hb,hr⟩,hv2 j c1 c2 hj];omega
 ·obtain⟨b,hb,p1,r,p2,p3,p4⟩:=h.l2 j c1 c2 hj;obtain⟨r1,r2⟩:=rn b hb r p3;refine⟨b,hb,p1,r,p2,p3,?_⟩;grind
structure HA(C:Nat->Nat->Int)(m i:Nat)(u v fr w:Nat->Int)(j0:Nat)(Q:It):Prop where
 nd:(j0::Q).Nodup
 lm:∀j∈j0::Q,j<=m
 ch:Ch (Fr C u v w fr) (j0::Q)
 inj:∀j k,j<=m->k<=m->j≠j0->k≠j0->w j=w k->0<w j->j=k
 rX:∀r:Nat,1<=r->r<=i->∃j,j<=m/\j≠j0/\w j=(r:Int)
 gT:∀j,j<=m->j≠j0->0<=w j/\w j<=(i:Int)
 tight:∀j (r:Nat),1<=j->j<=m->j≠j0->1<=r->w j=(r:Int)->u r+v j=C r j
 free:∀j,1<=j->j<=m->j≠j0->w j=0->v j=0
theorem HG.wK{n:Nat}{ls fr:Nat->Int}{Q:It}{j0:Nat}(h:HG C n m u v w ls fr Q j0)(hm:HM m i w)(hw0:w 0=(i:Int))(h1:1<=i)(hj:w j0=0):HA C m i u v fr w j0 Q:=by
 have hj0:j0≠0:=λe=>No
 refine⟨h.nd,λj hj=>?_,h.ch,λj k a b c d e f=>?_,λr a b=>?_,λj a b=>?_,λj r a b _ c d=>h.ht.tight j r a b c d,λj a b _ c=>h.ht.free j a b c⟩
 ·rcases AAj.1 hj with rfl|hj
  ·exact h.tM
  ·exact h.qm j hj
 ·by_cases j00:j=0
  ·by_cases k00:k=0
   ·rw[j00,k00]
   ·subst j00;have:=hm.gT k J b;omega
  ·by_cases k00:k=0
   ·subst k00;have:=hm.gT j J a;omega
   ·exact hm.inj j k J a J b e f
 ·by_cases hr:r=i
  ·grind
  ·obtain⟨j,a1,a2,a3⟩:=hm.rX r a J;grind
 ·by_cases j00:j=0
  ·grind
  ·have:=hm.gT j J a;omega
theorem HA.next{fr:Nat->Int}{j0:Nat}{Q:It}(h:HA C m i u v fr w j0 Q)(hj:1<=j0):∃x Q',fr j0=((x:Nat):Int)/\x<=m/\Q'.length<Q.length/\x≠j0/\
  ∀w':Nat->Int,(w' j0=w x)->(∀j,j<=m->j≠j0->w' j=w j)->HA C m i u v fr w' x Q':=by
 rcases h.ch with⟨h0,_⟩|⟨_,⟨x,hx,hP⟩,hc⟩
 ·omega
 obtain⟨p1,r,p2,p3,p4⟩:=hP;obtain⟨pre,Q',hQ⟩:=List.append_of_mem hx;obtain⟨n1,n2⟩:=AAf.1 h.nd;have hxj:x≠j0:=λe=>n1 (e▸hx);have hxm:x<=m:=h.lm x (AAQ _ hx);have sub:∀j∈x::Q',j∈Q:=λj hj=>No
 refine⟨x,Q',p1,hxm,No,hxj,λw' e1 e2=>⟨?_,λj hj=>h.lm j (AAQ _ (sub j hj)),?_,λj k a b c d e f=>?_,λs a b=>?_,λj a b=>?_,λj s a b c d e=>?_,λj a b c d=>?_⟩⟩
 ·grind
 ·have hc2:Ch (Fr C u v w fr) (x::Q'):=by rw[hQ]at hc;exact Ch.drop hc
  refine hc2.mono λa y ha hy hP=>?_;obtain⟨q1,s,q2,q3,q4⟩:=hP;have hyj:y≠j0:=λe=>n1 (e▸sub y hy);exact⟨q1,s,q2,by rw[e2 y (h.lm y (AAQ _ (sub y hy))) hyj,q3],q4⟩
 ·by_cases hj0:j=j0
  ·by_cases hk0:k=j0
   ·rw[hj0,hk0]
   ·rw[hj0,e1,e2 k b hk0]at e;rw[hj0,e1]at f;exact absurd (h.inj x k hxm b hxj hk0 e f).symm d
  ·by_cases hk0:k=j0
   ·rw[hk0,e1,e2 j a hj0]at e;rw[e2 j a hj0]at f;exact absurd (h.inj j x a hxm hj0 hxj e f) c
   ·rw[e2 j a hj0,e2 k b hk0]at e;rw[e2 j a hj0]at f;exact h.inj j k a b hj0 hk0 e f
 ·obtain⟨j,a1,a2,a3⟩:=h.rX s a b;by_cases hjx:j=x
  ·exact⟨j0,h.lm j0 AAo,λe=>hxj e.symm,by rw[e1,<-hjx,a3]⟩
  grind
 ·by_cases hj0:j=j0
  ·rw[hj0,e1];exact h.gT x hxm hxj
  ·rw[e2 j a hj0];exact h.gT j a hj0
 ·by_cases hj0:j=j0
  ·grind
  ·rw[e2 j b hj0]at e;exact h.tight j s a b hj0 d e
 ·by_cases hj0:j=j0
  ·grind
  ·rw[e2 j b hj0]at d;exact h.free j a b hj0 d
theorem HA.done{fr:Nat->Int}{Q:It}(h:HA C m i u v fr w 0 Q):HM m (i+1) w/\HT C m u v w:=
 ⟨⟨λj a b=>by have:=h.gT j b J;omega,λj k a b c d e f=>h.inj j k b d J J e f,λr a b=>by
   obtain⟨j,a1,a2,a3⟩:=h.rX r a J;grind⟩,⟨λj r a b c d=>h.tight j r a b J c d,λj a b c=>h.free j a b J c⟩⟩
def ga(l:By)(i:Nat):Int:=l.getD i 0
theorem S2{l:By}(h:i<l.length):l[i]?=some (ga l i):=by unfold ga;grind
theorem Um{l:By}(h:i<l.length)(x:Int)(j:Nat):ga (l.set i x) j=if j=i then x else ga l j:=by unfold ga;grind
theorem YP(m:Nat)(x:Int)(j:Nat)(h:j<m):ga (List.replicate m x) j=x:=by unfold ga;grind
structure CM(a0:List By)(m:Nat):Prop where
 row:∀r∈a0,r.length=m
 nm:a0.length<=m
 m10:m<=10
 Mg:∀r∈a0,∀x∈r,0<=x/\x<=100000
def cC(a0:List By)(r j:Nat):Int:=ga (a0.getD (r-1) []) (j-1)
theorem CM.at(h:CM a0 m){r:Nat}(r1:1<=r)(r2:r<=a0.length)(j1:1<=j)(j2:j<=m):
  ∃l,Iz a0 (PB ((r:Int)-1))=some l/\Iz l (PB ((j:Int)-1))=some (cC a0 r j)/\0<=cC a0 r j/\cC a0 r j<=100000:=by
 have hm:=h.m10;have hn:=h.nm;have hr:r-1<a0.length:=J
 have e1:PB ((r:Int)-1)=((r-1:Nat):Int):=by rw[PJ J J];omega
 have e2:PB ((j:Int)-1)=((j-1:Nat):Int):=by rw[PJ J J];omega
 have hl:=h.row _ (ABU hr);have hj:j-1<a0[r-1].length:=J
 have e3:cC a0 r j=a0[r-1][j-1]:=by unfold cC ga;rw[List.getD,List.getD,AAM hr,ABB,AAM hj];rfl
 refine⟨a0[r-1],by rw[e1,PA hr],by rw[e2,PA hj,e3],?_⟩;rw[e3];exact h.Mg _ (ABU hr) _ (ABU hj)
theorem HM.congr{w':Nat->Int}(h:HM m i w)(e:∀j,1<=j->j<=m->w' j=w j):HM m i w':=
 ⟨λj a b=>by rw[e j a b];exact h.gT j a b,λj k a b c d=>by rw[e j a b,e k c d];exact h.inj j k a b c d,λr a b=>by
  obtain⟨j,p,q,s⟩:=h.rX r a b;grind⟩
theorem HT.congr{w':Nat->Int}(h:HT C m u v w)(e:∀j,1<=j->j<=m->w' j=w j):HT C m u v w':=
 ⟨λj r a b c d=>h.tight j r a b c No,λj a b c=>h.free j a b No⟩
theorem lN(m:Nat)(hm:m<=10)(n:Nat)(hn:PO<=n):iter n (TK (m:Int)) (0,List.replicate (m+1) 0)=some (((m+1:Nat):Int),List.replicate (m+1) 1099511627776):=by
 have:=Pc (TK (m:Int)) (λi=>((i:Int),List.replicate i 1099511627776++List.replicate (m+1-i) 0)) (m+1) (((m+1:Nat):Int),List.replicate (m+1) 1099511627776) (λi hi=>by
  have hd:decide ((i:Int)<=(m:Int))=true:=by rw[AAh];omega
  have hl:i<(List.replicate i (1099511627776:Int)++List.replicate (m+1-i) 0).length:=ADb
  simp only[TK,hd,ABT,PE hl,ABW,P5,O9 hi J];congr 3;rw[ACK _ _ so,List.length_replicate,ACS,show m+1-i=(m+1-(i+1))+1 by omega,List.replicate_succ,ACc,ACY (n:=i)];simp) (by
  have hd:decide (((m+1:Nat):Int)<=(m:Int))=false:=by rw[AAr];omega
  simp only[TK,hd,ABV];simp) n ADW
 grind
theorem ju{a0:List By}{m i:Nat}(hc:CM a0 m){u v ls fr w:By}{us:ADj}{Q:It}{j0 i0:Nat}(hj0:j0<=m)
  (lu:u.length=a0.length+1) (lv:v.length=m+1) (ll:ls.length=m+1) (lf:fr.length=m+1)
  (hus:∀k,k<=m->(us.set j0 true)[k]?=some (decide (k∈j0::Q))) (hlu:us.length=m+1)
  (hi1:1<=i0) (hi2:i0<=a0.length) (hub:0<=ga u i0/\ga u i0<=100000) (hvb:∀j,1<=j->j<=m -> -100000<=ga v j/\ga v j<=0)
  (n:Nat) (hn:PO<=n):
  ∃(d:Int) (j1:Nat) (ls' fr':By),iter n (Qe a0 (m:Int) ((j0:Int),u,v,ls,fr,us) (i0:Int)) (1099511627776,0,1,ls,fr)=some (d,(j1:Int),((m+1:Nat):Int),ls',fr')/\
   ls'.length=m+1/\fr'.length=m+1/\(∀k,k<=m->k∈j0::Q->ga fr' k=ga fr k)/\
   (∀k,1<=k->k<=m->k∉j0::Q->(cC a0 i0 k-ga u i0-ga v k<ga ls k/\ga ls' k=cC a0 i0 k-ga u i0-ga v k/\ga fr' k=(j0:Int))\/(¬cC a0 i0 k-ga u i0-ga v k<ga ls k/\ga ls' k=ga ls k/\ga fr' k=ga fr k))/\
   (∀k,1<=k->k<=m->k∉j0::Q->d<=ga ls' k)/\((∀k,1<=k->k<=m->k∈j0::Q)\/(1<=j1/\j1<=m/\j1∉j0::Q/\ga ls' j1=d)):=by
 have hm:=hc.m10
 obtain⟨z,⟨d,j1,ls',fr',e,h1⟩,h2⟩:=YF (f:=Qe a0 (m:Int) ((j0:Int),u,v,ls,fr,us) (i0:Int))
  (λx=>∃(d:Int) (j1 j:Nat) (ls' fr':By),x=(d,(j1:Int),(j:Int),ls',fr')/\1<=j/\j<=m+1/\ls'.length=m+1/\fr'.length=m+1/\
   (∀k,j<=k->k<=m->ga ls' k=ga ls k/\ga fr' k=ga fr k)/\(∀k,k<=m->k∈j0::Q->ga fr' k=ga fr k)/\
   (∀k,1<=k->k<j->k∉j0::Q->(cC a0 i0 k-ga u i0-ga v k<ga ls k/\ga ls' k=cC a0 i0 k-ga u i0-ga v k/\ga fr' k=(j0:Int))\/(¬cC a0 i0 k-ga u i0-ga v k<ga ls k/\ga ls' k=ga ls k/\ga fr' k=ga fr k))/\
   (∀k,1<=k->k<j->k∉j0::Q->d<=ga ls' k)/\((d=1099511627776/\∀k,1<=k->k<j->k∈j0::Q)\/(1<=j1/\j1<j/\j1∉j0::Q/\ga ls' j1=d)))
  (λz=>∃(d:Int) (j1:Nat) (ls' fr':By),z=(d,(j1:Int),((m+1:Nat):Int),ls',fr')/\ls'.length=m+1/\fr'.length=m+1/\(∀k,k<=m->k∈j0::Q->ga fr' k=ga fr k)/\
   (∀k,1<=k->k<=m->k∉j0::Q->(cC a0 i0 k-ga u i0-ga v k<ga ls k/\ga ls' k=cC a0 i0 k-ga u i0-ga v k/\ga fr' k=(j0:Int))\/(¬cC a0 i0 k-ga u i0-ga v k<ga ls k/\ga ls' k=ga ls k/\ga fr' k=ga fr k))/\
   (∀k,1<=k->k<=m->k∉j0::Q->d<=ga ls' k)/\((∀k,1<=k->k<=m->k∈j0::Q)\/(1<=j1/\j1<=m/\j1∉j0::Q/\ga ls' j1=d)))
  (λx=>m+1-x.2.2.1.toNat) (λx hx=>by
   obtain⟨d,j1,j,ls',fr',rfl,b1,b2,l1,l2,g1,g2,g3,g4,g5⟩:=hx;by_cases hj:j=m+1
   ·left;have hd:decide ((j:Int)<=(m:Int))=false:=by rw[AAr];omega
    refine⟨(d,(j1:Int),(j:Int),ls',fr'),by simp only[Qe,hd,ABV],d,j1,ls',fr',by rw[hj],l1,l2,g2,λk a b c=>g3 k a J c,λk a b c=>g4 k a J c,?_⟩;rcases g5 with⟨_,g5⟩|⟨p1,p2,p3,p4⟩
    ·exact .inl λk a b=>g5 k a J
    ·exact .inr ⟨p1,J,p3,p4⟩
   ·right;have hjm:j<=m:=J
    have hd:decide ((j:Int)<=(m:Int))=true:=by rw[AAh];omega
    have hu1:=hus j hjm;have hul:j<(us.set j0 true).length:=ADb
    have hw:PB ((j:Int)+1)=((j+1:Nat):Int):=O9 (show j<m+1 by omega) J;have hmu:m+1-((j+1:Nat):Int).toNat<m+1-((j:Nat):Int).toNat:=J
    by_cases hQ:j∈j0::Q
    ·rw[ABY hQ]at hu1;refine⟨(d,(j1:Int),((j+1:Nat):Int),ls',fr'),?_,⟨d,j1,j+1,ls',fr',rfl,J,J,l1,l2,λk a b=>g1 k J b,g2,λk a b c=>g3 k a ?_ c,λk a b c=>g4 k a ?_ c,?_⟩,hmu⟩
     ·simp only[Qe,hd,ABT,ABW,P5,PE hul,hu1,ABS,hw]
     ·by_cases e:k=j
      ·exact absurd (e▸hQ) c
      ·omega
     ·by_cases e:k=j
      ·exact absurd (e▸hQ) c
      ·omega
     ·rcases g5 with⟨p1,p2⟩|⟨p1,p2,p3,p4⟩
      ·refine .inl ⟨p1,λk a b=>?_⟩;by_cases e:k=j
       ·rw[e];exact hQ
       ·exact p2 k a J
      ·exact .inr ⟨p1,J,p3,p4⟩
    ·rw[ABc hQ]at hu1;obtain⟨l,c1,c2,c3,c4⟩:=hc.at hi1 hi2 b1 hjm;have hvj:=hvb j b1 hjm
     have hcur:PB (PB (cC a0 i0 j-ga u i0)-ga v j)=cC a0 i0 j-ga u i0-ga v j:=by rw[PJ (n:=cC a0 i0 j-ga u i0) J J];exact PJ J J
     have i1:OU u (i0:Int)=true:=PE J;have i2:OU v (j:Int)=true:=PE J;have i3:OU ls' (j:Int)=true:=PE J;have i4:OU fr' (j:Int)=true:=PE J;have e1:=S2 (l:=u) (i:=i0) J;have e2:=S2 (l:=v) (i:=j) J;have e3:=S2 (l:=ls') (i:=j) J;obtain⟨g1a,g1b⟩:=g1 j (AAi _) hjm;generalize yW:cC a0 i0 j-ga u i0-ga v j=cur at hcur;have hcb:cur<=200000:=J
     have key:∀(ls2 fr2:By),ls2.length=m+1->fr2.length=m+1->(∀k,k≠j->ga ls2 k=ga ls' k/\ga fr2 k=ga fr' k)->
       ((cur<ga ls j/\ga ls2 j=cur/\ga fr2 j=(j0:Int))\/(¬cur<ga ls j/\ga ls2 j=ga ls j/\ga fr2 j=ga fr j))->(∀d2 j2,(ga ls2 j<d/\d2=ga ls2 j/\j2=j\/¬ga ls2 j<d/\d2=d/\j2=j1)->
       ∃(d':Int) (j1' j':Nat) (ls' fr':By),(d2,((j2:Nat):Int),((j+1:Nat):Int),ls2,fr2)=(d',(j1':Int),(j':Int),ls',fr')/\1<=j'/\j'<=m+1/\ls'.length=m+1/\fr'.length=m+1/\
   (∀k,j'<=k->k<=m->ga ls' k=ga ls k/\ga fr' k=ga fr k)/\(∀k,k<=m->k∈j0::Q->ga fr' k=ga fr k)/\
   (∀k,1<=k->k<j'->k∉j0::Q->(cC a0 i0 k-ga u i0-ga v k<ga ls k/\ga ls' k=cC a0 i0 k-ga u i0-ga v k/\ga fr' k=(j0:Int))\/(¬cC a0 i0 k-ga u i0-ga v k<ga ls k/\ga ls' k=ga ls k/\ga fr' k=ga fr k))/\
   (∀k,1<=k->k<j'->k∉j0::Q->d'<=ga ls' k)/\((d'=1099511627776/\∀k,1<=k->k<j'->k∈j0::Q)\/(1<=j1'/\j1'<j'/\j1'∉j0::Q/\ga ls' j1'=d'))):=by
      intro ls2 fr2 q1 q2 q3 q4 d2 j2 q5;refine⟨d2,j2,j+1,ls2,fr2,rfl,J,J,q1,q2,λk a b=>?_,λk a b=>?_,λk a b c=>?_,λk a b c=>?_,?_⟩
      ·rw[(q3 k J).1,(q3 k J).2];exact g1 k J b
      ·have yF:k≠j:=λe=>hQ (e▸b);rw[(q3 k yF).2];exact g2 k a b
      ·by_cases e:k=j
       ·subst e;rw[yW];exact q4
       ·rw[(q3 k e).1,(q3 k e).2];exact g3 k a J c
      ·by_cases e:k=j
       ·subst e;rcases q5 with⟨p1,p2,p3⟩|⟨p1,p2,p3⟩<;>omega
       ·rw[(q3 k e).1];have:=g4 k a J c;rcases q5 with⟨p1,p2,p3⟩|⟨p1,p2,p3⟩<;>omega
      ·have xz:ga ls2 j<=200000:=by rcases q4 with⟨p1,p2,_⟩|⟨p1,p2,_⟩<;>omega
       rcases q5 with⟨p1,p2,p3⟩|⟨p1,p2,p3⟩
       ·exact .inr ⟨J,J,by rw[p3];exact hQ,by rw[p3,p2]⟩
       ·rcases g5 with⟨r1,r2⟩|⟨r1,r2,r3,r4⟩
        ·omega
        ·exact .inr ⟨J,J,by rw[p3];exact r3,by rw[p3,p2,(q3 j1 J).1,r4]⟩
     by_cases hcl:cur<ga ls j
     ·have hcl':decide (cur<ga ls' j)=true:=by rw[AAh,g1a];exact hcl
      have il:OU (ls'.set j cur) (j:Int)=true:=PE ADb;have el:(ls'.set j cur)[j]?=some cur:=by rw[List.getElem?_set_self J]
      have kk:=key (ls'.set j cur) (fr'.set j (j0:Int)) (by simp[l1]) (by simp[l2]) (λk hk=>⟨by rw[Um J,AAT hk],by rw[Um J,AAT hk]⟩) (.inl ⟨hcl,by rw[Um J,AAS rfl],by rw[Um J,AAS rfl]⟩);rw[Um J,AAS rfl]at kk;by_cases hdl:cur<d
      ·refine⟨(cur,(j:Int),((j+1:Nat):Int),ls'.set j cur,fr'.set j (j0:Int)),?_,kk cur j (.inl ⟨hdl,rfl,rfl⟩),hmu⟩;simp only[Qe,hd,ABT,ABW,P5,PE hul,hu1,ABS,hw,ABV,c1,c2,i1,i2,i3,i4,e1,e2,e3,hcur,hcl',il,el,ABY hdl]
      ·refine⟨(d,(j1:Int),((j+1:Nat):Int),ls'.set j cur,fr'.set j (j0:Int)),?_,kk d j1 (.inr ⟨hdl,rfl,rfl⟩),hmu⟩;simp only[Qe,hd,ABT,ABW,P5,PE hul,hu1,ABS,hw,ABV,c1,c2,i1,i2,i3,i4,e1,e2,e3,hcur,hcl',il,el,ABc hdl]
     ·have hcl':decide (cur<ga ls' j)=false:=by rw[AAr,g1a];exact hcl
      have kk:=key ls' fr' l1 l2 (λk hk=>⟨rfl,rfl⟩) (.inr ⟨hcl,g1a,g1b⟩);by_cases hdl:ga ls' j<d
      ·refine⟨(ga ls' j,(j:Int),((j+1:Nat):Int),ls',fr'),?_,kk (ga ls' j) j (.inl ⟨hdl,rfl,rfl⟩),hmu⟩;simp only[Qe,hd,ABT,ABW,P5,PE hul,hu1,ABS,hw,ABV,c1,c2,i1,i2,i3,i4,e1,e2,e3,hcur,hcl',ABY hdl]
      ·refine⟨(d,(j1:Int),((j+1:Nat):Int),ls',fr'),?_,kk d j1 (.inr ⟨hdl,rfl,rfl⟩),hmu⟩;simp only[Qe,hd,ABT,ABW,P5,PE hul,hu1,ABS,hw,ABV,c1,c2,i1,i2,i3,i4,e1,e2,e3,hcur,hcl',ABc hdl])
  n (1099511627776,0,1,ls,fr) ⟨1099511627776,0,1,ls,fr,rfl,AAi _,J,ll,lf,λk _ _=>⟨rfl,rfl⟩,λk _ _=>rfl,λk a b=>J,λk a b=>J,.inl ⟨rfl,λk a b=>J⟩⟩ (by show m+1-(1:Int).toNat<n;unfold PO at hn;omega)
 grind
theorem lP{N m i:Nat}{u v ls w:By}{us:ADj}{Q:It}{j0:Nat}(hm:m<=10)(fr0:By)(x16:Int×Int×Int×By×By)
  (lu:u.length=N+1) (lv:v.length=m+1) (ll:ls.length=m+1) (lw:w.length=m+1)
  (hus:∀k,k<=m->(us.set j0 true)[k]?=some (decide (k∈j0::Q))) (hlu:us.length=m+1)
  (hw:∀k,k<=m->k∈j0::Q->1<=ga w k/\ga w k<=N) (hinj:∀k b,k<=m->b<=m->k∈j0::Q->b∈j0::Q->ga w k=ga w b->k=b)
  (hd:0<=x16.1/\x16.1<=200000) (hub:∀r,1<=r->r<=N->0<=ga u r/\ga u r<=100000) (hvb:∀j,1<=j->j<=m -> -100000<=ga v j/\ga v j<=0)
  (hlb:∀k,1<=k->k<=m->k∉j0::Q->0<=ga ls k/\ga ls k<=200000) (ls0:By) (h0:0∈j0::Q)
  (n:Nat) (hn:PO<=n):
  ∃(u' v' ls':By),iter n (SD w (m:Int) ((j0:Int),u,v,ls0,fr0,us) x16) (0,u,v,ls)=some (((m+1:Nat):Int),u',v',ls')/\
   u'.length=N+1/\v'.length=m+1/\ls'.length=m+1/\
   (∀r:Nat,1<=r->r<=N->(∃b∈j0::Q,b<=m/\ga w b=(r:Int))->ga u' r=ga u r+x16.1)/\
   (∀r:Nat,1<=r->r<=N->¬(∃b∈j0::Q,b<=m/\ga w b=(r:Int))->ga u' r=ga u r)/\
   (∀j,1<=j->j<=m->j∈j0::Q->ga v' j=ga v j-x16.1)/\(∀j,1<=j->j<=m->j∉j0::Q->ga v' j=ga v j)/\
   (∀j,1<=j->j<=m->j∉j0::Q->ga ls' j=ga ls j-x16.1):=by
 obtain⟨z,⟨j,u',v',ls',e,hje,h1⟩,h2⟩:=YF (f:=SD w (m:Int) ((j0:Int),u,v,ls0,fr0,us) x16)
  (λx=>∃(j:Nat) (u' v' ls':By),x=((j:Int),u',v',ls')/\j<=m+1/\u'.length=N+1/\v'.length=m+1/\ls'.length=m+1/\
   (∀r:Nat,1<=r->r<=N->(∃b∈j0::Q,b<j/\ga w b=(r:Int))->ga u' r=ga u r+x16.1)/\
   (∀r:Nat,1<=r->r<=N->¬(∃b∈j0::Q,b<j/\ga w b=(r:Int))->ga u' r=ga u r)/\
   (∀k,1<=k->k<=m->k∈j0::Q->ga v' k=if k<j then ga v k-x16.1 else ga v k)/\(∀k,1<=k->k<=m->k∉j0::Q->ga v' k=ga v k)/\
   (∀k,1<=k->k<=m->k∉j0::Q->ga ls' k=if k<j then ga ls k-x16.1 else ga ls k))
  (λx=>∃(j:Nat) (u' v' ls':By),x=((j:Int),u',v',ls')/\j=m+1/\u'.length=N+1/\v'.length=m+1/\ls'.length=m+1/\
   (∀r:Nat,1<=r->r<=N->(∃b∈j0::Q,b<j/\ga w b=(r:Int))->ga u' r=ga u r+x16.1)/\
   (∀r:Nat,1<=r->r<=N->¬(∃b∈j0::Q,b<j/\ga w b=(r:Int))->ga u' r=ga u r)/\
   (∀k,1<=k->k<=m->k∈j0::Q->ga v' k=if k<j then ga v k-x16.1 else ga v k)/\(∀k,1<=k->k<=m->k∉j0::Q->ga v' k=ga v k)/\
   (∀k,1<=k->k<=m->k∉j0::Q->ga ls' k=if k<j then ga ls k-x16.1 else ga ls k))
  (λx=>m+1-x.1.toNat) (λx hx=>by
   obtain⟨j,u',v',ls',rfl,b,l1,l2,l3,g1,g2,g3,g4,g5⟩:=hx;by_cases hj:j=m+1
   ·left;have hdd:decide ((j:Int)<=(m:Int))=false:=by rw[AAr];omega
    exact⟨((j:Int),u',v',ls'),by simp only[SD,hdd,ABV],j,u',v',ls',rfl,hj,l1,l2,l3,g1,g2,g3,g4,g5⟩
   ·right;have hjm:j<=m:=J
    have hdd:decide ((j:Int)<=(m:Int))=true:=by rw[AAh];omega
    have hu1:=hus j hjm;have hul:j<(us.set j0 true).length:=ADb
    have hw1:PB ((j:Int)+1)=((j+1:Nat):Int):=O9 (show j<m+1 by omega) J;have hmu:m+1-((j+1:Nat):Int).toNat<m+1-((j:Nat):Int).toNat:=J
    by_cases hQ:j∈j0::Q
    ·rw[ABY hQ]at hu1;obtain⟨w1,w2⟩:=hw j hjm hQ;obtain⟨r,hr⟩:∃r:Nat,ga w j=(r:Int):=⟨(ga w j).toNat,J⟩;have i1:OU w (j:Int)=true:=PE J;have i2:OU u' (r:Int)=true:=PE J;have i3:OU v' (j:Int)=true:=PE J;have e1:=S2 (l:=w) (i:=j) J;rw[hr]at e1;have e2:=S2 (l:=u') (i:=r) J;have e3:=S2 (l:=v') (i:=j) J
     have hnb:¬ ∃b∈j0::Q,b<j/\ga w b=(r:Int):=by
      rintro ⟨b,hb,xz,e⟩
      have:=hinj b j J hjm hb hQ J;omega
     have yG:=g2 r J J hnb;have hub':=hub r J J;refine⟨(((j+1:Nat):Int),u'.set r (PB (ga u' r+x16.1)),v'.set j (PB (ga v' j-x16.1)),ls'),?_,⟨j+1,u'.set r (PB (ga u' r+x16.1)),v'.set j (PB (ga v' j-x16.1)),ls',rfl,J,by simp[l1],by simp[l2],l3,λs s1 s2 hs=>?_,λs s1 s2 hs=>?_,λk k1 k2 hk=>?_,λk k1 k2 hk=>?_,λk k1 k2 hk=>?_⟩,hmu⟩
     ·simp only[SD,hdd,ABT,ABW,P5,PE hul,hu1,ABS,hw1,i1,i2,i3,e1,e2,e3]
     ·rw[Um J];by_cases e:s=r
      ·rw[AAS e,e,PJ J J];omega
      ·rw[AAT e];obtain⟨b,hb,xz,eb⟩:=hs;have hbj:b≠j:=λe2=>by rw[e2,hr]at eb;omega
       exact g1 s s1 s2 ⟨b,hb,J,eb⟩
     ·have e:s≠r:=λe=>hs ⟨j,hQ,J,by rw[hr,e]⟩;rw[Um J,AAT e];exact g2 s s1 s2 λ⟨b,hb,xz,eb⟩=>hs ⟨b,hb,J,eb⟩
     ·rw[Um J];by_cases e:k=j
      ·have h3:=g3 k k1 k2 hk;rw[AAT J]at h3;have:=hvb k k1 k2;rw[AAS e,AAS J,<-e,h3,PJ J J]
      ·rw[AAT e,g3 k k1 k2 hk];by_cases e2:k<j
       ·rw[AAS e2,AAS J]
       ·rw[AAT e2,AAT J]
     ·have e:k≠j:=λe=>hk (e▸hQ);rw[Um J,AAT e];exact g4 k k1 k2 hk
     ·have e:k≠j:=λe=>hk (e▸hQ);rw[g5 k k1 k2 hk];by_cases e2:k<j
      ·rw[AAS e2,AAS J]
      ·rw[AAT e2,AAT J]
    ·rw[ABc hQ]at hu1
     have hj1:1<=j:=by
      rcases Nat.eq_zero_or_pos j with e|e
      ·exact absurd (e▸h0) hQ
      ·exact e
     have i3:OU ls' (j:Int)=true:=PE J;have e3:=S2 (l:=ls') (i:=j) J;have h5:=g5 j hj1 hjm hQ;rw[AAT J]at h5;have hlb':=hlb j hj1 hjm hQ
     have sm:∀r:Nat,(∃b∈j0::Q,b<j+1/\ga w b=(r:Int))↔∃b∈j0::Q,b<j/\ga w b=(r:Int):=λr=>
      ⟨λ⟨b,hb,h1,h2⟩=>⟨b,hb,by
       have:b≠j:=λe=>hQ (e▸hb);omega,h2⟩,λ⟨b,hb,h1,h2⟩=>⟨b,hb,J,h2⟩⟩
     refine⟨(((j+1:Nat):Int),u',v',ls'.set j (PB (ga ls' j-x16.1))),?_,⟨j+1,u',v',ls'.set j (PB (ga ls' j-x16.1)),rfl,J,l1,l2,by simp[l3],λs s1 s2 hs=>g1 s s1 s2 ((sm s).1 hs),λs s1 s2 hs=>g2 s s1 s2 λh=>hs ((sm s).2 h),λk k1 k2 hk=>?_,g4,λk k1 k2 hk=>?_⟩,hmu⟩
     ·simp only[SD,hdd,ABT,ABV,ABW,P5,PE hul,hu1,ABS,hw1,i3,e3]
     ·have e:k≠j:=λe=>hQ (e▸hk);rw[g3 k k1 k2 hk];by_cases e2:k<j
      ·rw[AAS e2,AAS J]
      ·rw[AAT e2,AAT J]
     ·rw[Um J];by_cases e:k=j
      ·rw[AAS e,AAS J,e,h5,PJ J J]
      ·rw[AAT e,g5 k k1 k2 hk];by_cases e2:k<j
       ·rw[AAS e2,AAS J]
       ·rw[AAT e2,AAT J])
  n (0,u,v,ls) ⟨0,u,v,ls,rfl,J,lu,lv,ll,λr _ _ h=>by obtain⟨b,_,hb,_⟩:=h;omega,λr _ _ _=>rfl,λk _ _ _=>by rw[AAT J],λk _ _ _=>rfl,λk _ _ _=>by rw[AAT J]⟩ (by show m+1-(0:Int).toNat<n;unfold PO at hn;omega)
 obtain⟨l1,l2,l3,g1,g2,g3,g4,g5⟩:=h1;subst hje;refine⟨u',v',ls',by rw[h2,e],l1,l2,l3,λr r1 r2 ⟨b,hb,hbm,eb⟩=>g1 r r1 r2 ⟨b,hb,J,eb⟩,λr r1 r2 h=>g2 r r1 r2 λ⟨b,hb,hbm,eb⟩=>h ⟨b,hb,J,eb⟩,λj j1 j2 hj=>?_,g4,λj j1 j2 hj=>?_⟩
 all_goals grind
theorem Ud{α γ:Type}{f:α->Option (α⊕γ)}(R:Nat->α->Prop)(S:γ->Prop)
  (h:∀k x,R k x->(∃z,f x=some (.inr z)/\S z)\/(∃x' k',f x=some (.inl x')/\R k' x'/\k'<k)):
  ∀n k x,R k x->k<n->∃z,S z/\iter n f x=some z:=by
 intro n
 induction n with
 |zero=>omega
 |succ n ih=>
  intro k x hR hn;rcases h k x hR with⟨z,h1,h3⟩|⟨x',k',h1,h3,h4⟩
  ·exact⟨z,h3,Pr h1 n⟩
  ·obtain⟨z,h5,h6⟩:=ih k' x' h3 J;exact⟨z,h5,(Ru h1 n).trans h6⟩
theorem Ch.zero{P:Nat->Nat->Prop}:∀ {a:Nat} {l:It},Ch P (a::l)->0∈a::l
 |a,[],h=>by
  rcases h with⟨h,_⟩|⟨_,⟨x,hx,_⟩,_⟩
  all_goals grind
 |a,b::l,h=>by
  rcases h with⟨_,h⟩|⟨_,_,h⟩
  ·cases h
  ·exact AAQ _ (Ch.zero h)
theorem jv{a0:List By}{m i:Nat}(hc:CM a0 m){w:By}(lw:w.length=m+1)(hm:HM m i (ga w))(hw0:ga w 0=(i:Int))(h1i:1<=i)(hiN:i<=a0.length)(n:Nat)(hn:PO<=n)
  {u v ls fr:By} {us:ADj} {j0:Nat} {Q:It} (lu:u.length=a0.length+1) (lv:v.length=m+1) (ll:ls.length=m+1) (lf:fr.length=m+1) (qP:us.length=m+1)
  (hG:HG (cC a0) a0.length m (ga u) (ga v) (ga w) (ga ls) (ga fr) Q j0) (hu:∀k,k<=m->us[k]?=some (decide (k∈Q))) (rB:1<=ga w j0) (hfar:Q=[]->∀k,k<=m->ga ls k=1099511627776):
  ∃(j1:Nat) (u' v' ls' fr':By),u'.length=a0.length+1/\v'.length=m+1/\ls'.length=m+1/\fr'.length=m+1/\HG (cC a0) a0.length m (ga u') (ga v') (ga w) (ga ls') (ga fr') (j0::Q) j1/\
   (∀k,k<=m->(us.set j0 true)[k]?=some (decide (k∈j0::Q)))/\0<=ga w j1/\(j0::Q).length<=m+1/\
   SC n a0 w (m:Int) ((j0:Int),u,v,ls,fr,us)=bif ga w j1==0 then some (.inr ((j1:Int),u',v',ls',fr',us.set j0 true))else some (.inl ((j1:Int),u',v',ls',fr',us.set j0 true)):=by
 have hm10:=hc.m10;have hnm:=hc.nm;have hj0:=hG.tM
 obtain⟨bu,bv⟩:=hG.hf.Mg hG.ht hm h1i J hiN (M:=100000) (λr j r1 r2 j1 j2=>by
  obtain⟨_,_,_,p,q⟩:=hc.at r1 r2 j1 j2;omega)
 have wle:∀k,k<=m->ga w k<=(a0.length:Int):=λk hk=>by
  by_cases e:k=0
  ·grind
  ·have:=hm.gT k ADV hk;omega
 obtain⟨i0,hi0⟩:∃i0:Nat,ga w j0=(i0:Int):=⟨(ga w j0).toNat,J⟩;have hi01:1<=i0:=ADV
 have hi02:i0<=a0.length:=by have:=wle j0 hj0;clear hn;omega
 have zm:∀k,k<=m->(us.set j0 true)[k]?=some (decide (k∈j0::Q)):=λk hk=>No
 obtain⟨d,j1,ls',fr',s1,l1,l2,s2,s3,s4,s5⟩:=ju (i:=i) hc (w:=w) hj0 lu lv ll lf zm qP hi01 hi02 (bu i0 hi01 hi02) bv n hn
 have hfar2:Q=[]->∀j,1<=j->j<=m->cC a0 i0 j-ga u i0-ga v j<ga ls j:=λe j a b=>by rw[hfar e j b];obtain⟨_,_,_,p,q⟩:=hc.at hi01 hi02 a b;grind
 have hS:HS (cC a0) a0.length m (ga u) (ga v) (ga w) (ga ls') (ga fr') (j0::Q):=hG.scan hi01 hi0 hfar2 s2 s3
 have rN:∀b∈j0::Q,∀r:Nat,ga w b=(r:Int)->1<=r/\r<=a0.length:=λb hb r hr=>by have:=hS.qp b hb;have:=wle b (hS.qm b hb);omega
 have hlb:∀k,1<=k->k<=m->k∉j0::Q->0<=ga ls' k/\ga ls' k<=200000:=λk a b c=>by obtain⟨q,hq,_,r,r1,r2,r3⟩:=hS.l2 k a b c;obtain⟨p1,p2⟩:=rN q hq r r2;have:=hS.hf.oN r k p1 p2 a b;obtain⟨_,_,_,p,q⟩:=hc.at p1 p2 a b;have:=bu r p1 p2;have:=bv k a b;omega
 rcases s5 with s5|⟨a1,a2,a3,a4⟩
 ·obtain⟨f,f1,f2,f3⟩:=hm.open h1i ADV;grind
 have hdb:=hlb j1 a1 a2 a3;rw[a4]at hdb
 have hinj:∀k b,k<=m->b<=m->k∈j0::Q->b∈j0::Q->ga w k=ga w b->k=b:=λk b c1 c2 c3 c4 c5=>by
  have p1:=hS.qp k c3;by_cases k0:k=0
  ·by_cases b0:b=0
   ·omega
   ·have:=hm.gT b ADV c2;grind
  ·by_cases b0:b=0
   ·have:=hm.gT k ADV c1;grind
   ·exact hm.inj k b J c1 J c2 c5 J
 have h00:0∈j0::Q:=Ch.zero hG.ch;obtain⟨u',v',ls'',t1,t2,t3,t4,t5,t6,t7,t8,t9⟩:=lP (m:=m) (i:=i) (u:=u) (v:=v) (ls:=ls') (w:=w) hm10 fr (d,(j1:Int),((m+1:Nat):Int),ls',fr') lu lv l1 lw zm qP (λk a b=>⟨hS.qp k b,wle k a⟩) hinj hdb bu bv hlb ls h00 n hn;obtain⟨hd0,hG'⟩:=hS.step (u':=ga u') (v':=ga v') (ls':=ga ls'') hm hw0 hiN a1 a2 a3 a4 s4 (λr r1 r2 ⟨b,hb,eb⟩=>t5 r r1 r2 ⟨b,hb,hS.qm b hb,eb⟩) (λr r1 r2 h=>t6 r r1 r2 λ⟨b,hb,_,eb⟩=>h ⟨b,hb,eb⟩) t7 t8 t9;have i1:OU us (j0:Int)=true:=PE J;have i2:OU w (j0:Int)=true:=PE J;have i3:OU w (j1:Int)=true:=PE J;have e2:=S2 (l:=w) (i:=j0) J;have e3:=S2 (l:=w) (i:=j1) J;rw[hi0]at e2
 have hlen:(j0::Q).length<=m+1:=by have:=aw (j0::Q) (List.range (m+1)) hS.nd (λx hx=>by rw[AAb];have:=hS.qm x hx;omega);simpa using this
 refine⟨j1,u',v',ls'',fr',t2,t3,t4,l2,hG',zm,(hm.gT j1 a1 a2).1,hlen,?_⟩;simp only[SC,i1,i2,i3,ABT,ABW,e2,e3,ABS,s1,t1,P5]
abbrev GT:=Int×By×By×By×By×ADj
structure GS(a0:List By)(m:Nat)(w:By)(k:Nat)(x:GT)(j0:Nat)(Q:It):Prop where
 j:x.1=(j0:Int)
 lu:x.2.1.length=a0.length+1
 lv:x.2.2.1.length=m+1
 ll:x.2.2.2.1.length=m+1
 lf:x.2.2.2.2.1.length=m+1
 qP:x.2.2.2.2.2.length=m+1
 hG:HG (cC a0) a0.length m (ga x.2.1) (ga x.2.2.1) (ga w) (ga x.2.2.2.1) (ga x.2.2.2.2.1) Q j0
 hu:∀k,k<=m->x.2.2.2.2.2[k]?=some (decide (k∈Q))
 rB:1<=ga w j0
 hfar:Q=[]->∀k,k<=m->ga x.2.2.2.1 k=1099511627776
 hk:k+Q.length=m+1
structure GE(a0:List By)(m:Nat)(w:By)(x:GT)(j0:Nat)(Q:It):Prop where
 j:x.1=(j0:Int)
 lu:x.2.1.length=a0.length+1
 lv:x.2.2.1.length=m+1
 lf:x.2.2.2.2.1.length=m+1
 hG:HG (cC a0) a0.length m (ga x.2.1) (ga x.2.2.1) (ga w) (ga x.2.2.2.1) (ga x.2.2.2.2.1) Q j0
 hz:ga w j0=0
theorem lO(hc:CM a0 m){w:By}(lw:w.length=m+1)(hm:HM m i (ga w))(hw0:ga w 0=(i:Int))(h1i:1<=i)(hiN:i<=a0.length)(n:Nat)(hn:PO<=n)(k:Nat)(x:GT)(hx:∃j0 Q,GS a0 m w k x j0 Q):
  (∃z,SC n a0 w (m:Int) x=some (.inr z)/\∃j0 Q,GE a0 m w z j0 Q)\/(∃x' k',SC n a0 w (m:Int) x=some (.inl x')/\(∃j0 Q,GS a0 m w k' x' j0 Q)/\k'<k):=by
 obtain⟨x1,u,v,ls,fr,us⟩:=x;obtain⟨j0,Q,⟨j,lu,lv,ll,lf,qP,hG,hu,rB,hfar,hk⟩⟩:=hx;dsimp only at j lu lv ll lf qP hG hu hfar;subst j;obtain⟨j1,u',v',ls',fr',t2,t3,t4,l2,hG',zm,hw1,hlen,hstep⟩:=jv hc lw hm hw0 h1i hiN n hn lu lv ll lf qP hG hu rB hfar;clear hG hu hfar hn;rw[ABH]at hlen;by_cases hz:ga w j1=0
 ·rw[show(ga w j1==0)=true by grind,ABT]at hstep;exact .inl ⟨_,hstep,j1,j0::Q,⟨rfl,t2,t3,l2,hG',hz⟩⟩
 ·rw[show(ga w j1==0)=false by grind,ABV]at hstep;have h1:1<=ga w j1:=by clear hstep hG' zm;omega
  exact .inr ⟨_,k-1,hstep,⟨j1,j0::Q,⟨rfl,t2,t3,t4,l2,No,hG',zm,h1,(λh=>nomatch h),No⟩⟩,J⟩
theorem jt{a0:List By}{m i:Nat}(hc:CM a0 m){w:By}(lw:w.length=m+1)(hm:HM m i (ga w))(hw0:ga w 0=(i:Int))(h1i:1<=i)(hiN:i<=a0.length)(n:Nat)(hn:PO<=n)
  {u v ls fr:By} {us:ADj} (lu:u.length=a0.length+1) (lv:v.length=m+1) (ll:ls.length=m+1) (lf:fr.length=m+1) (qP:us.length=m+1)
  (hf:HF (cC a0) a0.length m (ga u) (ga v)) (ht:HT (cC a0) m (ga u) (ga v) (ga w)) (zd:∀k,k<=m->ga ls k=1099511627776) (hus:∀k,k<=m->us[k]?=some false):
  ∃z,(∃j0 Q,GE a0 m w z j0 Q)/\iter n (SC n a0 w (m:Int)) (0,u,v,ls,fr,us)=some z:=by
 have hm10:=hc.m10
 have h0:GS a0 m w (m+1) (0,u,v,ls,fr,us) 0 []:=
  ⟨rfl,lu,lv,ll,lf,qP,⟨hf,ht,J,so,so,so,.inl ⟨rfl,rfl⟩,λ_ _ _ _ b hb=>(nomatch hb),.inl rfl⟩,λk hk=>No,J,λ_=>zd,so⟩
 exact Ud (λk x=>∃j0 Q,GS a0 m w k x j0 Q) (λz=>∃j0 Q,GE a0 m w z j0 Q) (lO hc lw hm hw0 h1i hiN n hn) n (m+1) _ ⟨0,[],h0⟩ ADW
theorem lM{C:Nat->Nat->Int}{m i:Nat}{u v fr:By}(x27:Int×By×By×By×By×ADj)(hx:x27.2.2.2.2.1=fr)(lf:fr.length=m+1)(n:Nat)(hn:PO<=n){w:By}(lw:w.length=m+1){j0:Nat}{Q:It}(hm:m<=10)
  (h:HA C m i (ga u) (ga v) (ga fr) (ga w) j0 Q):∃z,(∃w' Q',z=((0:Int),w')/\w'.length=m+1/\HA C m i (ga u) (ga v) (ga fr) (ga w') 0 Q')/\iter n (VR x27) ((j0:Int),w)=some z:=by
 refine Ud (λk x=>∃(j0:Nat) (Q:It) (w:By),x=((j0:Int),w)/\w.length=m+1/\HA C m i (ga u) (ga v) (ga fr) (ga w) j0 Q/\k=Q.length) _ (λk x hx'=>?_) n Q.length ((j0:Int),w) ⟨j0,Q,w,rfl,lw,h,rfl⟩ ?_
 ·obtain⟨j0,Q,w,rfl,lw,h,rfl⟩:=hx';by_cases hj:j0=0
  ·left;subst hj;exact⟨((0:Int),w),by simp[VR],w,Q,rfl,lw,h⟩
  ·right;have hjm:j0<=m:=h.lm j0 AAo;obtain⟨x,Q',p1,p2,p3,p4,p5⟩:=h.next J;have yF:((j0:Int) != 0)=true:=ADb
   have i1:OU fr (j0:Int)=true:=PE J;have i2:OU w (x:Int)=true:=PE J;have i3:OU w (j0:Int)=true:=PE J;have e1:=S2 (l:=fr) (i:=j0) J;have e2:=S2 (l:=w) (i:=x) J;rw[p1]at e1;refine⟨((x:Int),w.set j0 (ga w x)),Q'.length,?_,⟨x,Q',w.set j0 (ga w x),rfl,by simp[lw],p5 _ ?_ (λj a b=>?_),rfl⟩,p3⟩
   ·simp only[VR,yF,ABT,hx,i1,i2,i3,ABW,e1,e2,ABS,P5]
   ·rw[Um J,AAS rfl]
   ·rw[Um J,AAT b]
 ·have:=aw Q (List.range (m+1)) (AAf.1 h.nd).2 (λx hx=>by rw[AAb];have:=h.lm x (AAQ _ hx);omega);simp at this;unfold PO at hn;omega
theorem nC{a0:List By}{m i:Nat}(hc:CM a0 m){u v w:By}(lu:u.length=a0.length+1)(lv:v.length=m+1)(lw:w.length=m+1)(h1i:1<=i)(hiN:i<=a0.length)
  (hf:HF (cC a0) a0.length m (ga u) (ga v)) (ht:HT (cC a0) m (ga u) (ga v) (ga w)) (hm:HM m i (ga w)) (hw0:ga w 0=(i:Int)) (n:Nat) (hn:PO<=n):
  ∃u' v' w',ZW n a0 u v w (m:Int)=some (u',v',w')/\u'.length=a0.length+1/\v'.length=m+1/\w'.length=m+1/\HF (cC a0) a0.length m (ga u') (ga v')/\HT (cC a0) m (ga u') (ga v') (ga w')/\HM m (i+1) (ga w'):=by
 have hm10:=hc.m10;have e0:PB ((m:Int)+1)=((m+1:Nat):Int):=O9 (show m<m+1 by omega) J
 have g0:(decide (0<=((m+1:Nat):Int))&&decide (((m+1:Nat):Int)<=(E8:Int))&&decide (((m+1:Nat):Int)=((m+1:Nat):Int)))=true:=by rw[ABY (show 0<=((m+1:Nat):Int) by omega),ABY (show((m+1:Nat):Int)<=(E8:Int) by unfold E8;omega)];simp
 obtain⟨⟨x1,u',v',ls,fr,us⟩,⟨j0,Q,⟨j,lu',lv',lf',hG,hz⟩⟩,h2⟩:=jt hc lw hm hw0 h1i hiN n hn (ls:=List.replicate (m+1) 1099511627776) (fr:=List.replicate (m+1) 0) (us:=List.replicate (m+1) false) lu lv so so so hf ht (λk hk=>YP _ _ _ J) (λk hk=>by grind);dsimp only at j lu' lv' lf' hG;subst j;obtain⟨z2,⟨w',Q',rfl,lw',hA⟩,h3⟩:=lM (fr:=fr) ((j0:Int),u',v',ls,fr,us) rfl lf' n hn lw hm10 (hG.wK hm hw0 h1i hz);obtain⟨d1,d2⟩:=hA.done;refine⟨u',v',w',?_,lu',lv',lw',hG.hf,d2,d1⟩;unfold ZW;rw[e0,g0];simp only[ABT,ABW,lN m hm10 n hn,ABS,h2,h3]
def PU(a0:List By):List (Nat->Int):=a0.map ga
theorem iG(a0:List By){r:Nat}(h:r<a0.length)(k:Nat):((PU a0)[r]'(by simp only[PU,ABp];exact h)) k=cC a0 (r+1) (k+1):=by have e:(a0.map ga)[r]'(by simpa using h)=ga a0[r]:=ABi ..;show((a0.map ga)[r]'(by simpa using h)) k=_;rw[e];unfold cC;grind
theorem mG{P:Nat->Nat->Prop}:∀N:Nat,(∀r,r<N->∃k,P r k)->∃cs:It,cs.length=N/\∀r (h:r<cs.length),P r cs[r]
 |0,_=>⟨[],rfl,λr h=>ADf⟩
 |N+1,h=>by obtain⟨cs,h1,h2⟩:=mG N (λr hr=>h r J);obtain⟨k,hk⟩:=h N J;refine⟨cs++[k],by simp[h1],λr hr=>?_⟩;grind
theorem kC(f:Nat->Int):∀(R:List (Nat->Int)) (cs:It),cs.length=R.length->(∀r (h1:r<R.length) (h2:r<cs.length),R[r] cs[r]=f cs[r])->nR R cs=Qy (cs.map f)
 | [],[],_,_=>rfl
 | [],c::cs,h,_=>ADf
 |r::R,[],h,_=>ADf
 |r::R,c::cs,h,he=>by
  have h0:=he 0 so so;simp only[ACI]at h0;simp only[nR,ABI,Qy]
  rw[h0,kC f R cs ADh (λr h1 h2=>by
   have:=he (r+1) ADb ADb;simpa only[List.getElem_cons_succ]using this)]
theorem mY(f h:Nat->Int):∀(cs:It)(u:By),u.length=cs.length->(∀r (h1:r<cs.length) (h2:r<u.length),f cs[r]=u[r]+h cs[r])->Qy (cs.map f)=Qy u+Qy (cs.map h)
 | [],[],_,_=>rfl
 | [],c::cs,h,_=>ADf
 |r::R,[],h,_=>ADf
 |c::cs,x::u,hl,he=>by
  have h0:=he 0 so so;simp only[ACI]at h0
  have:=mY f h cs u No (λr h1 h2=>by
   have:=he (r+1) ADb ADb;grind)
  simp only[ABI,Qy];omega
theorem ec(hc:CM a0 m)(n:Nat)(hn:PO<=n):∃s,Tf n a0=some s/\qi (PU a0) (List.range m) s:=by
 have hm10:=hc.m10;have hnm:=hc.nm;by_cases h0:a0.length=0
 ·have:a0=[]:=AAU h0;subst this;exact⟨0,by simp[Tf],rfl,λy hy=>by simp only[PU,List.map_nil,AS]at hy;omega⟩
 have hg0:Iz a0 0=some a0[0]:=PA (show 0<a0.length by omega);have zQ:a0[0].length=m:=hc.row _ (ABU (show 0<a0.length by omega));have yF:((a0.length:Int)==0)=false:=by simp;intro h;exact h0 (by simp[h])
 have e0:∀k:Nat,k<=10->PB ((k:Int)+1)=((k+1:Nat):Int)/\(decide (0<=((k+1:Nat):Int))&&decide (((k+1:Nat):Int)<=(E8:Int))&&decide (((k+1:Nat):Int)=((k+1:Nat):Int)))=true:=λk hk=>by refine⟨O9 (show k<k+1 by omega) J,?_⟩;rw[ABY (show 0<=((k+1:Nat):Int) by omega),ABY (show((k+1:Nat):Int)<=(E8:Int) by unfold E8;omega)];simp
 obtain⟨z,⟨u,v,w,rfl,lu,lv,lw,hf,ht,hm⟩,hz⟩:=Ud (f:=UN n a0 a0[0])
  (λk x=>∃(i:Nat) (u v w:By),x=((i:Int),u,v,w)/\1<=i/\k+i=a0.length+1/\u.length=a0.length+1/\v.length=m+1/\w.length=m+1/\HF (cC a0) a0.length m (ga u) (ga v)/\HT (cC a0) m (ga u) (ga v) (ga w)/\HM m i (ga w))
  (λz=>∃(u v w:By),z=(((a0.length+1:Nat):Int),u,v,w)/\u.length=a0.length+1/\v.length=m+1/\w.length=m+1/\HF (cC a0) a0.length m (ga u) (ga v)/\HT (cC a0) m (ga u) (ga v) (ga w)/\HM m (a0.length+1) (ga w))
  (λk x hx=>by
   obtain⟨i,u,v,w,rfl,h1,hk,lu,lv,lw,hf,ht,hm⟩:=hx;by_cases hi:i=a0.length+1
   ·left;subst hi;have hd:decide (((a0.length+1:Nat):Int)<=(a0.length:Int))=false:=by rw[AAr];omega
    exact⟨_,by simp only[UN,hd,ABV],u,v,w,rfl,lu,lv,lw,hf,ht,hm⟩
   ·right;have hd:decide ((i:Int)<=(a0.length:Int))=true:=by rw[AAh];omega
    have i0:OU w 0=true:=PE (show 0<w.length by omega);have hs:∀j,1<=j->j<=m->ga (w.set 0 (i:Int)) j=ga w j:=λj a b=>by rw[Um J,AAT J]
    obtain⟨u',v',w',g1,g2,g3,g4,g5,g6,g7⟩:=nC hc lu lv (w:=w.set 0 (i:Int)) (by simp[lw]) h1 J hf (ht.congr hs) (hm.congr hs) (by rw[Um J,AAS rfl]) n hn;refine⟨(((i+1:Nat):Int),u',v',w'),k-1,?_,⟨i+1,u',v',w',rfl,J,J,g2,g3,g4,g5,g6,g7⟩,J⟩;simp only[UN,hd,ABT,i0,P5,zQ,g1,ABS,O9 (show i<a0.length+1 by omega) J,ACd])
  n a0.length (1,List.replicate (a0.length+1) 0,List.replicate (m+1) 0,List.replicate (m+1) 0) ⟨1,_,_,_,rfl,J,rfl,so,so,so,⟨λr j r1 r2 j1 j2=>by
   rw[YP _ _ _ J,YP _ _ _ J];obtain⟨_,_,_,p,_⟩:=hc.at r1 r2 j1 j2;omega,λj a b=>by rw[YP _ _ _ J];omega,λr a b=>by rw[YP _ _ _ J];omega⟩,⟨λj r a b c d=>by rw[YP _ _ _ J]at d;omega,λj a b c=>YP _ _ _ J⟩,⟨λj a b=>by rw[YP _ _ _ J];omega,λj k a b c d e f=>by rw[YP _ _ _ J]at f;omega,λr a b=>J⟩⟩ ADW
 let f:Nat->Int:=λk=>if 0<ga w (k+1)then cC a0 (ga w (k+1)).toNat (k+1)else 0
 have fdef:∀k,f k=if 0<ga w (k+1)then cC a0 (ga w (k+1)).toNat (k+1)else 0:=λk=>rfl
 clear_value f
 have fb:∀k,k<m->0<=f k/\f k<=100000:=λk hk=>by
  rw[fdef];by_cases h:0<ga w (k+1)
  ·rw[AAS h];have:=hm.gT (k+1) J J;obtain⟨_,_,_,p,q⟩:=hc.at (r:=(ga w (k+1)).toNat) (j:=k+1) J J J J;exact⟨p,q⟩
  omega
 have sb:∀k:Nat,k<=m->0<=Qy ((List.range k).map f)/\Qy ((List.range k).map f)<=100000*(k:Int):=by
  intro k
  induction k with
  |zero=>intro _;simp[Qy]
  |succ k ih=>
   intro hk;obtain⟨p,q⟩:=ih J;have:=fb k J;rw[ACB,List.map_append,fZ];simp only[ABI,List.map_nil,Qy];omega
 have hsum:iter n (RW a0 a0[0] (((a0.length+1:Nat):Int),u,v,w)) (0,1)=some (Qy ((List.range m).map f),((m+1:Nat):Int)):=by
  have:=Pc (RW a0 a0[0] (((a0.length+1:Nat):Int),u,v,w)) (λk=>(Qy ((List.range k).map f),((k+1:Nat):Int))) m (Qy ((List.range m).map f),((m+1:Nat):Int)) (λk hk=>by
   have hd:decide (((k+1:Nat):Int)<=(a0[0].length:Int))=true:=by rw[AAh];omega
   have i1:OU w ((k+1:Nat):Int)=true:=PE J;have e1:=S2 (l:=w) (i:=k+1) J;have hw1:PB (((k+1:Nat):Int)+1)=((k+1+1:Nat):Int):=O9 (show k+1<m+1 by omega) J
   have hS:Qy ((List.range (k+1)).map f)=Qy ((List.range k).map f)+f k:=by rw[ACB,List.map_append,fZ];simp[Qy]
   by_cases h:0<ga w (k+1)
   ·have hdw:decide (ga w (k+1)>0)=true:=ABY h;have hfk:f k=cC a0 (ga w (k+1)).toNat (k+1):=No
    have:=hm.gT (k+1) J J;obtain⟨l,c1,c2,_,_⟩:=hc.at (r:=(ga w (k+1)).toNat) (j:=k+1) J J J J;have hcast:(((ga w (k+1)).toNat:Nat):Int)=ga w (k+1):=J
    rw[hcast]at c1;have b1:=sb k J;have b2:=fb k hk
    have hw2:PB (Qy ((List.range k).map f)+cC a0 (ga w (k+1)).toNat (k+1))=Qy ((List.range (k+1)).map f):=by rw[hS,hfk];exact PJ J J
    simp only[RW,hd,ABT,i1,ABW,e1,ABS,hdw,c1,c2,hw1,hw2]
   ·have hdw:decide (ga w (k+1)>0)=false:=ABc h;have hfk:f k=0:=No
    have hw2:Qy ((List.range k).map f)=Qy ((List.range (k+1)).map f):=by rw[hS,hfk];omega
    simp only[RW,hd,ABT,ABV,i1,ABW,e1,ABS,hdw,hw1];rw[hw2]) (by
   have hd:decide (((m+1:Nat):Int)<=(a0[0].length:Int))=false:=by rw[AAr];omega
   simp only[RW,hd,ABV]) n ADW
  simpa[Qy]using this
 obtain⟨cs,cl,cp⟩:=mG (P:=λr k=>k<m/\ga w (k+1)=((r+1:Nat):Int)) a0.length (λr hr=>by
  obtain⟨j,j1,j2,e⟩:=hm.rX (r+1) J J;exact⟨j-1,J,No⟩)
 have cnd:cs.Nodup:=by unfold List.Nodup;rw[ABP];intro a b ha hb hab e;have p1:=(cp a ha).2;have p2:=(cp b hb).2;rw[e,p2]at p1;omega
 have cin:∀k∈cs,k∈List.range m:=λk hk=>by obtain⟨a,ha,rfl⟩:=ABX.1 hk;grind
 have coff:∀k∈List.range m,k∉cs->ga w (k+1)=0:=λk hk hn=>by
  rw[AAb]at hk;have hr:=hm.gT (k+1) J J;refine AAp λyF=>hn ?_;have xz:(ga w (k+1)).toNat-1<cs.length:=J
  obtain⟨p1,p2⟩:=cp _ xz;have:=hm.inj (cs[(ga w (k+1)).toNat-1]+1) (k+1) J J J J J J;grind
 have hR:(PU a0).length=a0.length:=by simp[PU]
 have fc:∀r (h:r<cs.length),f cs[r]=cC a0 (r+1) (cs[r]+1):=λr h=>by have p2:=(cp r h).2;rw[fdef,p2,AAS J,ABW]
 have hs1:Qy ((List.range m).map f)=Qy (cs.map f):=l6 f cs (List.range m) cnd AB8 cin (λk hk hn=>by
  grind)
 have hs2:nR (PU a0) cs=Qy (cs.map f):=kC f (PU a0) cs (by rw[hR,cl]) (λr h1 h2=>by
  rw[fc r h2,iG _ J])
 have hs3:Qy (cs.map f)=Qy ((List.range a0.length).map λr=>ga u (r+1))+Qy (cs.map λk=>ga v (k+1)):=mY f (λk=>ga v (k+1)) cs _ (by simp[cl]) (λr h1 h2=>by
  rw[fc r h1,ABi,List.getElem_range];obtain⟨p1,p2⟩:=cp r h1;exact(ht.tight (cs[r]+1) (r+1) J J J p2).symm)
 have hs4:Qy ((List.range m).map λk=>ga v (k+1))=Qy (cs.map λk=>ga v (k+1)):=l6 _ cs (List.range m) cnd AB8 cin (λk hk hn=>by
  have hw:=coff k hk hn;rw[AAb]at hk;exact ht.free (k+1) J J hw)
 refine⟨Qy ((List.range m).map f),?_,?_,λy hy=>?_⟩
 ·unfold Tf;rw[yF,ABV,hg0,ABS,zQ,(e0 a0.length J).1,(e0 m hm10).1,(e0 a0.length J).2,(e0 m hm10).2];simp only[ABT,ABW,hz,ABS,hsum]
 ·rw[hs1,<-hs2];exact AS.of (PU a0) cs (List.range m) (by rw[hR,cl]) cnd cin
 ·have:=AS.ge (λk=>ga v (k+1)) (PU a0) ((List.range a0.length).map λr=>ga u (r+1)) (List.range m) y (by simp[PU]) (λr hr hu k hk=>by
   rw[AAb]at hk;have hra:r<a0.length:=by rw[hR]at hr;exact hr
   have:=hf.oN (r+1) (k+1) J J J J;rw[ABi,List.getElem_range];have e:(PU a0)[r] k=cC a0 (r+1) (k+1):=iG _ hra k;rw[e];exact this) (λk hk=>by
   rw[AAb]at hk;exact hf.rS (k+1) J J) hy
  omega
theorem rP(h:k<=10):Ny .i64 1 (k:Int)=((2 ^ k:Nat):Int):=by
 have h2:2 ^ k<=2 ^ 10:=Nat.pow_le_pow_right J h;unfold Ny;rw[show min ((k:Int)).toNat (IntKind.bits .i64)=k by simp[IntKind.bits];omega,Int.one_mul];have e:(2:Int) ^ k=((2 ^ k:Nat):Int):=by rw[Int.natCast_pow];rfl
 rw[e];generalize 2 ^ k=p at h2 ⊢;exact PJ J J
theorem b8(h:s<1024):(BitVec.ofInt (IntKind.bits .i64) (s:Int)).toNat=s:=by have:(BitVec.ofInt (IntKind.bits .i64) (s:Int)).toNat=((s:Int)%(2 ^ 64:Nat)).toNat:=BitVec.toNat_ofInt ..;omega
theorem wC{t:Nat}(hs:s<1024)(ht:t<1024):Ox .i64 (s:Int) (t:Int)=((s ||| t:Nat):Int):=by
 have h:s ||| t<1024:=Nat.or_lt_two_pow (n:=10) hs ht
 unfold Ox;rw[BitVec.toNat_or,b8 hs,b8 ht];exact PJ J J
theorem rh(hs:s<1024)(hk:k<=10):(OA .i64 (Nz .i64 (s:Int) (k:Int)) 1==1)=s.testBit k:=by
 have e1:Nz .i64 (s:Int) (k:Int)=((s >>> k:Nat):Int):=by
  unfold Nz;rw[show min ((k:Int)).toNat (IntKind.bits .i64)=k by simp[IntKind.bits];omega,Nat.shiftRight_eq_div_pow];have e:(2:Int) ^ k=((2 ^ k:Nat):Int):=by rw[Int.natCast_pow];rfl
  rw[e];exact(Int.ofNat_fdiv s (2 ^ k)).symm
 have h1:s >>> k<1024:=Nat.lt_of_le_of_lt (Nat.shiftRight_le s k) hs
 have e2:OA .i64 ((s >>> k:Nat):Int) 1=((1 &&& (s >>> k):Nat):Int):=by unfold OA;rw[BitVec.toNat_and,b8 h1,show(BitVec.ofInt (IntKind.bits .i64) 1).toNat=1 by decide,Nat.and_comm];have:1 &&& (s >>> k)<=1:=Nat.and_le_left;exact PJ J J
 rw[e1,e2,Nat.testBit];grind
def bQ(m s:Nat):It:=(List.range m).filter λk => !s.testBit k
theorem oA(m s:Nat):(bQ m s).Nodup:=AB8.filter _
theorem iT:k∈bQ m s↔k<m/\s.testBit k=false:=by simp[bQ]
theorem W7(h:s.testBit k=false):(bQ m s).erase k=bQ m (s ||| 2 ^ k):=by rw[(oA m s).erase_eq_filter];unfold bQ;rw[List.filter_filter];grind
theorem iS(hs:s<2 ^ m)(hk:k<m):s ||| 2 ^ k<2 ^ m:=Nat.or_lt_two_pow hs (Nat.pow_lt_pow_right J hk)
theorem jF(h:m<=10):2 ^ m<=1024:=Nat.pow_le_pow_right J h
def TQ:Option Int->Int
 |none => -1
 |some x=>x
def Nw(R:List (Nat->Int))(m i:Nat):By:=(List.range (2 ^ m)).map λs=>TQ (YN (R.drop i) (bQ m s))
theorem XU(R:List (Nat->Int))(m i:Nat):(Nw R m i).length=2 ^ m:=by simp[Nw]
theorem XT(h:s<2 ^ m):(Nw R m i)[s]?=some (TQ (YN (R.drop i) (bQ m s))):=by unfold Nw;grind
structure RB(R:List (Nat->Int))(m:Nat):Prop where
 b:∀r∈R,∀k,k<m->0<=r k/\r k<=100000
 l:R.length<=10
theorem RB.val(h:RB R m)(hx:YN (R.drop i) (bQ m s)=some x):0<=x/\x<=1000000:=by have h1:=dx hx (λr hr k hk=>(h.b r (ACD hr) k (iT.1 hk).1).1);have h2:=oH hx (M:=100000) J (λr hr k hk=>(h.b r (ACD hr) k (iT.1 hk).1).2);have:=h.l;grind
theorem CM.rb(h:CM a0 m):RB (PU a0) m:=by
 refine⟨λr hr k hk=>?_,?_⟩
 ·obtain⟨l,hl,rfl⟩:=AAw.1 hr;have:=h.row l hl;have hg:l[k]?=some (ga l k):=S2 J;exact h.Mg l hl _ (AAR hg)
 ·have:=h.nm;have:=h.m10;simp only[PU,ABp];omega
theorem nF(hc:CM a0 m)(hi:i<a0.length)(hs:s<2 ^ m)(T0:List By)(hT:i+1<T0.length)(hnext:T0[i+1]?=some (Nw (PU a0) m (i+1)))(y:By)(hy:y.length=2 ^ m)(c7:Int×(List (By)))(hc7:c7.1=(s:Int))(c3:Int×(List (By)))(hc3:c3.1=(i:Int))(n:Nat)(hn:PO<=n):
  iter n (Qq a0 (m:Int) c3 c7) (0,T0.set i (y.set s (-1)))=some ((m:Int),T0.set i (y.set s (TQ (YN ((PU a0).drop i) (bQ m s))))):=by
 have hm10:=hc.m10;have hnm:=hc.nm;have hp:=jF hm10;have hR:(PU a0).length=a0.length:=by simp[PU]
 have hdrop:(PU a0).drop i=ga a0[i]::(PU a0).drop (i+1):=by rw[ABj J];congr 1;exact ABi ..
 let acc:Nat->Option Int:=λk=>((List.range k).filter λk => !s.testBit k).foldl (λb k=>Zt b ((YN ((PU a0).drop (i+1)) ((bQ m s).erase k)).map λy=>ga a0[i] k+y)) none
 have acc0:acc 0=none:=rfl;have accm:acc m=YN ((PU a0).drop i) (bQ m s):=by rw[hdrop];rfl
 have accS:∀k,acc (k+1)=bif s.testBit k then acc k else Zt (acc k) ((YN ((PU a0).drop (i+1)) ((bQ m s).erase k)).map λy=>ga a0[i] k+y):=λk=>by show((List.range (k+1)).filter _).foldl _ none=_;rw[ACB,ACJ,List.foldl_append];grind
 clear_value acc
 have accP:∀k,k<=m->∀z,acc k=some z->0<=z:=by
  intro k
  induction k with
  |zero=>grind
  |succ k ih=>
   intro hk z h;rw[accS k]at h;cases hb:s.testBit k with
   |true=>grind
   |false=>
    rw[hb,ABV]at h;rcases mK h with h|h
    ·grind
    ·rw[W7 hb]at h;cases hB:YN ((PU a0).drop (i+1)) (bQ m (s ||| 2 ^ k))with
     |none=>grind
     |some x=>
      rw[hB]at h;simp only[ABA,Option.some.injEq]at h;have:=hc.rb.val hB;have:=hc.rb.b (ga a0[i]) (ACa (ABU hi)) k J;omega
 have hi3:PB ((i:Int)+1)=((i+1:Nat):Int):=O9 (show i<i+1 by omega) J;have yE:Iz a0 (i:Int)=some a0[i]:=PA hi;have hrl:a0[i].length=m:=hc.row _ (ABU hi);have rb:=hc.rb
 have:=Pc (Qq a0 (m:Int) c3 c7) (λk=>((k:Int),T0.set i (y.set s (TQ (acc k))))) m ((m:Int),T0.set i (y.set s (TQ (acc m)))) (λk hk=>by
  have hd:decide ((k:Int)<(m:Int))=true:=by rw[AAh];omega
  have hd0:decide (0<=(k:Int))=true:=by rw[AAh];omega
  have FV:=rh (s:=s) (k:=k) J J;have hsh:=rP (k:=k) J;have hk10:2 ^ k<1024:=AA9 (Nat.pow_lt_pow_right J hk) hp;have hor:=wC (s:=s) (t:=2 ^ k) J hk10;have hw:PB ((k:Int)+1)=((k+1:Nat):Int):=O9 hk J;have xz:=iS hs hk;have i1:OU (T0.set i (y.set s (TQ (acc k)))) ((i+1:Nat):Int)=true:=PE ADb;have e1:(T0.set i (y.set s (TQ (acc k))))[i+1]?=some (Nw (PU a0) m (i+1)):=by rw[List.getElem?_set_ne J];exact hnext
  have i2:OU (Nw (PU a0) m (i+1)) ((s ||| 2 ^ k:Nat):Int)=true:=PE (by rw[XU];exact xz);have e2:=XT (R:=PU a0) (i:=i+1) xz;have i3:OU (T0.set i (y.set s (TQ (acc k)))) (i:Int)=true:=PE ADb;have e3:(T0.set i (y.set s (TQ (acc k))))[i]?=some (y.set s (TQ (acc k))):=No
  have i4:OU (y.set s (TQ (acc k))) (s:Int)=true:=PE ADb;have e4:(y.set s (TQ (acc k)))[s]?=some (TQ (acc k)):=No
  have e5:Iz a0[i] (k:Int)=some (ga a0[i] k):=by rw[RY];exact S2 J
  have hb0:=rb.b (ga a0[i]) (ACa (ABU hi)) k hk;rw[accS k];cases hb:s.testBit k with
  |true=>
   rw[hb]at FV;simp only[Qq,hd,hd0,ABT,hc7,hc3,FV,ABS,hw]
  |false=>
   rw[hb]at FV;rw[ABV,W7 hb];have hv:∀x,YN ((PU a0).drop (i+1)) (bQ m (s ||| 2 ^ k))=some x->0<=x/\x<=1000000:=λx hx=>rb.val hx;cases hB:YN ((PU a0).drop (i+1)) (bQ m (s ||| 2 ^ k))with
   |none=>
    rw[hB]at e2;have hneg:decide (TQ none<0)=true:=by simp[TQ]
    have ho:Zt (acc k) (Option.map (λy=>ga a0[i] k+y) none)=acc k:=by cases acc k<;>rfl
    rw[ho];simp only[Qq,hd,hd0,ABT,ABV,hc7,hc3,FV,ABS,hw,hi3,i1,e1,ABW,hsh,hor,i2,e2,hneg]
   |some x=>
    rw[hB]at e2;obtain⟨x0,x1⟩:=hv x hB;have hneg:decide (TQ (some x)<0)=false:=ABc (show ¬x<0 by omega);have hww:PB (ga a0[i] k+TQ (some x))=ga a0[i] k+x:=PJ (n:=ga a0[i] k+x) J J
    have hmod:∀v:Int,List.modify (T0.set i (y.set s (TQ (acc k)))) i (λy2=>DL y2 s v)=T0.set i (y.set s v):=λv=>by
     apply ABx;intro j;rw[ABf,ACL,ACL];by_cases e:i=j
     ·subst e;simp[show i<T0.length by omega,P5]
     ·simp[e]
    cases hA:acc k with
    |none=>
     rw[hA]at e4 i3 i4 e3 i1 e1 hmod;have hneg2:decide (TQ none<0)=true:=by simp[TQ]
     simp only[Qq,hd,hd0,ABT,ABV,hc7,hc3,FV,ABS,hw,hi3,i1,e1,ABW,hsh,hor,i2,e2,hneg,yE,e5,i3,e3,i4,e4,hneg2,hww,hmod];rfl
    |some z=>
     rw[hA]at e4 i3 i4 e3 i1 e1 hmod;have hz0:=accP k J z hA
     ·have hneg2:decide (TQ (some z)<0)=false:=ABc (show ¬z<0 by omega);by_cases hlt2:ga a0[i] k+x<z
      ·have hd2:decide (ga a0[i] k+x<TQ (some z))=true:=ABY hlt2;have ho:Zt (some z) (Option.map (λy=>ga a0[i] k+y) (some x))=some (ga a0[i] k+x):=by simp only[ABA,Zt,AAS hlt2]
       rw[ho];simp only[Qq,hd,hd0,ABT,ABV,hc7,hc3,FV,ABS,hw,hi3,i1,e1,ABW,hsh,hor,i2,e2,hneg,yE,e5,i3,e3,i4,e4,hneg2,hww,hmod,hd2];rfl
      ·have hd2:decide (ga a0[i] k+x<TQ (some z))=false:=ABc hlt2;have ho:Zt (some z) (Option.map (λy=>ga a0[i] k+y) (some x))=some z:=by simp only[ABA,Zt,AAT hlt2]
       rw[ho];simp only[Qq,hd,hd0,ABT,ABV,hc7,hc3,FV,ABS,hw,hi3,i1,e1,ABW,hsh,hor,i2,e2,hneg,yE,e5,i3,e3,i4,e4,hneg2,hww,hmod,hd2]) (by
  have hd:decide ((m:Int)<(m:Int))=false:=so
  simp only[Qq,hd,ABV]) n ADW
 rw[acc0,accm]at this;exact this
theorem lS(hc:CM a0 m)(hi:i<a0.length)(T0:List By)(hT:i+1<T0.length)(hnext:T0[i+1]?=some (Nw (PU a0) m (i+1)))(x5:By)(h5:x5.length=2 ^ m)(c3:Int×(List (By)))(hc3:c3.1=(i:Int))(n:Nat)(hn:PO<=n):
  iter n (Ts n a0 (m:Int) c3 x5) (0,T0.set i (List.replicate (2 ^ m) 0))=some (((2 ^ m:Nat):Int),T0.set i (Nw (PU a0) m i)):=by
 have hp:=jF hc.m10;have hrl:=XU (PU a0) m i
 have:=Pc (Ts n a0 (m:Int) c3 x5) (λs=>((s:Int),T0.set i ((Nw (PU a0) m i).take s++List.replicate (2 ^ m-s) 0))) (2 ^ m) (((2 ^ m:Nat):Int),T0.set i (Nw (PU a0) m i)) (λs hs=>by
  have hd:decide ((s:Int)<(x5.length:Int))=true:=by rw[AAh];omega
  generalize hy:(Nw (PU a0) m i).take s++List.replicate (2 ^ m-s) 0=y;have hyl:y.length=2 ^ m:=by rw[<-hy];simp[hrl];omega
  have i3:OU (T0.set i y) (i:Int)=true:=PE ADb;have e3:(T0.set i y)[i]?=some y:=by rw[List.getElem?_set_self J]
  have i4:OU y (s:Int)=true:=PE J
  have hmod:List.modify (T0.set i y) i (λy2=>DL y2 s (-1))=T0.set i (y.set s (-1)):=by
   apply ABx;intro j;rw[ABf,ACL,ACL];by_cases e:i=j
   ·subst e;simp[show i<T0.length by omega,P5]
   ·simp[e]
  have hr:=nF hc hi hs T0 hT hnext y hyl ((s:Int),T0.set i y) rfl c3 hc3 n hn;have hw:PB ((s:Int)+1)=((s+1:Nat):Int):=O9 hs J;simp only[Ts,hd,ABT,hc3,i3,e3,i4,ABW,ABS,hmod,hr,hw];congr 5;rw[<-hy,ACK _ _ (by simp[hrl];omega),ACH,hrl,Nat.min_eq_left J,ACS,show 2 ^ m-s=(2 ^ m-(s+1))+1 by omega,List.replicate_succ,ACc,List.take_add_one,XT hs];simp) (by
  have hd:decide (((2 ^ m:Nat):Int)<(x5.length:Int))=false:=by rw[h5];simp
  simp only[Ts,hd,ABV,ACS,List.replicate_zero,AA4];rw[ABs (by rw[hrl];exact AAi _)]) n ADW
 grind
theorem gI(hc:CM a0 m)(h0:a0=[]->m=0)(n:Nat)(hn:PO<=n):∃T,YV n a0=some T/\T.length=a0.length+1/\∀j,j<=a0.length->T[j]?=some (Nw (PU a0) m j):=by
 have hm10:=hc.m10;have hnm:=hc.nm;have hp:=jF hm10;have hsh:=rP hm10
 have hg1:decide (0<=((2 ^ m:Nat):Int))=true:=by generalize 2 ^ m=q;rw[AAh];omega
 have hg2:decide (((2 ^ m:Nat):Int)<=(E8:Int))=true:=by generalize 2 ^ m=q at hp;rw[AAh];unfold E8;omega
 have e0:PB ((a0.length:Int)+1)=((a0.length+1:Nat):Int):=O9 (show a0.length<a0.length+1 by omega) J
 have g0:(decide (0<=((a0.length+1:Nat):Int))&&decide (((a0.length+1:Nat):Int)<=(E8:Int))&&decide (((a0.length+1:Nat):Int)=((a0.length+1:Nat):Int)))=true:=by rw[ABY (show 0<=((a0.length+1:Nat):Int) by omega),ABY (show((a0.length+1:Nat):Int)<=(E8:Int) by unfold E8;omega)];simp
 have hd0:decide (0<=(m:Int))=true:=by rw[AAh];omega
 have hcol:(show Option Int from bif decide ((a0.length:Int)>0)then(Iz a0 0).bind λx2=>some (x2.length:Int)else some 0)=some (m:Int):=by
  by_cases e:a0=[]
  ·grind
  ·have hl:0<a0.length:=List.length_pos_iff.2 e;rw[show decide ((a0.length:Int)>0)=true by grind,ABT,show Iz a0 0=some a0[0]from PA hl,ABS,hc.row _ (ABU hl)]
 have iN:OU (List.replicate (a0.length+1) ([]:By)) (a0.length:Int)=true:=PE so
 obtain⟨z,⟨T,hz1,hz2,hz3⟩,hz⟩:=Ud (f:=V1 n a0 (m:Int))
  (λk x=>∃T:List By,x=((k:Int)-1,T)/\k<=a0.length/\T.length=a0.length+1/\∀j,k<=j->j<=a0.length->T[j]?=some (Nw (PU a0) m j))
  (λz=>∃T:List By,z=(((0:Nat):Int)-1,T)/\T.length=a0.length+1/\∀j,j<=a0.length->T[j]?=some (Nw (PU a0) m j))
  (λk x hx=>by
   obtain⟨T,rfl,hk,hl,hT⟩:=hx;cases k with
   |zero=>
    left;exact⟨(((0:Nat):Int)-1,T),by simp[V1],T,rfl,hl,λj hj=>hT j J hj⟩
   |succ i=>
    right;have hi1:((i+1:Nat):Int)-1=(i:Int):=J
    have hd:decide ((i:Int)>=0)=true:=by rw[AAh];omega
    have i3:OU T (i:Int)=true:=PE J;have i4:OU (T.set i (List.replicate (2 ^ m) 0)) (i:Int)=true:=PE ADb;have e4:(T.set i (List.replicate (2 ^ m) 0))[i]?=some (List.replicate (2 ^ m) 0):=by rw[List.getElem?_set_self J]
    have hs:=lS hc (i:=i) J T J (hT (i+1) J J) (List.replicate (2 ^ m) 0) so ((i:Int),T) rfl n hn;have hw:PB ((i:Int)-1)=(i:Int)-1:=PJ J J;refine⟨((i:Int)-1,T.set i (Nw (PU a0) m i)),i,?_,⟨T.set i (Nw (PU a0) m i),rfl,J,by simp[hl],λj h1 h2=>?_⟩,J⟩
    ·rw[hi1];simp only[V1,hd,ABT,hd0,hsh,hg1,hg2,decide_true,ACG,AB7,i3,ABW,P5,i4,e4,ABS,hs,hw]
    grind)
  n a0.length ((a0.length:Int)-1,(List.replicate (a0.length+1) ([]:By)).set a0.length (List.replicate (2 ^ m) 0)) ⟨_,rfl,AAi _,so,λj h1 h2=>by
   have:j=a0.length:=J
   subst this;rw[List.getElem?_set_self so];refine congrArg some (ABx λs=>?_);by_cases hs:s<2 ^ m
   ·rw[XT hs,ACe,AAS hs,List.drop_of_length_le (by simp[PU])];rfl
   ·rw[List.getElem?_eq_none No,List.getElem?_eq_none (by rw[XU];omega)]⟩ ADW
 refine⟨T,?_,hz2,hz3⟩;have hw:PB ((a0.length:Int)-1)=(a0.length:Int)-1:=PJ J J;unfold YV;rw[hcol,ABS,e0,g0,hd0,hsh];simp only[hg1,hg2,decide_true,ACG,AB7,ABT,ABW,iN,P5,hw,hz,hz1,ABS]
theorem ba(hc:CM a0 m)(n:Nat)(hn:PO<=n):Wj n a0=some true:=by
 have hm10:=hc.m10;have hnm:=hc.nm
 have h1:=QP (T9 n a0) a0 (λ_=>true) (λi x hi hx=>by
  obtain⟨_,rfl⟩:=AAO.1 hx;have hl:=hc.row _ (ABU hi);have h0:0<a0.length:=J
  have zQ:=hc.row _ (ABU h0)
  have h2:=QP (UA a0[i]) a0[i] (λ_=>true) (λk y hk hy=>by
   obtain⟨_,rfl⟩:=AAO.1 hy;have hb:=hc.Mg _ (ABU hi) _ (ABU hk);have hd:decide ((k:Int)<(a0[i].length:Int))=true:=by rw[AAh];omega
   have xv:PX a0[i][k] 0 100000=some true:=by unfold PX;rw[show decide (a0[i][k]>=0)=true from ABY hb.1,show decide (a0[i][k]<=100000)=true from ABY hb.2];rfl
   simp only[UA,hd,ABT,PA hk,ABS,xv,ABa,ABV,O9 hk J]) (by
   have hd:decide ((a0[i].length:Int)<(a0[i].length:Int))=false:=so
   simp only[UA,hd,ABV]) n ADW
  have hd:decide ((i:Int)<(a0.length:Int))=true:=by rw[AAh];omega
  have zA:a0[i].all (λ_=>true)=true:=so
  rw[zA,ABT]at h2
  have xv:PX (m:Int) (a0.length:Int) 10=some true:=by unfold PX;rw[show decide ((m:Int)>=(a0.length:Int))=true by rw[AAh];omega,show decide ((m:Int)<=10)=true by rw[AAh];omega];rfl
  have hg0:Iz a0 0=some a0[0]:=PA h0;have yF:((m:Int) != (m:Int))=false:=so
  simp only[T9,hd,ABT,PA hi,hg0,ABS,zQ,hl,yF,ABV,xv,ABa,h2,O9 hi J]
  ) (by
  have hd:decide ((a0.length:Int)<(a0.length:Int))=false:=so
  simp only[T9,hd,ABV]) n ADW
 have zA:a0.all (λ_=>true)=true:=so
 rw[zA,ABT]at h1;unfold Wj;grind
theorem cJ(hc:CM a0 m)(n:Nat)(hn:PO<=n):Yd n a0=some true:=by
 have hm10:=hc.m10;have hnm:=hc.nm
 have h1:=QP (UH n a0) a0 (λ_=>true) (λi x hi hx=>by
  obtain⟨_,rfl⟩:=AAO.1 hx;have hl:=hc.row _ (ABU hi);have h0:0<a0.length:=J
  have zQ:=hc.row _ (ABU h0)
  have h2:=QP (UI a0 (i:Int)) a0[i] (λ_=>true) (λk y hk hy=>by
   obtain⟨_,rfl⟩:=AAO.1 hy;have hb:=hc.Mg _ (ABU hi) _ (ABU hk);have hd:decide ((k:Int)<(a0[i].length:Int))=true:=by rw[AAh];omega
   have xv:PS a0[i][k] 0 100000=some true:=by rw[QR];unfold P7;rw[ABY hb.1,ABY hb.2];rfl
   simp only[UI,hd,ABT,PA hi,PA hk,ABS,xv,ABa,ABV,O9 hk J]) (by
   have hd:decide ((a0[i].length:Int)<(a0[i].length:Int))=false:=so
   simp only[UI,PA hi,ABS,hd,ABV]) n ADW
  have hd:decide ((i:Int)<(a0.length:Int))=true:=by rw[AAh];omega
  have zA:a0[i].all (λ_=>true)=true:=so
  rw[zA,ABT]at h2;have hg0:Iz a0 0=some a0[0]:=PA h0;have yF:((m:Int) != (m:Int))=false:=so
  have h10:decide ((m:Int)>10)=false:=by rw[AAr];omega
  have xz:decide ((m:Int)<(a0.length:Int))=false:=by rw[AAr];omega
  simp only[UH,hd,ABT,PA hi,hg0,ABS,zQ,hl,yF,h10,xz,ABV,h2,O9 hi J]
  ) (by
  have hd:decide ((a0.length:Int)<(a0.length:Int))=false:=so
  simp only[UH,hd,ABV]) n ADW
 have zA:a0.all (λ_=>true)=true:=so
 rw[zA,ABT]at h1;unfold Yd;grind
theorem lC{p:Nat->Bool}(h:(bQ m s).find? p=some k):∀j,j<k->s.testBit j=false->p j=false:=by unfold bQ at h;rw[List.find?_filter,List.find?_range_eq_some]at h;grind
def PR(l:It):By:=l.map λk:Nat=>(k:Int)
theorem Zy(hc:CM a0 m)(h0:a0=[]->m=0)(n:Nat)(hn:PO<=n):∃s,XI n a0=some (PR (pk (PU a0) (List.range m)),s)/\YN (PU a0) (List.range m)=some s:=by
 have hm10:=hc.m10;have hnm:=hc.nm;have hp:=jF hm10;have rb:=hc.rb;have hR:(PU a0).length=a0.length:=by simp[PU]
 obtain⟨T,t1,t2,t3⟩:=gI hc h0 n hn;have hS0:bQ m 0=List.range m:=by unfold bQ;simp
 obtain⟨z,⟨s',hz1⟩,hz⟩:=Ud (f:=Vu n a0 T)
  (λk x=>∃(i s:Nat) (out:By),x=(out,(s:Int),(i:Int))/\i+k=a0.length/\s<2 ^ m/\a0.length-i<=(bQ m s).length/\out++PR (pk ((PU a0).drop i) (bQ m s))=PR (pk (PU a0) (List.range m))/\out.length=i)
  (λz=>∃s:Int,z=(PR (pk (PU a0) (List.range m)),s,(a0.length:Int)))
  (λk x hx=>by
   obtain⟨i,s,out,rfl,hk,hs,hl,zt,hol⟩:=hx;by_cases hi:i=a0.length
   ·left;subst hi;have hd:decide ((a0.length:Int)<(a0.length:Int))=false:=so
    refine⟨(out,(s:Int),(a0.length:Int)),by simp only[Vu,hd,ABV],(s:Int),?_⟩;rw[List.drop_of_length_le J]at zt;simp only[pk,PR,List.map_nil,AA4]at zt;rw[zt];rfl
   ·right;have zc:i<a0.length:=J
    have hd:decide ((i:Int)<(a0.length:Int))=true:=by rw[AAh];omega
    have hrl:=hc.row _ (ABU zc)
    have hdrop:(PU a0).drop i=ga a0[i]::(PU a0).drop (i+1):=by rw[ABj J];congr 1;exact ABi ..
    obtain⟨x,hx⟩:=ku ((PU a0).drop i) (bQ m s) (oA m s) No;have hx':=hx;rw[hdrop]at hx';obtain⟨q,hq,hf,y,hy,hxy⟩:=jC hx';obtain⟨qm,qb⟩:=iT.1 hq;have hcont:=lC hf;have hw3:PB ((i:Int)+1)=((i+1:Nat):Int):=O9 zc J;have i1:OU T ((i+1:Nat):Int)=true:=PE J;have e1:=t3 (i+1) J;have i2:OU T (i:Int)=true:=PE J;have e2:=t3 i J;have i3:OU (Nw (PU a0) m i) (s:Int)=true:=PE (by rw[XU];exact hs);have e3:=XT (R:=PU a0) (i:=i) hs;rw[hx]at e3;have bit:∀k,k<m->(OA .i64 (Nz .i64 (s:Int) (k:Int)) 1==1)=s.testBit k:=λk hk=>rh J J
    have pow:∀k,k<m->Ny .i64 1 (k:Int)=((2 ^ k:Nat):Int)/\Ox .i64 (s:Int) ((2 ^ k:Nat):Int)=((s ||| 2 ^ k:Nat):Int):=λk hk=>by have hk10:2 ^ k<1024:=AA9 (Nat.pow_lt_pow_right J hk) hp;exact⟨rP J,wC J hk10⟩
    have xv:iter n (Rn T (out,(s:Int),(i:Int)) a0[i]) (out,(s:Int),0)=some (out++[(q:Int)],((s ||| 2 ^ q:Nat):Int),(q:Int)):=by
     have common:∀k,k<m->s.testBit k=false->∀v,YN ((PU a0).drop (i+1)) (bQ m (s ||| 2 ^ k))=some v->0<=ga a0[i] k+v/\ga a0[i] k+v<=2000000/\0<=v:=λk hk hb v hv=>by have:=rb.val hv;have:=rb.b (ga a0[i]) (ACa (ABU zc)) k hk;omega
     have:=Pc (Rn T (out,(s:Int),(i:Int)) a0[i]) (λk=>(out,(s:Int),(k:Int))) q (out++[(q:Int)],((s ||| 2 ^ q:Nat):Int),(q:Int)) (λk hk=>by
      have hkm:k<m:=J
      have hdk:decide ((k:Int)<(a0[i].length:Int))=true:=by rw[AAh];omega
      have hd0:decide (0<=(k:Int))=true:=by rw[AAh];omega
      have hb:=bit k hkm;obtain⟨p1,p2⟩:=pow k hkm;have hwk:PB ((k:Int)+1)=((k+1:Nat):Int):=O9 hkm J;cases hbt:s.testBit k with
      |true=>
       rw[hbt]at hb;simp only[Rn,hdk,hd0,ABT,hb,ABS,hwk]
      |false=>
       rw[hbt]at hb;have xz:=iS hs hkm;have i4:OU (Nw (PU a0) m (i+1)) ((s ||| 2 ^ k:Nat):Int)=true:=PE (by rw[XU];exact xz);have e4:=XT (R:=PU a0) (i:=i+1) xz;have e5:Iz a0[i] (k:Int)=some (ga a0[i] k):=by rw[RY];exact S2 J
       have hpk:=hcont k hk hbt;rw[W7 hbt]at hpk;cases hB:YN ((PU a0).drop (i+1)) (bQ m (s ||| 2 ^ k))with
       |none=>
        rw[hB]at e4;have hneg:decide (TQ none<0)=true:=by simp[TQ]
        simp only[Rn,hdk,hd0,ABT,ABV,hb,ABS,hwk,hw3,i1,e1,p1,p2,ABW,i4,e4,hneg]
       |some v=>
        rw[hB]at e4 hpk;obtain⟨v1,v2,v3⟩:=common k hkm hbt v hB;have hneg:decide (TQ (some v)<0)=false:=ABc (show ¬v<0 by omega);have hww:PB (ga a0[i] k+TQ (some v))=ga a0[i] k+v:=PJ (n:=ga a0[i] k+v) J J;rw[hx']at hpk
        have hneq:(ga a0[i] k+v != TQ (some x))=true:=by
         have:ga a0[i] k+v≠x:=λe=>No
         simp only[TQ,ACE];exact this
        simp only[Rn,hdk,hd0,ABT,ABV,hb,ABS,hwk,hw3,i1,e1,p1,p2,ABW,i4,e4,hneg,e5,hww,i2,e2,i3,e3,hneq]) (by
      have hdk:decide ((q:Int)<(a0[i].length:Int))=true:=by rw[AAh];omega
      have hd0:decide (0<=(q:Int))=true:=by rw[AAh];omega
      have hb:=bit q qm;rw[qb]at hb;obtain⟨p1,p2⟩:=pow q qm;have xz:=iS hs qm;have i4:OU (Nw (PU a0) m (i+1)) ((s ||| 2 ^ q:Nat):Int)=true:=PE (by rw[XU];exact xz);have e4:=XT (R:=PU a0) (i:=i+1) xz;have e5:Iz a0[i] (q:Int)=some (ga a0[i] q):=by rw[RY];exact S2 J
      rw[W7 qb]at hy;rw[hy]at e4;obtain⟨v1,v2,v3⟩:=common q qm qb y hy;have hneg:decide (TQ (some y)<0)=false:=ABc (show ¬y<0 by omega);have hww:PB (ga a0[i] q+TQ (some y))=ga a0[i] q+y:=PJ (n:=ga a0[i] q+y) J J
      have hneq:(ga a0[i] q+y != TQ (some x))=false:=by simp only[TQ,bne_eq_false_iff_eq];exact hxy.symm
      have yE:decide (out.length+[(q:Int)].length<=E8)=true:=SV J;simp only[Rn,hdk,hd0,ABT,ABV,hb,ABS,hw3,i1,e1,p1,p2,ABW,i4,e4,hneg,e5,hww,i2,e2,i3,e3,hneq,yE]) n ADW
     simpa using this
    have hpk:pk ((PU a0).drop i) (bQ m s)=q::pk ((PU a0).drop (i+1)) (bQ m (s ||| 2 ^ q)):=by rw[hdrop];simp only[pk,hf];rw[W7 qb]
    refine⟨(out++[(q:Int)],((s ||| 2 ^ q:Nat):Int),((i+1:Nat):Int)),k-1,?_,⟨i+1,s ||| 2 ^ q,out++[(q:Int)],rfl,J,iS hs qm,?_,?_,by simp[hol]⟩,J⟩
    ·simp only[Vu,hd,ABT,PA zc,ABS,xv,hw3]
    ·rw[<-W7 qb,List.length_erase_of_mem hq];omega
    ·rw[<-zt,hpk];simp[PR])
  n a0.length (([]:By),0,0) ⟨0,0,[],rfl,J,Nat.pow_pos J,No,by rw[hS0];rfl,rfl⟩ ADW
 obtain⟨x,hx⟩:=ku (PU a0) (List.range m) AB8 No;refine⟨x,?_,hx⟩;have i1:OU T 0=true:=PE (show 0<T.length by omega);have e1:=t3 0 J;have i2:OU (Nw (PU a0) m 0) 0=true:=PE (show 0<_ by rw[XU];grind);have e2:=XT (R:=PU a0) (m:=m) (i:=0) (s:=0) (Nat.pow_pos J);rw[hS0,List.drop_zero,hx]at e2;unfold XI;rw[ba hc n hn];simp only[ABS,ABa,ABV,t1,hz,hz1,i1,e1,ABT,ACd,i2,e2,TQ]
theorem bU(h:S.Nodup)(hj:j<S.length):S.erase S[j]=S.eraseIdx j:=by
 have hs:S=S.take j++S[j]::S.drop (j+1):=by rw[<-ABj hj,ABu]
 grind
theorem fB(h:S.Nodup)(hi:i<S.length)(hj:j<S.length)(e:S[i]=S[j]):i=j:=by
 rcases ABe i j with h1|h1|h1
 ·exact absurd e (ABP.1 h i j hi hj h1)
 ·exact h1
 ·exact absurd e.symm (ABP.1 h j i hj hi h1)
theorem mq(g:Nat->Nat)(hn:S.Nodup)(hg:∀a∈S,∀b∈S,g a=g b->a=b)(hk:k∈S):(S.map g).erase (g k)=(S.erase k).map g:=by
 have hm:(S.map g).Nodup:=by unfold List.Nodup;rw[ABm];exact ACF (fun {a b} ha hb hab e=>hab (hg a ha b hb e)) hn
 rw[hm.erase_eq_filter,hn.erase_eq_filter,List.filter_map];congr 1;refine List.filter_congr λx hx=>?_;grind
theorem AS.rename(g:Nat->Nat):∀(R:List (Nat->Int)) (S:It) (x:Int),S.Nodup->(∀a∈S,∀b∈S,g a=g b->a=b)->(AS (R.map λr k=>r (g k)) S x↔AS R (S.map g) x)
 | [],S,x,_,_=>Iff.rfl
 |r::R,S,x,hn,hg=>by
  have ih:∀k∈S,∀y,AS (R.map λr k=>r (g k)) (S.erase k) y↔AS R ((S.map g).erase (g k)) y:=λk hk y=>by rw[mq g hn hg hk];exact AS.rename g R (S.erase k) y (hn.erase k) (λa ha b hb=>hg a (ABv ha) b (ABv hb))
  refine⟨λ⟨k,hk,y,hy,e⟩=>⟨g k,ACa hk,y,(ih k hk y).1 hy,e⟩,λ⟨q,hq,y,hy,e⟩=>?_⟩;obtain⟨k,hk,rfl⟩:=AAw.1 hq;exact⟨k,hk,y,(ih k hk y).2 hy,e⟩
theorem AS.qt:∀(R R2:List (Nat->Int)) (S:It) (x:Int),R.length=R2.length->(∀i (h1:i<R.length) (h2:i<R2.length),∀k∈S,R[i] k=R2[i] k)->AS R S x->AS R2 S x
 | [],[],S,x,_,_,h=>h
 | [],r::R2,S,x,hl,_,_=>ADq
 |r::R,[],S,x,hl,_,_=>ADq
 |r::R,r2::R2,S,x,hl,hc,⟨k,hk,y,hy,e⟩=>by have h0:=hc 0 so so k hk;simp only[ACI]at h0;refine⟨k,hk,y,AS.qt R R2 (S.erase k) y No (λi h1 h2 q hq=>?_) hy,by rw[e,h0]⟩;have:=hc (i+1) ADb ADb q (ABv hq);simpa only[List.getElem_cons_succ]using this
def RK(rows:List By)(S:It):List By:=rows.map λr=>S.map (ga r)
theorem mV(rows:List By)(hn:S.Nodup)(x:Int):AS (PU (RK rows S)) (List.range S.length) x↔AS (PU rows) S x:=by
 have hS:(List.range S.length).map (λk=>S.getD k 0)=S:=by apply AB2 so;intro i h1 h2;simp[AAM h2]
 have e:AS ((PU rows).map λ(r:Nat->Int) k=>r (S.getD k 0)) (List.range S.length) x↔AS (PU rows) S x:=by
  have:=AS.rename (λk=>S.getD k 0) (PU rows) (List.range S.length) x AB8 (λa ha b hb h=>by
   rw[AAb]at ha hb;simp only[List.getD,AAM ha,AAM hb,ABB]at h;exact fB hn ha hb h)
  rw[hS]at this;exact this
 have same:∀i (h1:i<(PU (RK rows S)).length) (h2:i<((PU rows).map λ(r:Nat->Int) k=>r (S.getD k 0)).length),∀k∈List.range S.length,(PU (RK rows S))[i] k=((PU rows).map λ(r:Nat->Int) k=>r (S.getD k 0))[i] k:=λi h1 h2 k hk=>by
  rw[AAb]at hk;have hi:i<rows.length:=by simpa[PU,RK]using h1
  have e1:(PU (RK rows S))[i]=ga (S.map (ga rows[i])):=by simp[PU,RK]
  have e2:((PU rows).map λ(r:Nat->Int) k=>r (S.getD k 0))[i]=λk=>ga rows[i] (S.getD k 0):=by simp[PU]
  rw[e1,e2];show ga (S.map (ga rows[i])) k=ga rows[i] (S.getD k 0);rw[List.getD,AAM hk,ABB];generalize ga rows[i]=f;unfold ga;grind
 have hl:(PU (RK rows S)).length=((PU rows).map λ(r:Nat->Int) k=>r (S.getD k 0)).length:=by simp[PU,RK]
 exact⟨λh=>e.1 (AS.qt _ _ _ x hl same h),λh=>AS.qt _ _ _ x hl.symm (λi h1 h2 k hk=>(same i h2 h1 k hk).symm) (e.2 h)⟩
theorem qJ(hc:CM a0 m)(i:Nat)(hs:∀k∈S,k<m)(hl:a0.length-i<=S.length)(h10:S.length<=10):CM (RK (a0.drop i) S) S.length:=by
 refine⟨λr hr=>?_,by simp[RK];omega,h10,λr hr x hx=>?_⟩
 ·obtain⟨q,_,rfl⟩:=AAw.1 hr;simp
 ·obtain⟨q,hq,rfl⟩:=AAw.1 hr;obtain⟨k,hk,rfl⟩:=AAw.1 hx;have hq2:=ACD hq;have:=hc.row q hq2;have hg:q[k]?=some (ga q k):=S2 No;exact hc.Mg q hq2 _ (AAR hg)
theorem YI(x:List α)(j:Nat):sub x 0 j=x.take j:=by simp[sub]
theorem bJ(x:List α)(j:Nat):sub x j x.length=x.drop j:=by unfold sub;exact ABs so
theorem bG(rows:List By)(hl:rows.length<=10)(h10:S.length<=10)(hj:j<S.length)(n:Nat)(hn:PO<=n):TL n (RK rows S) (j:Int)=some (RK (rows.drop 1) (S.eraseIdx j)):=by
 have hL:(RK rows S).length=rows.length:=by simp[RK]
 by_cases h0:rows.length=0
 ·have:rows=[]:=AAU h0;subst this;obtain⟨k,rfl⟩:∃k,n=k+1:=⟨n-1,ADW⟩;unfold TL;rw[Pr (z:=(([]:List By),(1:Int))) (by simp[Ri,RK])];rfl
 have hw:PB ((j:Int)+1)=((j+1:Nat):Int):=O9 hj J
 have:=Pc (Ri (RK rows S) (j:Int)) (λi=>((RK (rows.drop 1) (S.eraseIdx j)).take i,((i+1:Nat):Int))) (rows.length-1) (RK (rows.drop 1) (S.eraseIdx j),(rows.length:Int)) (λi hi=>by
  have hi1:i+1<(RK rows S).length:=by rw[hL];omega
  have hd:decide (((i+1:Nat):Int)<((RK rows S).length:Int))=true:=by rw[AAh];omega
  have hg:Iz (RK rows S) ((i+1:Nat):Int)=some (S.map (ga (rows[i+1]'(by omega)))):=by rw[PA hi1];simp[RK]
  generalize hr:rows[i+1]'(by omega)=r at hg;have hlen:(S.map (ga r)).length=S.length:=so
  have c1:decide (0<=(0:Int))=true:=rfl;have c2:decide ((0:Int)<=(j:Int))=true:=by rw[AAh];omega
  have c3:decide ((j:Int)<=((S.map (ga r)).length:Int))=true:=by rw[AAh,hlen];omega
  have c4:decide ((0:Int)<=((j+1:Nat):Int))=true:=by rw[AAh];omega
  have c5:decide (((j+1:Nat):Int)<=((S.map (ga r)).length:Int))=true:=by rw[AAh,hlen];omega
  have c6:decide (((S.map (ga r)).length:Int)<=((S.map (ga r)).length:Int))=true:=so
  have c7:decide (([]:By).length+(sub (S.map (ga r)) 0 j).length<=E8)=true:=by rw[YI,AAh];simp[E8];omega
  have c8:decide ((([]:By)++sub (S.map (ga r)) 0 j).length+(sub (S.map (ga r)) (j+1) (S.map (ga r)).length).length<=E8)=true:=by rw[YI,bJ,AAh];simp[E8];omega
  have c9:∀q:By,decide (((RK (rows.drop 1) (S.eraseIdx j)).take i).length+[q].length<=E8)=true:=λq=>by rw[AAh];simp[E8,RK];omega
  have hw2:PB (((i+1:Nat):Int)+1)=((i+1+1:Nat):Int):=O9 (show i+1<rows.length by omega) J
  have zw:([]:By)++sub (S.map (ga r)) 0 j++sub (S.map (ga r)) (j+1) (S.map (ga r)).length=(S.eraseIdx j).map (ga r):=by rw[YI,bJ,AAy,List.eraseIdx_eq_take_drop_succ,List.map_append,List.map_take,List.map_drop]
  simp only[Ri,hd,ABT,hg,ABS,c1,c2,c3,hw,c4,c5,c6,AB7,ACd,ABW,c7,c8,c9,hw2,zw];congr 4;have hi2:i<(RK (rows.drop 1) (S.eraseIdx j)).length:=by simp[RK];omega
  rw[ABg hi2];congr 2;simp only[RK,ABi,List.getElem_drop];rw[<-hr];congr 3;omega) (by
  have hd:decide (((rows.length-1+1:Nat):Int)<((RK rows S).length:Int))=false:=by rw[AAr,hL];omega
  simp only[Ri,hd,ABV];rw[ABs (by simp[RK]),show rows.length-1+1=rows.length by omega]) n ADW
 unfold TL;grind
theorem Z3(hc:CM a0 m)(h0:a0=[]->m=0)(n:Nat)(hn:PO<=n):∃s,aS n a0=some (PR (pk (PU a0) (List.range m)),s)/\YN (PU a0) (List.range m)=some s:=by
 have hm10:=hc.m10;have hnm:=hc.nm;have rb:=hc.rb;have hR:(PU a0).length=a0.length:=by simp[PU]
 obtain⟨s0,hs0,hL0⟩:=ec hc n hn;have hb0:=mB hL0
 have hnames:iter n (Tx a0) (([]:By),0)=some (PR (List.range m),(m:Int)):=by
  have:=Pc (Tx a0) (λi=>(PR (List.range i),(i:Int))) m (PR (List.range m),(m:Int)) (λi hi=>by
   have hl:0<a0.length:=by
    rcases Nat.eq_zero_or_pos a0.length with e|e
    ·have:=h0 (AAU e);omega
    ·exact e
   have hd:decide ((a0.length:Int)>0)=true:=by rw[AAh];omega
   have hg:Iz a0 0=some a0[0]:=PA hl;have hd2:decide ((i:Int)<(a0[0].length:Int))=true:=by rw[AAh,hc.row _ (ABU hl)];omega
   have hr:decide ((PR (List.range i)).length+[(i:Int)].length<=E8)=true:=SV (by simp[PR];omega);simp only[Tx,hd,ABT,hg,ABS,hd2,hr,O9 hi J];congr 3;simp[PR,ACB]) (by
   by_cases e:a0=[]
   ·subst e;rw[h0 rfl];rfl
   ·have hl:0<a0.length:=List.length_pos_iff.2 e;have hd:decide ((a0.length:Int)>0)=true:=by rw[AAh];omega
    have hg:Iz a0 0=some a0[0]:=PA hl;have hd2:decide ((m:Int)<(a0[0].length:Int))=false:=by rw[AAr,hc.row _ (ABU hl)];omega
    simp only[Tx,hd,ABT,hg,ABS,hd2,ABV]) n ADW
  simpa[PR]using this
 obtain⟨z,hz1,hz⟩:=Ud (f:=V7 n)
  (λk x=>∃(i:Nat) (S:It) (out:By) (left:Int),x=(out,left,RK (a0.drop i) S,PR S)/\i+k=a0.length/\S.Nodup/\(∀k∈S,k<m)/\a0.length-i<=S.length/\S.length<=10/\YN ((PU a0).drop i) S=some left/\out++PR (pk ((PU a0).drop i) S)=PR (pk (PU a0) (List.range m))/\out.length=i)
  (λz=>z.1=PR (pk (PU a0) (List.range m)))
  (λk x hx=>by
   obtain⟨i,S,out,left,rfl,hk,zG,hsm,hl,h10,hb,zt,hol⟩:=hx;have hLen:(RK (a0.drop i) S).length=a0.length-i:=by simp[RK]
   by_cases hi:i=a0.length
   ·left;subst hi;have hd:decide (((RK (a0.drop a0.length) S).length:Int)>0)=false:=by rw[AAr,hLen];omega
    refine⟨(out,left,RK (a0.drop a0.length) S,PR S),by simp only[V7,hd,ABV],?_⟩;rw[List.drop_of_length_le (by rw[hR];exact AAi _)]at zt;simpa only[pk,PR,List.map_nil,AA4]using zt
   ·right;have zc:i<a0.length:=J
    have hd:decide (((RK (a0.drop i) S).length:Int)>0)=true:=by rw[AAh,hLen];omega
    have hdrop:(PU a0).drop i=ga a0[i]::(PU a0).drop (i+1):=by rw[ABj J];congr 1;exact ABi ..
    have yH:=hb;rw[hdrop]at yH;obtain⟨q,hq,hf,y,hy,hxy⟩:=jC yH;obtain⟨hpq,pre,bs,hSab,hfail⟩:=List.find?_eq_some_iff_append.1 hf;have hj:pre.length<S.length:=by rw[hSab];simp
    have hSj:S[pre.length]=q:=by simp[hSab]
    have hg0:Iz (RK (a0.drop i) S) 0=some (S.map (ga a0[i])):=by rw[show(0:Int)=((0:Nat):Int)from rfl,PA (by rw[hLen];omega)];simp[RK]
    have hRd:∀i,PU (a0.drop i)=(PU a0).drop i:=λi=>by simp[PU,List.map_drop]
    have lst:∀j (hj:j<S.length),∃v,Tf n (RK (a0.drop (i+1)) (S.eraseIdx j))=some v/\YN ((PU a0).drop (i+1)) (S.erase S[j])=some v/\0<=v/\v<=1000000:=λj hj=>by
     have hnd2:(S.eraseIdx j).Nodup:=zG.sublist (List.eraseIdx_sublist ..);have yS:(S.eraseIdx j).length=S.length-1:=by rw[List.length_eraseIdx,AAS hj]
     have hsm2:∀k∈S.eraseIdx j,k<m:=λk hk=>hsm k (List.mem_of_mem_eraseIdx hk);obtain⟨v,v1,v2⟩:=ec (qJ hc (i+1) hsm2 J J) n hn
     have v3:qi ((PU a0).drop (i+1)) (S.erase S[j]) v:=by rw[bU zG hj,<-hRd];exact⟨(mV _ hnd2 v).1 v2.1,λy hy=>v2.2 y ((mV _ hnd2 y).2 hy)⟩
     have v4:=mB v3;refine⟨v,v1,v4,dx v4 (λr hr k hk=>(rb.b r (ACD hr) k (hsm k (ABv hk))).1),?_⟩;have:=oH v4 (M:=100000) J (λr hr k hk=>(rb.b r (ACD hr) k (hsm k (ABv hk))).2);rw[ACW,hR]at this;omega
    have wo:∀j,j<S.length->TL n (RK (a0.drop i) S) (j:Int)=some (RK (a0.drop (i+1)) (S.eraseIdx j)):=λj hj=>by
     rw[bG (a0.drop i) ADb h10 hj n hn,List.drop_drop]
    have cost:∀j (hj:j<S.length),Iz (S.map (ga a0[i])) (j:Int)=some (ga a0[i] S[j])/\0<=ga a0[i] S[j]/\ga a0[i] S[j]<=100000:=λj hj=>by refine⟨?_,rb.b (ga a0[i]) (ACa (ABU zc)) _ (hsm _ (ABU hj))⟩;rw[PA ADs];simp
    have xv:iter n (Tz n) (out,left,RK (a0.drop i) S,PR S,0)=some (out++[(q:Int)],y,RK (a0.drop (i+1)) (S.erase q),PR (S.erase q),(pre.length:Int)):=by
     have:=Pc (Tz n) (λj=>(out,left,RK (a0.drop i) S,PR S,(j:Int))) pre.length (out++[(q:Int)],y,RK (a0.drop (i+1)) (S.erase q),PR (S.erase q),(pre.length:Int)) (λj hja=>by
      have hjS:j<S.length:=J
      have hdj:decide ((j:Int)<((S.map (ga a0[i])).length:Int))=true:=by rw[AAh];simp;omega
      obtain⟨v,v1,v2,v3,v4⟩:=lst j hjS;obtain⟨c1,c2,c3⟩:=cost j hjS;have hww:PB (ga a0[i] S[j]+v)=ga a0[i] S[j]+v:=PJ J J
      have yF:(ga a0[i] S[j]+v==left)=false:=by
       have hmem:S[j]∈pre:=by
        have:S[j]=pre[j]:=by simp[hSab,hja]
        rw[this];exact ABU hja
       have:=hfail S[j] hmem;rw[v2,yH]at this;simpa using this
      simp only[Tz,hg0,ABS,hdj,ABT,wo j hjS,c1,v1,hww,yF,ABV,O9 hja J]) (by
      have hdj:decide ((pre.length:Int)<((S.map (ga a0[i])).length:Int))=true:=by rw[AAh];simp;omega
      obtain⟨v,v1,v2,v3,v4⟩:=lst pre.length hj;obtain⟨c1,c2,c3⟩:=cost pre.length hj;rw[hSj]at v2 c1 c2 c3;rw[hy]at v2;injection v2 with v2
      subst v2;have hww:PB (ga a0[i] q+y)=ga a0[i] q+y:=PJ J J;have he:(ga a0[i] q+y==left)=true:=by rw[<-hxy];simp
      have hcl:(PR S).length=S.length:=by simp[PR]
      have i1:OU (PR S) (pre.length:Int)=true:=PE J
      have e1:(PR S)[pre.length]?=some (q:Int):=by unfold PR;rw[AAe,AAM hj,hSj];rfl
      have r1:decide (out.length+[(q:Int)].length<=E8)=true:=SV J;have rB:PB ((pre.length:Int)+1)=((pre.length+1:Nat):Int):=O9 hj J;have hwl:PB (left-ga a0[i] q)=y:=by rw[hxy,PJ J J];omega
      have d1:decide (0<=(0:Int))=true:=rfl;have d2:decide ((0:Int)<=(pre.length:Int))=true:=by rw[AAh];omega
      have d3:decide ((pre.length:Int)<=((PR S).length:Int))=true:=by rw[AAh,hcl];omega
      have d4:decide ((0:Int)<=((pre.length+1:Nat):Int))=true:=by rw[AAh];omega
      have d5:decide (((pre.length+1:Nat):Int)<=((PR S).length:Int))=true:=by rw[AAh,hcl];omega
      have d6:decide (((PR S).length:Int)<=((PR S).length:Int))=true:=so
      have c7:decide (([]:By).length+(sub (PR S) 0 pre.length).length<=E8)=true:=by rw[YI,AAh];simp[E8,PR];omega
      have c8:decide ((([]:By)++sub (PR S) 0 pre.length).length+(sub (PR S) (pre.length+1) (PR S).length).length<=E8)=true:=by rw[YI,bJ,AAh];simp[E8,PR];omega
      have zw:([]:By)++sub (PR S) 0 pre.length++sub (PR S) (pre.length+1) (PR S).length=PR (S.erase q):=by rw[YI,bJ,AAy,<-hSj,bU zG hj,List.eraseIdx_eq_take_drop_succ];simp[PR]
      have hnext:S.eraseIdx pre.length=S.erase q:=by rw[<-bU zG hj,hSj]
      simp only[Tz,hg0,ABS,hdj,ABT,wo pre.length hj,c1,v1,hww,he,i1,e1,r1,d1,d2,d3,d4,d5,d6,rB,hwl,AB7,ACd,ABW,c7,c8,zw];rw[hnext]) n ADW
     simpa using this
    have hpk:pk ((PU a0).drop i) S=q::pk ((PU a0).drop (i+1)) (S.erase q):=by rw[hdrop];simp only[pk,hf]
    have yS:(S.erase q).length=S.length-1:=List.length_erase_of_mem hq;refine⟨(out++[(q:Int)],y,RK (a0.drop (i+1)) (S.erase q),PR (S.erase q)),k-1,?_,⟨i+1,S.erase q,out++[(q:Int)],y,rfl,J,zG.erase q,λk hk=>hsm k (ABv hk),J,J,hy,?_,by simp[hol]⟩,J⟩
    ·simp only[V7,hd,ABT,xv,ABS]
    ·rw[<-zt,hpk];simp[PR])
  n a0.length (([]:By),s0,a0,PR (List.range m)) ⟨0,List.range m,[],s0,by
   congr 3;rw[List.drop_zero];unfold RK;apply AB2 so;intro r h1 h2;rw[ABi];have hl:=hc.row _ (ABU h1);apply AB2 (by simp[hl]);intro k k1 k2;rw[ABi,List.getElem_range];unfold ga;rw[List.getD,AAM k1,ABB],J,AB8,λk hk=>AAb.1 hk,ADb,ADb,hb0,rfl,rfl⟩ ADW
 refine⟨s0,?_,hb0⟩;unfold aS;rw[cJ hc n hn];grind
theorem dy{β:Type}(L:List β×Int->Option ((List β×Int)⊕(List β×Int)))(f:Nat->β)(m:Nat)
  (hL:∀i,i<m->L ((List.range i).map f,(i:Int))=some (.inl ((List.range i).map f++[f i],((i+1:Nat):Int)))) (he:L ((List.range m).map f,(m:Int))=some (.inr ((List.range m).map f,(m:Int)))) (n:Nat) (hn:m<n):
  iter n L ([],0)=some ((List.range m).map f,(m:Int)):=by
 have:=Pc L (λi=>((List.range i).map f,(i:Int))) m ((List.range m).map f,(m:Int)) (λi hi=>by
  rw[hL i hi,ACB,List.map_append];rfl) he n hn
 grind
def UX(w h:Int)(c:By)(a b:Int):Int:=(Vn PO w h c a b).getD (-1)
theorem fX{w:Int}(hc:c.length<=1048576)(hf:PY w h c=true)(a b:Int)(n:Nat)(hn:PO<=n):
  Vn n w h c a b=some (UX w h c a b)/\S9 n w h c a b=some (UX w h c a b) /\ -1<=UX w h c a b/\UX w h c a b<100:=by
 have f:=Tk hf;have hN:=f.le
 have yV:∀(n:Nat),PO<=n->∀i,Ug n w h c i=some (P7 i 0 ((c.length:Int)-1)):=λn hn i=>by unfold Ug;rw[Ps w h c hc n hn,hf,show PB ((c.length:Int)-1)=(c.length:Int)-1 from PJ ADV ADV];simp only[ABS,ABT,QR]
 have hic:∀i,TB w h c i=some (P7 i 0 ((c.length:Int)-1)):=λi=>by unfold TB;rw[show PB ((c.length:Int)-1)=(c.length:Int)-1 from PJ ADV ADV];simp only[ABS,eV];rfl
 have key:∃s, -1<=s/\s<100/\∀n,PO<=n->Vn n w h c a b=some s/\S9 n w h c a b=some s:=by
  cases hb:QU c b with
  |false=>
   refine⟨-1,J,J,λn hn=>⟨?_,?_⟩⟩
   ·unfold Vn Yf;rw[yV n hn b];cases hi:P7 b 0 ((c.length:Int)-1)with
    |false=>rfl
    |true=>
     obtain⟨m,rfl,hm⟩:=ZB hi;unfold QU at hb;rw[hi,ABy]at hb;have hg:(c[m]==0)=true:=by simpa[hm]using hb
     simp only[ABS,ABa,ABV,PA hm,hg,ABT];rfl
   ·obtain⟨k,k1,k2⟩:=S6 w h c hc hf b n hn;rw[hb]at k2;have k3:(k==0)=true:=by simpa using k2
    unfold S9;rw[k1];simp only[ABS,k3,ABT]
  |true=>
   have hbr:0<=b/\b<(c.length:Int):=by unfold QU P7 at hb;simp only[AAN,AAh]at hb;omega
   have hib:P7 b 0 ((c.length:Int)-1)=true:=by unfold P7;simp only[AAN,AAh];omega
   obtain⟨m,rfl,hm⟩:=ZB hib
   have hg:(c[m]==0)=false:=by unfold QU at hb;rw[hib,ABy]at hb;simpa[hm]using hb
   obtain⟨F,hF,hl,hbd⟩:=jh f hbr false;have yF:((F.length:Int)==0)=false:=by simp;intro e;rw[e]at hl;simp at hl;omega
   have hsf:∀n,PO<=n->Yf n w h c (m:Int) false=some F:=λn hn=>by unfold Yf;simp only[yV n hn,hib,ABS,ABa,ABV,PA hm,hg,(hF n hn).1]
   have hkk:∀n,PO<=n->∃k,Q5 n w h c (m:Int)=some k/\(k==0)=false:=λn hn=>by obtain⟨k,k1,k2⟩:=S6 w h c hc hf (m:Int) n hn;rw[hb]at k2;exact⟨k,k1,by simpa using k2⟩
   cases hia:P7 a 0 ((c.length:Int)-1)with
   |false=>
    refine⟨-1,J,J,λn hn=>⟨?_,?_⟩⟩
    ·unfold Vn;simp only[hsf n hn,ABS,yF,ABV,yV n hn,hia,ABn,ABT]
    ·obtain⟨k,k1,k2⟩:=hkk n hn;unfold S9;simp only[k1,ABS,k2,ABV,hic,hia,ABn,ABT]
   |true=>
    obtain⟨q,rfl,hq⟩:=ZB hia;have hqF:q<F.length:=J
    have hb2:=hbd _ (ABU hqF);refine⟨F[q],hb2.1,J,λn hn=>⟨?_,?_⟩⟩
    ·unfold Vn;simp only[hsf n hn,ABS,yF,ABV,yV n hn,hia,ABa,PE hqF,ABW,AAM hqF,ABT]
    ·obtain⟨k,k1,k2⟩:=hkk n hn;unfold S9;simp only[k1,ABS,k2,ABV,hic,hia,ABa,(hF n hn).2,PE hqF,ABW,AAM hqF,ABT]
 obtain⟨s,s1,s2,s3⟩:=key;have e:UX w h c a b=s:=by unfold UX;rw[(s3 PO (AAi _)).1];rfl
 grind
def UY(w h:Int)(c:By)(a b:Int):Int:=if UX w h c a b<0 then 100000 else UX w h c a b
def Rh(a:Is)(id:Int):Int:=(Rp PO a id).getD (-1)
theorem RE(a:Is)(hl:a.length<=1048576)(id:Int)(n:Nat)(hn:PO<=n):Rp n a id=some (Rh a id)/\(Rh a id = -1/\(∀p∈a,p.1≠id)\/∃i,∃h:i<a.length,Rh a id=(i:Int)/\a[i].1=id):=by
 have hs:∀(i:Nat)(x:PK),i<a.length->a[i]?=some x->Rq a id (i:Int)=some (bif x.1==id then .inr (.inr (i:Int))else .inl ((i+1:Nat):Int)):=λi x h1 h2=>by
  have hx:a[i]=x:=by rw[AAM h1]at h2;exact Option.some.inj h2
  simp only[Rq,PA h1,hx,ABS,O9 h1 (show a.length<=9223372036854775807 by clear hn;omega)];rw[show decide ((i:Int)<(a.length:Int))=true by simpa using h1];cases hq:(x.1==id)<;>rfl
 have he:Rq a id (a.length:Int)=some (.inr (.inl (a.length:Int))):=by simp[Rq]
 have key:∃v:Int,(∀n,PO<=n->Rp n a id=some v)/\(v = -1/\(∀p∈a,p.1≠id)\/∃i,∃h:i<a.length,v=(i:Int)/\a[i].1=id):=by
  cases hf:a.findIdx? λp=>p.1==id with
  |none=>
   have hno:∀p∈a,p.1≠id:=λp hp=>by have:=List.findIdx?_eq_none_iff.1 hf p hp;simpa using this
   refine⟨-1,λn hn=>?_,.inl ⟨rfl,hno⟩⟩
   have:=Pc (Rq a id) (λi=>(i:Int)) a.length (.inl (a.length:Int)) (λi hi=>by
    rw[hs i a[i] hi (AAM hi),show(a[i].1==id)=false by simpa using hno _ (ABU hi),ABV]) he n ADW
   unfold Rp;rw[show((0:Nat):Int)=0 from rfl]at this;rw[this];rfl
  |some i=>
   obtain⟨hi,hp,hb⟩:=List.findIdx?_eq_some_iff_getElem.1 hf;have hp':a[i].1=id:=by simpa using hp
   refine⟨(i:Int),λn hn=>?_,.inr ⟨i,hi,rfl,hp'⟩⟩
   have:=Pc (Rq a id) (λi=>(i:Int)) i (.inr (i:Int)) (λj hj=>by
    have yH:=hb j hj;rw[hs j a[j] J (AAM J),show(a[j].1==id)=false by simpa using yH,ABV]) (by
    rw[hs i a[i] hi (AAM hi),show(a[i].1==id)=true by simpa using hp',ABT]) n ADW
   unfold Rp;rw[show((0:Nat):Int)=0 from rfl]at this;rw[this];rfl
 obtain⟨v,v1,v2⟩:=key;have e:Rh a id=v:=by unfold Rh;rw[v1 PO (AAi _)];rfl
 grind
theorem WL:SK=Rp:=rfl
abbrev Pb:=Int×Int×Int×Bool×Int
abbrev ADS:=List Pb
abbrev PV:=Int×Int×Int×Int
abbrev AAA:=List PV
def iw(l:AAA)(r:Pb):Bool:=r.2.2.1 == -1 && !r.2.2.2.1&&l.all λt => !(t.2.2.1==r.1)
def WX(crew:ADS)(l:AAA)(i:Nat):Bool:=match crew[i]? with
 |some r=>iw l r
 |none=>false
def Pj(crew:ADS)(l:AAA):It:=((List.range crew.length).filter (WX crew l)).take 10
theorem aJ{crew:ADS}{l:AAA}(h:k∈Pj crew l):∃hk:k<crew.length,iw l crew[k]=true:=by have:=ACC h;obtain⟨h1,h2⟩:=ABd.1 this;rw[AAb]at h1;refine⟨h1,?_⟩;unfold WX at h2;grind
theorem aI(crew:ADS)(l:AAA):(Pj crew l).length<=10:=by unfold Pj;grind
theorem mv(crew:ADS)(l:AAA):(Pj crew l).Nodup:=(AB8.filter _).sublist (List.take_sublist _ _)
theorem np(xs:It)(k m:Nat):(xs++[k]).take m=if xs.length<m then xs.take m++[k]else xs.take m:=by
 by_cases h:xs.length<m
 ·rw[AAS h,ABs ADb,ABs J]
 grind
theorem ik(crew:ADS)(hc:crew.length<=1048576)(l:AAA)(hl:l.length<=1048576)(n:Nat)(hn:PO<=n):Zk n crew l=some (PR (Pj crew l)):=by
 have xv:∀(r:Pb)(b:Bool),iter n (U5 l r) (b,0)=some (b&&l.all λt => !(t.2.2.1==r.1),(l.length:Int)):=λr b=>by
  have:=Pc (U5 l r) (λk=>(b&&(l.take k).all λt => !(t.2.2.1==r.1),(k:Int))) l.length (b&&l.all λt => !(t.2.2.1==r.1),(l.length:Int)) (λk hk=>by
   rw[ABg hk,List.all_append];simp only[U5,PA hk,ABS,O9 hk (show l.length<=9223372036854775807 by clear hn;omega),List.all_cons,List.all_nil,ACG];rw[show decide ((k:Int)<(l.length:Int))=true by simpa using hk,show(l[k].2.2.1 != r.1) = !(l[k].2.2.1==r.1)from rfl];cases b<;>cases(l.take k).all (λt => !(t.2.2.1==r.1))<;>rfl) (by simp[U5]) n ADW
  grind
 have:=Pc (U4 n crew l) (λi=>(PR (((List.range i).filter (WX crew l)).take 10),(i:Int))) crew.length (PR (Pj crew l),(crew.length:Int)) (λi hi=>by
  have hlen:(PR (((List.range i).filter (WX crew l)).take 10)).length=min 10 ((List.range i).filter (WX crew l)).length:=by simp[PR]
  have hd:decide ((i:Int)<(crew.length:Int))=true:=ADi
  have yE:decide ((PR (((List.range i).filter (WX crew l)).take 10)).length+[(i:Int)].length<=E8)=true:=SV (by rw[hlen];clear hn;omega);have hidle:WX crew l i=iw l crew[i]:=by unfold WX;rw[AAM hi]
  have h10:decide (((PR (((List.range i).filter (WX crew l)).take 10)).length:Int)<10)=decide (((List.range i).filter (WX crew l)).length<10):=by rw[decide_eq_decide,hlen];clear hn;omega
  rw[ACB,ACJ];simp only[U4,hd,ABT,ABS,PA hi,xv,yE,O9 hi (show crew.length<=9223372036854775807 by clear hn;omega),h10];generalize hA:(l.all λt => !(t.2.2.1==crew[i].1))=A;have h2:WX crew l i=(crew[i].2.2.1 == -1 && !crew[i].2.2.2.1&&A):=by rw[hidle,<-hA];rfl
  by_cases hq:((List.range i).filter (WX crew l)).length<10
  ·rw[ABY hq];cases q1:(crew[i].2.2.1 == -1)<;>cases q2:crew[i].2.2.2.1<;>cases A<;>rw[q1,q2]at h2<;>simp[h2,np,hq,PR]
  grind) (by
  have hd:decide ((crew.length:Int)<(crew.length:Int))=false:=so
  simp only[U4,hd,ABV];rfl) n ADW
 unfold Zk;have h2:iter n (U4 n crew l) ([],0)=some (PR (Pj crew l),(crew.length:Int)):=by simpa[PR]using this
 rw[h2];rfl
theorem oG{β:Type}(f:Int->Option (Int⊕(Int⊕Bool)))(xs:List β)(P:β->Bool)(hs:∀(i:Nat)(x:β),i<xs.length->xs[i]?=some x->f (i:Int)=some (bif P x then .inr (.inr true)else .inl ((i+1:Nat):Int)))
  (he:f (xs.length:Int)=some (.inr (.inl (xs.length:Int)))):∀n,xs.length<n->iter n f 0=some (bif xs.any P then .inr true else .inl (xs.length:Int)):=by
 intro n hn;refine W9 f xs (λp l=>bif l.any P then .inr true else .inl (xs.length:Int)) ?_ ?_ n hn
 all_goals grind
theorem P4(a:By)(h:a.length<=1048576)(c:Int)(n:Nat)(hn:PO<=n):Q2 n a c=some (a.any λx=>x==c):=by
 unfold Q2
 rw[oG (UO a c) a (λx=>x==c) (λi x h1 h2=>by
  have hx:a[i]=x:=by rw[AAM h1]at h2;exact Option.some.inj h2
  simp only[UO,PA h1,hx];rw[show decide ((i:Int)<(a.length:Int))=true by simpa using h1];cases hq:(x==c)<;>simp[hq,O9 h1 J]) (by simp[UO]) n ADW]
 grind
theorem Ua:Qg=Q2:=rfl
def WM(s:By)(x:O8):By:=bif s.any (λy=>y==x.1)then s else s++[x.1]
theorem cD(s:By)(x:O8):(WM s x).length<=s.length+1:=by unfold WM;grind
def RM(a:OF):By:=a.foldl WM []
theorem YG:∀(a:OF)(s:By),(a.foldl WM s).length<=s.length+a.length
 | [],s=>so
 |x::a,s=>by have h1:=YG a (WM s x);have h2:=cD s x;grind
theorem ZP(a:OF)(h:a.length<=1048576)(n:Nat)(hn:PO<=n):Xm n a=some (RM a):=by
 have hc:=Ph (σ:=By) (VI n a) (λi s=>(s,(i:Int))) a (λl s=>(l.foldl WM s,(a.length:Int))) (λi s=>s.length<=i)
  (λs hs=>by simp[VI])
  (λi x l s h1 h2 h3 h4 h5=>by
   left;have hx:a[i]=x:=by rw[AAM h1]at h2;exact Option.some.inj h2
   have hr:decide (s.length+1<=E8)=true:=SV J;have ha:=P4 s J x.1 n hn;refine⟨WM s x,?_,by have:=cD s x;omega,so⟩;simp only[VI,PA h1,hx,ABS,ha,O9 h1 J];rw[show decide ((i:Int)<(a.length:Int))=true by simpa using h1];unfold WM;grind)
  n ADW [] (AAi _)
 unfold Xm;rw[show((0:Nat):Int)=0 from rfl]at hc;rw[hc];rfl
theorem XJ(a:OF)(h:a.length<=1048576)(n:Nat)(hn:PO<=n):Ub n a=some (RM a):=by
 have hc:=Ph (σ:=By) (Ux n a) (λi s=>(s,(i:Int))) a (λl s=>(l.foldl WM s,(a.length:Int))) (λi s=>s.length<=i)
  (λs hs=>by simp[Ux])
  (λi x l s h1 h2 h3 h4 h5=>by
   left;have hx:a[i]=x:=by rw[AAM h1]at h2;exact Option.some.inj h2
   have hr:decide (s.length+1<=E8)=true:=SV J;have ha:=P4 s J x.1 n hn;refine⟨WM s x,?_,by have:=cD s x;omega,so⟩;simp only[Ux,PA h1,hx,ABS,Ua,ha,O9 h1 J];rw[show decide ((i:Int)<(a.length:Int))=true by simpa using h1];unfold WM;grind)
  n ADW [] (AAi _)
 unfold Ub;rw[show((0:Nat):Int)=0 from rfl]at hc;rw[hc];rfl
theorem Xn(c:Int)(p:By)(h:p.length<=1048576)(n:Nat)(hn:PO<=n):iter n (RS c p) (([]:ADY),0)=some (p.map λx=>(c,x,(0:Int),(1:Int)),(p.length:Int)):=by
 have hc:=Ph (σ:=ADY) (RS c p) (λi s=>(s,(i:Int))) p (λl s=>(s++l.map λx=>(c,x,(0:Int),(1:Int)),(p.length:Int))) (λi s=>s.length<=i)
  (λs hs=>by simp[RS])
  (λi x l s h1 h2 h3 h4 h5=>by
   left;have hx:p[i]=x:=by rw[AAM h1]at h2;exact Option.some.inj h2
   have hr:decide (s.length+1<=E8)=true:=SV J;exact⟨s++[(c,x,0,1)],by simp[RS,h1,PE h1,hx,O9 h1 J,hr],ADb,so⟩)
  n ADW [] (AAi _)
 grind
theorem dU(a:O5)(h:a.2.2.2.1.length<=1048576)(n:Nat)(hn:PO<=n):Yi n a.1 a.2.1 a.2.2.1 a.2.2.2.1 a.2.2.2.2=some ((RM a.2.2.2.1).map λx=>(a.1,x,(0:Int),(1:Int))):=by
 have hp:(RM a.2.2.2.1).length<=1048576:=by have:=YG a.2.2.2.1 [];simp at this;exact AA5 this h
 unfold Yi;rw[ZP _ h n hn,ABS,Xn a.1 _ hp n hn];rfl
theorem jR:Yr=RS:=rfl
theorem dM(a:O5)(h:a.2.2.2.1.length<=1048576)(n:Nat)(hn:PO<=n):Wo n a.1 a.2.1 a.2.2.1 a.2.2.2.1 a.2.2.2.2=some ((RM a.2.2.2.1).map λx=>(a.1,x,(0:Int),(1:Int))):=by
 have hp:(RM a.2.2.2.1).length<=1048576:=by have:=YG a.2.2.2.1 [];simp at this;exact AA5 this h
 unfold Wo;rw[XJ _ h n hn,ABS,jR,Xn a.1 _ hp n hn];rfl
def a7(a:Is)(tk:By)(t:PV):Bool:=t.2.2.2==1&&decide (Rh a t.2.1>=0) && !(tk.any λy=>y==t.2.1)
def az(a:Is):Nat->By->Nat->AAA->It
 |0,_,_,_=>[]
 |_+1,_,_,[]=>[]
 |m+1,tk,i,t::ts=>bif a7 a tk t then i::az a m (tk++[t.2.1]) (i+1) ts else az a (m+1) tk (i+1) ts
theorem pF(a:Is)(m:Nat)(tk:By)(i:Nat)(t:PV)(ts:AAA):az a (m+1) tk i (t::ts)=bif a7 a tk t then i::az a m (tk++[t.2.1]) (i+1) ts else az a (m+1) tk (i+1) ts:=rfl
theorem du(a:Is)(m:Nat)(tk:By)(i:Nat):az a m tk i []=[]:=by cases m<;>rfl
theorem a8(a:Is):∀(ts:AAA)(m:Nat)(tk:By)(i:Nat),(az a m tk i ts).length<=m
 | [],m,tk,i=>by rw[du];simp
 |t::ts,0,tk,i=>by simp[az]
 |t::ts,m+1,tk,i=>by
  unfold az;cases a7 a tk t with
  |true=>have:=a8 a ts m (tk++[t.2.1]) (i+1);grind
  |false=>simpa only[ABV]using a8 a ts (m+1) tk (i+1)
theorem fL(a:Is):∀(ts:AAA)(m:Nat)(tk:By)(i:Nat),∀x∈az a m tk i ts,i<=x/\∃h:x-i<ts.length,ts[x-i].2.2.2=1/\Rh a ts[x-i].2.1>=0/\ts[x-i].2.1∉tk
 | [],m,tk,i=>by rw[du];simp
 |t::ts,0,tk,i=>by simp[az]
 |t::ts,m+1,tk,i=>by
  intro x hx
  have up:∀(h:i+1<=x) (h2:x-(i+1)<ts.length),∃h:x-i<(t::ts).length,(t::ts)[x-i]=ts[x-(i+1)]:=λh h2=>No
  unfold az at hx;cases hr:a7 a tk t with
  |true=>
   rw[hr,ABT]at hx;rcases AAj.1 hx with rfl|hx
   ·unfold a7 at hr;grind
   ·obtain⟨h1,h2,h3,h4,h5⟩:=fL a ts m (tk++[t.2.1]) (i+1) x hx;grind
  |false=>
   rw[hr,ABV]at hx;obtain⟨h1,h2,h3,h4,h5⟩:=fL a ts (m+1) tk (i+1) x hx;grind
theorem fM(a:Is):∀(ts:AAA)(m:Nat)(tk:By)(i:Nat),(az a m tk i ts).Pairwise λx y=>x<y/\∀(hx:x-i<ts.length)(hy:y-i<ts.length),ts[x-i].2.1≠ts[y-i].2.1
 | [],m,tk,i=>by rw[du];exact List.Pairwise.nil
 |t::ts,0,tk,i=>by simp[az]
 |t::ts,m+1,tk,i=>by
  have up:∀(m:Nat)(tk:By),(az a m tk (i+1) ts).Pairwise λx y=>x<y/\∀(hx:x-i<(t::ts).length) (hy:y-i<(t::ts).length),(t::ts)[x-i].2.1≠(t::ts)[y-i].2.1:=λm tk=>by refine ACF (fun {x y} hx hy hxy=>⟨hxy.1,λh1 h2=>?_⟩) (fM a ts m tk (i+1));obtain⟨x1,x2,_⟩:=fL a ts m tk (i+1) x hx;grind
  unfold az;cases hr:a7 a tk t with
  |true=>
   rw[ABT];refine ABq.2 ⟨λy hy=>?_,up m (tk++[t.2.1])⟩;obtain⟨y1,y2,y3,y4,y5⟩:=fL a ts m (tk++[t.2.1]) (i+1) y hy;grind
  |false=>grind
def Ul(l:AAA):By:=(l.filter λt => !(t.2.2.2==1)).map (·.2.1)
def QL(a:Is)(l:AAA)(m:Nat):It:=az a m (Ul l) 0 l
theorem mj(L:By×Int->Option ((By×Int)⊕(By×Int)))(l:AAA)(hl:l.length<=1048576)
  (hL:∀(i:Nat)(out:By)(hi:i<l.length),out.length<=i->L (out,(i:Int))=some (.inl (bif l[i].2.2.2==1 then out else out++[l[i].2.1],((i+1:Nat):Int)))) (he:∀out,L (out,(l.length:Int))=some (.inr (out,(l.length:Int)))) (n:Nat) (hn:PO<=n):
  iter n L ([],0)=some (Ul l,(l.length:Int)):=by
 have:=Pc L (λi=>(Ul (l.take i),(i:Int))) l.length (Ul l,(l.length:Int)) (λi hi=>by
  rw[hL i _ hi (by unfold Ul;rw[ABp];exact AA5 (ABw _ _) ADb),ABg hi];unfold Ul;grind) No n ADW
 simpa[Ul]using this
theorem pE(L:By×By×Int->Option ((By×By×Int)⊕(By×By×Int)))(a:Is)(l:AAA)(M:Nat)(tk0:By)
  (hgo:∀(i:Nat)(out tk:By)(hi:i<l.length),out.length<M->out.length<=i->tk.length<=tk0.length+i->L (out,tk,(i:Int))=some (.inl (bif a7 a tk l[i]then(out++[(i:Int)],tk++[l[i].2.1],((i+1:Nat):Int))else(out,tk,((i+1:Nat):Int)))))
  (hfull:∀(i:Nat)(out tk:By)(hi:i<l.length),out.length=M->tk.length<=tk0.length+i->L (out,tk,(i:Int))=some (.inl (out,tk,((i+1:Nat):Int)))\/L (out,tk,(i:Int))=some (.inr (out,tk,(i:Int))))
  (hend:∀(out tk:By),L (out,tk,(l.length:Int))=some (.inr (out,tk,(l.length:Int)))) (n:Nat) (hn:l.length<n):
  ∃z,z.1=PR (az a M tk0 0 l)/\iter n L ([],tk0,0)=some z:=by
 refine Ud (f:=L) (λk x=>∃(i:Nat) (out:It) (tk:By),x=(PR out,tk,(i:Int))/\i+k=l.length/\out.length<=M/\out.length<=i/\tk.length<=tk0.length+i/\out++az a (M-out.length) tk i (l.drop i)=az a M tk0 0 l)
  (λz=>z.1=PR (az a M tk0 0 l)) (λk x hx=>?_) n l.length ([],tk0,0) ⟨0,[],tk0,rfl,J,so,so,so,so⟩ hn
 obtain⟨i,out,tk,rfl,hk,h1,h2,h3,h4⟩:=hx;have hcl:(PR out).length=out.length:=by simp[PR]
 by_cases hi:i<l.length
 ·by_cases hM:out.length=M
  ·rcases hfull i (PR out) tk hi J h3 with e|e
   ·refine .inr ⟨_,k-1,e,⟨i+1,out,tk,rfl,J,h1,J,J,?_⟩,J⟩;rw[<-h4,hM,ACS];simp[az]
   ·refine .inl ⟨_,e,?_⟩;show PR out=_;rw[<-h4,hM,ACS];simp[az]
  ·have e:=hgo i (PR out) tk hi J J h3;have hd:l.drop i=l[i]::l.drop (i+1):=ABj hi;obtain⟨m,hm⟩:∃m,M-out.length=m+1:=⟨M-out.length-1,J⟩;rw[hd,hm,pF]at h4;cases hr:a7 a tk l[i]with
   |true=>
    rw[hr,ABT]at e h4;refine .inr ⟨_,k-1,e,⟨i+1,out++[i],tk++[l[i].2.1],by simp[PR],J,ADb,ADb,ADb,?_⟩,J⟩;rw[<-h4,ABk];congr 1;rw[show M-(out++[i]).length=m by simp;omega];rfl
   |false=>
    rw[hr,ABV]at e h4;refine .inr ⟨_,k-1,e,⟨i+1,out,tk,rfl,J,h1,J,J,?_⟩,J⟩;grind
 ·have hie:i=l.length:=J
  subst hie;refine .inl ⟨_,hend _ _,?_⟩;show PR out=_;rw[<-h4,List.drop_length,du,AA4]
theorem gM(a:Is)(ha:a.length<=1048576)(l:AAA)(hl60:l.length<=60)(M:Nat)(n:Nat)(hn:PO<=n):YX n a l (M:Int)=some (PR (QL a l M)):=by
 have hl:l.length<=1048576:=ADV
 have h1:=mj (V3 l) l hl (λi out hi ho=>by
  have hd:decide ((i:Int)<(l.length:Int))=true:=ADi
  have hr:decide (out.length+[l[i].2.1].length<=E8)=true:=SV ADV;simp only[V3,hd,ABT,PA hi,ABS,hr,O9 hi (show l.length<=9223372036854775807 by clear hn;omega),bne];grind) (λout=>by simp[V3]) n hn
 have hbl:(Ul l).length<=60:=by unfold Ul;rw[ABp];exact AA5 (ABw _ _) hl60
 obtain⟨z,z1,z2⟩:=pE (Tt n a l (M:Int)) a l M (Ul l) (λi out tk hi h1 h2 h3=>by
  have hd:decide ((i:Int)<(l.length:Int))=true:=ADi
  have hd2:decide ((out.length:Int)<(M:Int))=true:=by rw[AAh];clear hn;omega
  have hr:decide (out.length+[(i:Int)].length<=E8)=true:=SV ADV
  have hr2:decide (tk.length+[l[i].2.1].length<=E8)=true:=by rw[AAh];simp[E8];clear hn;omega
  simp only[Tt,WL,Ua,hd,hd2,ABT,PA hi,ABS,hr,hr2,O9 hi (show l.length<=9223372036854775807 by clear hn;omega),(RE a ha l[i].2.1 n hn).1];have ham:Q2 n tk l[i].2.1=some (tk.any λy=>y==l[i].2.1):=P4 tk ADV _ n hn;simp only[ham,ABS];unfold a7;grind) (λi out tk hi h1 h3=>by
  left;have hd:decide ((i:Int)<(l.length:Int))=true:=ADi
  have hd2:decide ((out.length:Int)<(M:Int))=false:=by rw[AAr];clear hn;omega
  obtain⟨b,hb⟩:∃b,Q2 n tk l[i].2.1=some b:=⟨_,P4 tk ADV _ n hn⟩;simp only[Tt,WL,Ua,hd,hd2,ABT,ABV,PA hi,ABS,O9 hi (show l.length<=9223372036854775807 by clear hn;omega),(RE a ha l[i].2.1 n hn).1,hb];grind) (λout tk=>by
  have hd:decide ((l.length:Int)<(l.length:Int))=false:=so
  simp only[Tt,hd,ABV]) n ADW
 unfold YX;rw[h1];simp only[ABS,z2,z1];rfl
def Zn(crew:ADS)(k:Nat):Pb:=crew.getD k (0,0,0,false,0)
def YL(l:AAA)(i:Nat):PV:=l.getD i (0,0,0,0)
theorem mP{crew:ADS}(h:k<crew.length):crew[k]?=some (Zn crew k):=by unfold Zn;grind
theorem ma{l:AAA}(h:k<l.length):l[k]?=some (YL l k):=by unfold YL;grind
def QY(a:Is)(id:Int):Int:=match a[(Rh a id).toNat]? with
 |some p=>p.2.1
 |none=>0
def RJ(a:Is)(crew:ADS)(l:AAA)(p:Nat×Nat)(st:ADS×AAA):ADS×AAA:=
 (List.modify (List.modify st.1 p.2 λy=>(y.1,y.2.1,QY a (YL l p.1).2.1,y.2.2.2.1,y.2.2.2.2)) p.2 λy=>(y.1,y.2.1,y.2.2.1,y.2.2.2.1,0),
  List.modify (List.modify st.2 p.1 λy=>(y.1,y.2.1,(Zn crew p.2).1,y.2.2.2)) p.1 λy=>(y.1,y.2.1,y.2.2.1,2))
def sendAll(a:Is)(crew:ADS)(l:AAA)(prs:List (Nat×Nat)):ADS×AAA:=prs.foldl (λst p=>RJ a crew l p st) (crew,l)
structure SI(crew:ADS)(l:AAA)(st:ADS×AAA):Prop where
 l1:st.1.length=crew.length
 l2:st.2.length=l.length
 id:∀k,k<crew.length->∃r,st.1[k]?=some r/\r.1=(Zn crew k).1
 PH:∀i,i<l.length->∃t,st.2[i]?=some t/\t.2.1=(YL l i).2.1
theorem SI.first(crew:ADS)(l:AAA):SI crew l (crew,l):=⟨rfl,rfl,λk h=>⟨_,mP h,rfl⟩,λi h=>⟨_,ma h,rfl⟩⟩
theorem SI.one{a:Is}{crew:ADS}{l:AAA}{st:ADS×AAA}(h:SI crew l st)(p:Nat×Nat):SI crew l (RJ a crew l p st):=by
 refine⟨by simp[RJ,h.l1],by simp[RJ,h.l2],λk hk=>?_,λi hi=>?_⟩
 ·obtain⟨r,h1,h2⟩:=h.id k hk;simp only[RJ,ABf,h1];grind
 ·obtain⟨r,h1,h2⟩:=h.PH i hi;simp only[RJ,ABf,h1];grind
theorem SI.all{a:Is}{crew:ADS}{l:AAA}:∀(prs:List (Nat×Nat)) (st:ADS×AAA),SI crew l st->SI crew l (prs.foldl (λst p=>RJ a crew l p st) st)
 | [],st,h=>h
 |p::prs,st,h=>SI.all prs _ (h.one p)
def XE(w h:Int)(c:By)(a:Is)(crew:ADS)(l:AAA):List By:=
 (QL a l (Pj crew l).length).map λt=>(Pj crew l).map λk=>UY w h c (Zn crew k).2.1 (QY a (YL l t).2.1)
def RL(w h:Int)(c:By)(a:Is)(crew:ADS)(l:AAA):It:=pk (PU (XE w h c a crew l)) (List.range (Pj crew l).length)
def Yt(w h:Int)(c:By)(a:Is)(crew:ADS)(l:AAA)(j:Nat):Option (Nat×Nat):=
 if UY w h c (Zn crew ((Pj crew l).getD ((RL w h c a crew l).getD j 0) 0)).2.1 (QY a (YL l ((QL a l (Pj crew l).length).getD j 0)).2.1)<100000
 then some ((QL a l (Pj crew l).length).getD j 0,(Pj crew l).getD ((RL w h c a crew l).getD j 0) 0)else none
def Pt(w h:Int)(c:By)(a:Is)(crew:ADS)(l:AAA):List (Nat×Nat):=(List.range (RL w h c a crew l).length).filterMap (Yt w h c a crew l)
def ky(w h:Int)(c:By)(a:Is)(crew:ADS)(l:AAA):Bool:=Pw a&&S1 w h c crew&&Sy l
def mD(w h:Int)(c:By)(a:Is)(crew:ADS)(l:AAA):ADS×AAA:=bif ky w h c a crew l then sendAll a crew l (Pt w h c a crew l)else(crew,l)
theorem pq{w:Int}(hc:c.length<=1048576)(hf:PY w h c=true)(a b:Int):0<=UY w h c a b/\UY w h c a b<=100000:=by obtain⟨_,_,h1,h2⟩:=fX hc hf a b PO (AAi _);unfold UY;omega
theorem jf{w:Int}(hc:c.length<=1048576)(hf:PY w h c=true)(a:Is)(crew:ADS)(l:AAA):CM (XE w h c a crew l) (Pj crew l).length:=by
 refine⟨λr hr=>?_,?_,aI crew l,λr hr x hx=>?_⟩
 ·obtain⟨t,_,rfl⟩:=AAw.1 hr;simp
 ·unfold XE;rw[ABp];exact a8 a l _ _ _
 ·obtain⟨t,_,rfl⟩:=AAw.1 hr;obtain⟨k,_,rfl⟩:=AAw.1 hx;exact pq hc hf _ _
theorem kt{M:List By}(hc:CM M m)(n:Nat)(hn:PO<=n):∃s,XI n M=some (PR (pk (PU M) (List.range m)),s)/\aS n M=some (PR (pk (PU M) (List.range m)),s):=by
 by_cases h0:M=[]
 ·subst h0;have hc0:CM [] 0:=⟨so,so,J,so⟩;obtain⟨s,s1,s2⟩:=Zy hc0 (λ_=>rfl) n hn;obtain⟨s',s3,s4⟩:=Z3 hc0 (λ_=>rfl) n hn;rw[s2]at s4;injection s4 with s4
  subst s4;exact⟨s,s1,s3⟩
 ·obtain⟨s,s1,s2⟩:=Zy hc (λe=>absurd e h0) n hn;obtain⟨s',s3,s4⟩:=Z3 hc (λe=>absurd e h0) n hn;grind
theorem ZD{β:Type}(F:Nat->β)(s:It):(List.range s.length).map (λi=>F (s.getD i 0))=s.map F:=by apply AB2 so;grind
theorem X8{s:It}(h:i<s.length):OU (PR s) (i:Int)=true/\(PR s)[i]?=some ((s.getD i 0:Nat):Int):=by refine⟨PE (by simpa[PR]using h),?_⟩;unfold PR;grind
theorem XG{s:It}(h:i<s.length):s.getD i 0∈s:=No
theorem ZL{a:Is}(ha:a.length<=1048576){l:AAA}{M t:Nat}(h:t∈QL a l M):t<l.length/\(YL l t).2.2.2=1/\(YL l t).2.1∉Ul l/\∃i,∃hi:i<a.length,Rh a (YL l t).2.1=(i:Int)/\a[i].1=(YL l t).2.1/\QY a (YL l t).2.1=a[i].2.1:=by
 obtain⟨_,h2,h3,h4,h5⟩:=fL a l M (Ul l) 0 t h;simp only[Nat.sub_zero]at h2 h3 h4 h5;have e:YL l t=l[t]:=by unfold YL;rw[List.getD,AAM h2];rfl
 rw[e];refine⟨h2,h3,h5,?_⟩;rcases(RE a ha l[t].2.1 PO (AAi _)).2 with⟨q,_⟩|⟨i,hi,q,q2⟩
 ·omega
 ·refine⟨i,hi,q,q2,?_⟩;unfold QY;grind
end Go.Ev.N
