/- FnTop,as a plain law oZ native forms: what the program's function answers is what the reference's answers. Conditions: none but the lengths' and numbers' bounds. -/
import Derived.Test.YthlchdmdanagkaaGreatFnTopNat
set_option linter.all false
namespace Go.Ev.N
open Go Go.Ev
theorem ABP:type_of% @Option.bind_some:=@Option.bind_some
theorem ABQ:type_of% @cond_true:=@cond_true
theorem ABR:type_of% @List.getElem_mem:=@List.getElem_mem
theorem ABS:type_of% @cond_false:=@cond_false
theorem ABT:type_of% @Int.toNat_natCast:=@Int.toNat_natCast
theorem ABU:type_of% @List.mem_iff_getElem:=@List.mem_iff_getElem
theorem ABV:type_of% @decide_eq_true:=@decide_eq_true
theorem ABW:type_of% @beq_eq_false_iff_ne:=@beq_eq_false_iff_ne
theorem ABX:type_of% @Bool.not_true:=@Bool.not_true
theorem ABY:type_of% @List.length_singleton:=@List.length_singleton
theorem ABZ:type_of% @decide_eq_false:=@decide_eq_false
theorem ABa:type_of% @List.mem_singleton:=@List.mem_singleton
theorem ABb:type_of% @List.mem_filter:=@List.mem_filter
theorem ABc:type_of% @List.take_succ_eq_append_getElem:=@List.take_succ_eq_append_getElem
theorem ABd:type_of% @List.getElem?_modify:=@List.getElem?_modify
theorem ABe:type_of% @Nat.lt_trichotomy:=@Nat.lt_trichotomy
theorem ABf:type_of% @List.append_nil:=@List.append_nil
theorem ABg:type_of% @List.map_congr_left:=@List.map_congr_left
theorem ABh:type_of% @List.getElem_map:=@List.getElem_map
theorem ABi:type_of% @List.drop_eq_getElem_cons:=@List.drop_eq_getElem_cons
theorem ABj:type_of% @List.append_assoc:=@List.append_assoc
theorem ABk:type_of% @List.pairwise_map:=@List.pairwise_map
theorem ABl:type_of% @List.length_map:=@List.length_map
theorem ABm:type_of% @List.mem_of_find?_eq_some:=@List.mem_of_find?_eq_some
theorem ABn:type_of% @List.pairwise_cons:=@List.pairwise_cons
theorem ABo:type_of% @List.length_filter_le:=@List.length_filter_le
theorem ABp:type_of% @Bool.not_false:=@Bool.not_false
theorem ABq:type_of% @List.pairwise_append:=@List.pairwise_append
theorem ABr:type_of% @Bool.not_eq_true:=@Bool.not_eq_true
theorem ABs:type_of% @List.mem_of_mem_erase:=@List.mem_of_mem_erase
theorem ABt:type_of% @List.ext_getElem?:=@List.ext_getElem?
theorem ABu:type_of% @beq_self_eq_true:=@beq_self_eq_true
theorem ABv:type_of% @List.filter_cons:=@List.filter_cons
theorem ABw:type_of% @Bool.true_and:=@Bool.true_and
theorem ABx:type_of% @List.take_of_length_le:=@List.take_of_length_le
theorem ABy:type_of% @Bool.eq_iff_iff:=@Bool.eq_iff_iff
theorem ABz:type_of% @Nat.le_add_right:=@Nat.le_add_right
theorem AB0:type_of% @List.ext_getElem:=@List.ext_getElem
theorem AB1:type_of% @List.range_succ:=@List.range_succ
theorem AB2:type_of% @List.nodup_range:=@List.nodup_range
theorem AB3:type_of% @Bool.false_and:=@Bool.false_and
theorem AB4:type_of% @List.singleton_append:=@List.singleton_append
theorem AB5:type_of% @bne_iff_ne:=@bne_iff_ne
theorem AB6:type_of% @List.Pairwise.imp_of_mem:=@List.Pairwise.imp_of_mem
theorem AB7:type_of% @Bool.and_true:=@Bool.and_true
theorem AB8:type_of% @List.getElem_of_mem:=@List.getElem_of_mem
theorem AB9:type_of% @List.getElem_cons_zero:=@List.getElem_cons_zero
theorem ACA:type_of% @List.find?_eq_none:=@List.find?_eq_none
theorem ACB:type_of% @List.filter_append:=@List.filter_append
theorem ACC:type_of% @Bool.and_self:=@Bool.and_self
theorem ACD:type_of% @List.take_append_drop:=@List.take_append_drop
theorem ACE:type_of% @List.set_append_right:=@List.set_append_right
theorem ACF:type_of% @List.getElem?_set:=@List.getElem?_set
theorem ACG:type_of% @List.mem_of_mem_drop:=@List.mem_of_mem_drop
theorem ACH:type_of% @List.find?_map:=@List.find?_map
theorem ACI:type_of% @Int.add_assoc:=@Int.add_assoc
theorem ACJ:type_of% @List.find?_some:=@List.find?_some
theorem ACK:type_of% @List.map_map:=@List.map_map
theorem ACL:type_of% @List.filter_eq_nil_iff:=@List.filter_eq_nil_iff
theorem ACN:type_of% @Bool.and_eq_false_iff:=@Bool.and_eq_false_iff
theorem ACO:type_of% @List.replicate_succ':=@List.replicate_succ'
theorem ACP:type_of% @List.mem_of_mem_take:=@List.mem_of_mem_take
theorem ACQ:type_of% @List.mem_map_of_mem:=@List.mem_map_of_mem
theorem ACR:type_of% @Nat.sub_self:=@Nat.sub_self
theorem ACS:type_of% @List.set_cons_zero:=@List.set_cons_zero
theorem ACT:type_of% @Int.toNat_zero:=@Int.toNat_zero
theorem ACU:type_of% @Int.le_refl:=@Int.le_refl
theorem ACV:type_of% @List.any_cons:=@List.any_cons
theorem ACW:type_of% @List.getElem?_replicate:=@List.getElem?_replicate
theorem PA{n:Int}(h1 : -9223372036854775808<=n)(h2:n<=9223372036854775807):O5 n=n:=by unfold O5 IntKind.wrap;simp only[IntKind.bits,IntKind.signed];grind
theorem O1{i m:Nat}(h:i<m)(hm:m<=9223372036854775807):O5 ((i:Int)+1)=((i+1:Nat):Int):=by rw[PA J J];omega
theorem RC{α:Type}(xs:List α)(i:Nat):Iv xs (i:Int)=xs[i]?:=by unfold Iv;grind
theorem O3{α:Type}{xs:List α}{i:Nat}(h:i<xs.length):Iv xs (i:Int)=some xs[i]:=by rw[RC];grind
theorem pM{α:Type}(xs:List α)(i:Nat):ON xs (i:Int)=decide (i<xs.length):=by unfold ON;grind
theorem O6{α:Type}{xs:List α}{i:Nat}(h:i<xs.length):ON xs (i:Int)=true:=by rw[pM];simpa using h
theorem Pz{α:Type}(l:List α)(n:Nat)(y:α):DL l n y=l.set n y:=CG l n y
def xW{α:Type}(p:α->Prop)(x:List α):Prop:=List.length x<=maxLen/\∀y,List.Mem y x->p y
section
variable {α γ σ β:Type}
theorem SR{f:α->Option (α⊕γ)}{x y:α}(h:f x=some (.inl y))(n:Nat):iter (n+1) f x=iter n f y:=by simp[iter,h]
theorem Po{f:α->Option (α⊕γ)}{x:α}{z:γ}(h:f x=some (.inr z))(n:Nat):iter (n+1) f x=some z:=by simp[iter,h]
theorem Pa(f:α->Option (α⊕γ))(st:Nat->α)(m:Nat)(r:γ)(hs:∀i,i<m->f (st i)=some (.inl (st (i+1))))(he:f (st m)=some (.inr r)):∀n,m<n->iter n f (st 0)=some r:=by
 have key:∀d i n,i+d=m->d<n->iter n f (st i)=some r:=by
  intro d
  induction d with
  |zero=>
   intro i n hi hn;obtain⟨n,rfl⟩:∃k,n=k+1:=⟨n-1,J⟩;have:i=m:=J
   subst this;exact Po he n
  |succ d ih=>
   intro i n hi hn;obtain⟨n,rfl⟩:∃k,n=k+1:=⟨n-1,J⟩;rw[SR (hs i J) n];exact ih (i+1) n J J
 grind
theorem PV(f:α->Option (α⊕γ))(st:Nat->σ->α)(xs:List β)(G:List β->σ->γ)(Inv:Nat->σ->Prop)
  (hend:∀s,Inv xs.length s->f (st xs.length s)=some (.inr (G [] s)))
  (hstep:∀i x l s,i<xs.length->xs[i]?=some x->xs.drop i=x::l->xs.drop (i+1)=l->Inv i s->(∃s',f (st i s)=some (.inl (st (i+1) s'))/\Inv (i+1) s'/\G (x::l) s=G l s')\/f (st i s)=some (.inr (G (x::l) s))):
  ∀n,xs.length<n->∀s,Inv 0 s->iter n f (st 0 s)=some (G xs s):=by
 have key:∀d i n s,i+d=xs.length->d<n->Inv i s->iter n f (st i s)=some (G (xs.drop i) s):=by
  intro d
  induction d with
  |zero=>
   intro i n s hi hn hI;obtain⟨n,rfl⟩:∃k,n=k+1:=⟨n-1,J⟩;have:i=xs.length:=J
   subst this;rw[Po (hend s hI) n,List.drop_length]
  |succ d ih=>
   intro i n s hi hn hI;obtain⟨n,rfl⟩:∃k,n=k+1:=⟨n-1,J⟩;have zj:i<xs.length:=J
   have hd:xs.drop i=xs[i]::xs.drop (i+1):=ABi zj;rcases hstep i xs[i] (xs.drop (i+1)) s zj (AAM zj) hd rfl hI with⟨s',h1,h2,h3⟩|h1
   ·rw[SR h1 n,ih (i+1) n s' J J h2,hd,h3]
   ·rw[Po h1 n,hd]
 grind
theorem XR(f:Int->Option (Int⊕γ))(xs:List β)(G:List β->List β->γ)(hend:f (xs.length:Int)=some (.inr (G xs [])))
  (hstep:∀i x l p,i<xs.length->xs[i]?=some x->xs=p++x::l->p.length=i->p=xs.take i->(f (i:Int)=some (.inl ((i+1:Nat):Int))/\G p (x::l)=G (p++[x]) l)\/f (i:Int)=some (.inr (G p (x::l)))):
  ∀n,xs.length<n->iter n f 0=some (G [] xs):=by
 intro n hn;refine PV (σ:=List β) f (λi _=>(i:Int)) xs (λl p=>G p l) (λi p=>p=xs.take i) (λs hs=>?_) (λi x l s h1 h2 h3 h4 h5=>?_) n hn [] AAA
 ·grind
 ·have hlen:s.length=i:=by rw[h5];simp;omega
  have hx:xs=s++x::l:=by rw[<-h3,h5,ACD]
  grind
end
theorem RZ{β:Type}(f:Int->Option (Int⊕(Int⊕Bool)))(xs:List β)(P:β->Bool)(hs:∀(i:Nat)(x:β),i<xs.length->xs[i]?=some x->f (i:Int)=some (bif P x then .inl ((i+1:Nat):Int)else .inr (.inr false)))
  (he:f (xs.length:Int)=some (.inr (.inl (xs.length:Int)))):∀n,xs.length<n->iter n f 0=some (bif xs.all P then .inl (xs.length:Int)else .inr false):=by
 intro n hn;refine XR f xs (λp l=>bif l.all P then .inl (xs.length:Int)else .inr false) ?_ ?_ n hn
 all_goals grind
theorem mS{α:Type}(b:Bool)(x y:α):(bif b then some x else some y)=some (bif b then x else y):=No
def PE:Nat:=18446744073709551616
theorem ADU{p:Prop}(h:p:=by unfold PE at hn;omega):p:=h
theorem eo{α:Type}(xs:List α)(i:Nat)(f:α->α)(h:i<xs.length):List.modify xs i f=xs.set i (f xs[i]):=by
 apply AB0
 all_goals grind
def kE(a:List (Int×Int)):Prop:=a.length<=1048576
def kF(a:List (Int×Int×Int)):Prop:=a.length<=1048576
def a7(a:Int×Int×(List (Int×Int))×(List (Int×Int×Int))×Int):Prop:=kE a.2.2.1/\kF a.2.2.2.1
def nG(a:List (Int×Int×(List (Int×Int))×(List (Int×Int×Int))×Int)):Prop:=a.length<=1048576/\∀y∈a,a7 y
def QT(a:Int×(List (Int×Int×(List (Int×Int))×(List (Int×Int×Int))×Int))):Prop:=nG a.2
def jE(a:By):Prop:=a.length<=1048576
def oy(a:Int×Int×By):Prop:=jE a.2.2
def nJ(a:List (Int×Int×Int)):Prop:=a.length<=1048576
def rJ(a:Int×Int×(List (Int×Int×Int))):Prop:=nJ a.2.2
def Pb(a:List (Int×Int×(List (Int×Int×Int)))):Prop:=a.length<=1048576/\∀y∈a,rJ y
def oz(a:(List (Int×Int×(List (Int×Int×Int))))):Prop:=Pb a
def nH(a:List (Int×Int×Int×Bool×Int)):Prop:=a.length<=1048576
def o3(a:List (Int×Int×Int×Int)):Prop:=a.length<=1048576
def az(a:Int×Int×By×(List (Int×Int×(List (Int×Int×Int))))×Int×(List (Int×Int×(List (Int×Int))×(List (Int×Int×Int))×Int))×(List (Int×Int×Int×Bool×Int))×(List (Int×Int×Int×Int))×By×By×Int):Prop:=oy (a.1,a.2.1,a.2.2.1)/\oz a.2.2.2.1/\QT (a.2.2.2.2.1,a.2.2.2.2.2.1)/\nH a.2.2.2.2.2.2.1/\o3 a.2.2.2.2.2.2.2.1/\jE a.2.2.2.2.2.2.2.2.1/\jE a.2.2.2.2.2.2.2.2.2.1
theorem Rr{m:Nat}(h:m<=1048576):decide (m+1<=E7)=true:=by have hm:E7=68719476736:=rfl;grind
theorem Um{m:Nat}(h:m<=1048576):decide (m<=E7)=true:=by have hm:E7=68719476736:=rfl;grind
theorem oD{α γ:Type}(f g:α->Option (α⊕γ))(I:Nat->α->Prop)(Q:γ->Prop)(m:Nat)
  (h:∀i x,i<=m->I i x->g x=f x/\((∃y,f x=some (.inl y)/\I (i+1) y/\i<m)\/∃r,f x=some (.inr r)/\Q r)):
  ∀n,m<n->∀x,I 0 x->iter n g x=iter n f x/\∃r,iter n f x=some r/\Q r:=by
 have key:∀d i n x,i+d=m->d<n->I i x->iter n g x=iter n f x/\∃r,iter n f x=some r/\Q r:=by
  intro d
  induction d with
  |zero=>
   intro i n x hi hn hI;obtain⟨n,rfl⟩:∃k,n=k+1:=⟨n-1,J⟩;obtain⟨e,h1|⟨r,h1,h2⟩⟩:=h i x J hI
   ·obtain⟨y,_,_,zj⟩:=h1;omega
   ·exact⟨by rw[Po h1 n,Po (e.trans h1) n],r,Po h1 n,h2⟩
  |succ d ih=>
   intro i n x hi hn hI;obtain⟨n,rfl⟩:∃k,n=k+1:=⟨n-1,J⟩;obtain⟨e,⟨y,h1,h2,_⟩|⟨r,h1,h2⟩⟩:=h i x J hI
   ·obtain⟨j1,j2⟩:=ih (i+1) n y J J h2;rw[SR h1 n,SR (e.trans h1) n];exact⟨j1,j2⟩
   ·exact⟨by rw[Po h1 n,Po (e.trans h1) n],r,Po h1 n,h2⟩
 grind
theorem dR(a:Ox)(h:a.2.2.2.1.length<=1048576)(c:Int)(n:Nat)(hn:PE<=n):XB n a.1 a.2.1 a.2.2.1 a.2.2.2.1 a.2.2.2.2 c=some (a.2.2.2.1.filter λx=>x.1==c):=by
 have hc:=PV (σ:=OF) (Sg a.2.2.2.1 c) (λi s=>(s,(i:Int))) a.2.2.2.1 (λl s=>(s++l.filter λx=>x.1==c,(a.2.2.2.1.length:Int))) (λi s=>s.length<=i)
  (λs hs=>by simp[Sg])
  (λi x l s h1 h2 h3 h4 h5=>by
   left;have hx:a.2.2.2.1[i]=x:=by rw[AAM h1]at h2;exact Option.some.inj h2
   have hr:decide (s.length+1<=E7)=true:=Rr J;cases hq:x.1==c with
   |true=>exact⟨s++[x],by simp[Sg,h1,O3 h1,hx,hq,O1 h1 J,hr],ADY,by simp[hq]⟩
   |false=>exact⟨s,by simp[Sg,h1,O3 h1,hx,hq,O1 h1 J],J,by simp[hq]⟩)
  n ADU [] (AAh _)
 unfold XB;grind
theorem Y7(a:Ox)(h:a.2.2.2.1.length<=1048576)(c:Int)(n:Nat)(hn:PE<=n):U9 n a.1 a.2.1 a.2.2.1 a.2.2.2.1 a.2.2.2.2 c=some (a.2.2.2.1.filter λx=>x.1==c):=by
 have hc:=PV (σ:=OF) (Sc a.2.2.2.1 c) (λi s=>(s,(i:Int))) a.2.2.2.1 (λl s=>(s++l.filter λx=>x.1==c,(a.2.2.2.1.length:Int))) (λi s=>s.length<=i)
  (λs hs=>by simp[Sc])
  (λi x l s h1 h2 h3 h4 h5=>by
   left;have hx:a.2.2.2.1[i]=x:=by rw[AAM h1]at h2;exact Option.some.inj h2
   have hr:decide (s.length+1<=E7)=true:=Rr J;cases hq:x.1==c with
   |true=>exact⟨s++[x],by simp[Sc,h1,O3 h1,hx,hq,O1 h1 J,hr],ADY,by simp[hq]⟩
   |false=>exact⟨s,by simp[Sc,h1,O3 h1,hx,hq,O1 h1 J],J,by simp[hq]⟩)
  n ADU [] (AAh _)
 unfold U9;grind
def ur(x:Int):Prop:=IntKind.min .u8<=x/\x<=IntKind.max .u8
theorem aY(x:Int):0<=N3 .i64 x 255/\N3 .i64 x 255<=255:=by
 unfold N3
 have h:(BitVec.ofInt (IntKind.bits .i64) x &&& BitVec.ofInt (IntKind.bits .i64) 255).toNat<=255:=by
  rw[BitVec.toNat_and];have:(BitVec.ofInt (IntKind.bits .i64) 255).toNat=255:=ADb
  rw[this];exact Nat.and_le_right
 generalize (BitVec.ofInt (IntKind.bits .i64) x &&& BitVec.ofInt (IntKind.bits .i64) 255).toNat=m at h;have:IntKind.wrap .i64 (m:Int)=(m:Int):=PA J J;omega
theorem bm(b:By)(i h:Int)(hi:0<=i)(hb:b.length<=1048576):∃x i' h':Int,TR b i h=some (x,b,i',h')/\0<=x/\x<=255/\0<=i':=by
 unfold TR;rw[show decide ((0:Nat)<=33)=true from rfl,show decide ((0:Nat)<=47)=true from rfl];simp only[ABQ];by_cases hl:i<(b.length:Int)
 ·obtain⟨j,rfl⟩:∃j:Nat,i=(j:Int):=⟨i.toNat,J⟩;have hj:j<b.length:=J
  rw[show decide ((j:Int)<(b.length:Int))=true by grind,ABQ,O3 hj];simp only[ABP];refine⟨_,_,_,rfl,(aY _).1,(aY _).2,?_⟩;rw[O1 hj J];omega
 ·rw[show decide (i<(b.length:Int))=false by grind,ABS];simp only[ABP];exact⟨_,_,_,rfl,(aY _).1,(aY _).2,hi⟩
theorem eY(b:By)(i h:Int)(hi:0<=i)(hb:b.length<=1048576)(n:Int):∃x i' h':Int,Pl b i h n=some (x,b,i',h')/\0<=i'/\0<=x/\(x<n\/n<=0/\x=0):=by
 unfold Pl;by_cases h0:n<=0
 ·rw[show decide (n<=0)=true by simpa using h0,ABQ];grind
 rw[show decide (n<=0)=false by grind,ABS];have hz:(n==0)=false:=by rw[<-ABr];simp;omega
 rw[hz]
 have fin:∀x:Int,0<=x->0<=Int.tmod x n/\Int.tmod x n<n:=λx hx=>by rw[Int.tmod_eq_emod_of_nonneg hx];exact⟨Int.emod_nonneg _ J,Int.emod_lt_of_pos _ J⟩
 obtain⟨x,i1,h1,e1,x0,x1,j1⟩:=bm b i h hi hb;rw[e1];simp only[ABP,ABS];by_cases h2:n<=256
 ·grind
 rw[show decide (n<=256)=false by grind,ABS];obtain⟨y,i2,h2',e2,y0,y1,j2⟩:=bm b i1 h1 j1 hb;rw[e2];simp only[ABP];obtain⟨z,i3,h3',e3,z0,z1,j3⟩:=bm b i2 h2' j2 hb;rw[e3];simp only[ABP];rw[PA (n:=x*65536) J J,PA (n:=y*256) J J,PA (n:=x*65536+y*256) J J,PA (n:=x*65536+y*256+z) J J];exact⟨_,_,_,rfl,j3,(fin _ J).1,.inl (fin _ J).2⟩
theorem oF(a:By)(ha:a.length<=1048576)(n:Nat)(hn:PE<=n):∃h:Int,Y1 n a=some (a,0,h):=by
 obtain⟨_,r,e,_⟩:=oD (α:=Int×Int) (γ:=Int×Int) (WM a) (WM a) (λi x=>x.2=(i:Int)) (λ_=>True) a.length (λi x hi hI=>by
  refine⟨rfl,?_⟩;obtain⟨h,k⟩:=x;dsimp only at hI;subst hI;unfold WM;dsimp only;by_cases hl:i<a.length
  ·rw[show decide ((i:Int)<(a.length:Int))=true by simp;omega,ABQ];simp only[ABP];cases decide ((i:Int)<4000)with
   |false=>grind
   |true=>
    rw[ABQ,O3 hl];exact .inl ⟨_,rfl,O1 hl J,hl⟩
  ·rw[show decide ((i:Int)<(a.length:Int))=false by simp;omega];exact .inr ⟨_,rfl,trivial⟩) n ADU (O5 (275275+(a.length:Int)),0) rfl
 unfold Y1;rw[e];exact⟨r.1,rfl⟩
theorem me(a:By)(ha:a.length<=1048576)(m:Int)(hm:0<=m):∃r:Int,YC a m=some r/\0<=r/\r<=m:=by
 unfold YC;have e:Int.tdiv (a.length:Int) 12=((a.length / 12:Nat):Int):=by rw[Int.tdiv_eq_ediv_of_nonneg J];omega
 rw[e,PA (n:=((a.length / 12:Nat):Int)) J J,PA (n:=3+((a.length / 12:Nat):Int)) J J];by_cases h:3+((a.length / 12:Nat):Int)>m
 ·rw[show decide (3+((a.length / 12:Nat):Int)>m)=true by simpa using h];grind
 ·rw[show decide (3+((a.length / 12:Nat):Int)>m)=false by simpa using h];grind
theorem gl{β:Type}(f:Int->Option (Int⊕(Int⊕Int)))(xs:List β)(P:β->Bool)(hs:∀(i:Nat)(x:β),i<xs.length->xs[i]?=some x->f (i:Int)=some (bif P x then .inr (.inr (i:Int))else .inl ((i+1:Nat):Int)))
  (he:f (xs.length:Int)=some (.inr (.inl (xs.length:Int)))):∀n,xs.length<n->iter n f 0=some (.inl (xs.length:Int))\/∃i,∃h:i<xs.length,P xs[i]=true/\iter n f 0=some (.inr (i:Int)):=by
 have key:∀d i n,i+d=xs.length->d<n->iter n f (i:Int)=some (.inl (xs.length:Int))\/∃j,∃h:j<xs.length,P xs[j]=true/\iter n f (i:Int)=some (.inr (j:Int)):=by
  intro d
  induction d with
  |zero=>
   intro i n hi hn;obtain⟨n,rfl⟩:∃k,n=k+1:=⟨n-1,J⟩;have:i=xs.length:=J
   subst this;exact .inl (Po he n)
  |succ d ih=>
   intro i n hi hn;obtain⟨n,rfl⟩:∃k,n=k+1:=⟨n-1,J⟩;have zj:i<xs.length:=J
   have hf:=hs i xs[i] zj (AAM zj);cases hp:P xs[i]with
   |true=>rw[hp,ABQ]at hf;exact .inr ⟨i,zj,hp,Po hf n⟩
   |false=>rw[hp,ABS]at hf;rw[SR hf n];exact ih (i+1) n J J
 grind
theorem Xc:Qo=Q2:=rfl
theorem Ze(a:Ox)(h:a7 a):P6 a.1 a.2.1 a.2.2.1 a.2.2.2.1 a.2.2.2.2=some a:=by obtain⟨h1,h2⟩:=h;unfold P6;simp[Um h1,Um h2]
theorem S0(a:Ox)(h:a7 a):Rz a.1 a.2.1 a.2.2.1 a.2.2.2.1 a.2.2.2.2=some a:=by obtain⟨h1,h2⟩:=h;unfold Rz QR XZ;simp[Um h1,Um h2]
abbrev Dp:=Int×Int×By×(List (Int×Int×OF))×Int×ADX×(List (Int×Int×Int×Bool×Int))×(List (Int×Int×Int×Int))×By×By×Int
def jb(t:List (Int×Int×Int×Int))(o:Ox):Bool := !((t.any λx=>x.1==o.1) != (o.2.2.2.2==1))
theorem ig(t:List (Int×Int×Int×Int))(h:t.length<=1048576)(o:Ox)(n:Nat)(hn:PE<=n):iter n (U8 t o) (false,0)=some (t.any λx=>x.1==o.1,(t.length:Int)):=by
 have hc:=PV (σ:=Bool) (U8 t o) (λi s=>(s,(i:Int))) t (λl s=>(s||l.any λx=>x.1==o.1,(t.length:Int))) (λ_ _=>True)
  (λs hs=>by simp[U8])
  (λi x l s h1 h2 h3 h4 h5=>by
   left;have hx:t[i]=x:=by rw[AAM h1]at h2;exact Option.some.inj h2
   refine⟨s||x.1==o.1,?_,trivial,by simp[Bool.or_assoc]⟩;simp only[U8,O3 h1,hx,ABP,O1 h1 J];rw[show decide ((i:Int)<(t.length:Int))=true by simpa using h1];cases s<;>rfl)
  n ADU false trivial
 grind
theorem ag(a:Dp)(h:az a)(n:Nat)(hn:PE<=n):YU n a.1 a.2.1 a.2.2.1 a.2.2.2.1 a.2.2.2.2.1 a.2.2.2.2.2.1 a.2.2.2.2.2.2.1 a.2.2.2.2.2.2.2.1 a.2.2.2.2.2.2.2.2.1 a.2.2.2.2.2.2.2.2.2.1 a.2.2.2.2.2.2.2.2.2.2=some (a.2.2.2.2.2.1.all (jb a.2.2.2.2.2.2.2.1)):=by
 have hl:a.2.2.2.2.2.1.length<=1048576:=h.2.2.1.1;have ht:a.2.2.2.2.2.2.2.1.length<=1048576:=h.2.2.2.2.1
 have:=RZ (Wv n a.2.2.2.2.2.1 a.2.2.2.2.2.2.2.1) a.2.2.2.2.2.1 (jb a.2.2.2.2.2.2.2.1) (λi x h1 h2=>by
  have hx:a.2.2.2.2.2.1[i]=x:=by rw[AAM h1]at h2;exact Option.some.inj h2
  simp only[Wv,O3 h1,hx,ABP,O1 h1 J,ig _ ht x n hn,jb];rw[show decide ((i:Int)<(a.2.2.2.2.2.1.length:Int))=true by simpa using h1];cases((a.2.2.2.2.2.2.2.1.any λy=>y.1==x.1) != (x.2.2.2.2==1))<;>rfl) (by simp[Wv]) n ADU
 unfold YU;grind
theorem Ut:PU=PK:=rfl
theorem pN(a b c:Int):PK a b c=some (decide (b<=a)&&decide (a<=c)):=by unfold PK;grind
theorem kt(n:Nat)(a:List (Int×Int)):SP n a=Q1 n a:=by
 have h:Wl a=QI a:=by
  funext i;unfold Wl QI;rw[Ut];cases decide (i<(a.length:Int))with
  |false=>rfl
  |true=>
   cases hg:Iv a i with
   |none=>simp[hg]
   |some x=>simp[hg]
 unfold SP Q1;rw[h]
theorem QY{α:Type}(f:α->Option (α⊕(α⊕Bool)))(st:Nat->α)(m:Nat)(P:Nat->Bool)(hs:∀i,i<m->f (st i)=some (bif P i then .inl (st (i+1))else .inr (.inr false)))(he:f (st m)=some (.inr (.inl (st m)))):
  ∀n,m<n->iter n f (st 0)=some (bif(List.range m).all P then .inl (st m)else .inr false):=by
 have key:∀d i n,i+d=m->d<n->iter n f (st i)=some (bif(List.range' i d).all P then .inl (st m)else .inr false):=by
  intro d
  induction d with
  |zero=>
   intro i n hi hn;obtain⟨n,rfl⟩:∃k,n=k+1:=⟨n-1,J⟩;have:i=m:=J
   subst this;rw[Po he n];rfl
  |succ d ih=>
   intro i n hi hn;obtain⟨n,rfl⟩:∃k,n=k+1:=⟨n-1,J⟩;have hf:=hs i J;rw[List.range'_succ,List.all_cons];cases hp:P i with
   |true=>rw[hp,ABQ]at hf;rw[SR hf n,ih (i+1) n J J];rfl
   |false=>rw[hp,ABS]at hf;rw[Po hf n];rfl
 grind
theorem fu(f:Int->Option (Int⊕Int))(m:Nat)(P:Nat->Bool)(hs:∀i,i<m->f (i:Int)=some (bif P i then .inl ((i+1:Nat):Int)else .inr (i:Int)))(he:f (m:Int)=some (.inr (m:Int))):
  ∀n,m<n->∃j,j<=m/\iter n f 0=some (j:Int)/\(∀i,i<j->P i=true)/\(j<m->P j=false):=by
 have key:∀d i n,i+d=m->d<n->∃j,i<=j/\j<=m/\iter n f (i:Int)=some (j:Int)/\(∀q,i<=q->q<j->P q=true)/\(j<m->P j=false):=by
  intro d
  induction d with
  |zero=>
   intro i n hi hn;obtain⟨n,rfl⟩:∃k,n=k+1:=⟨n-1,J⟩;have:i=m:=J
   subst this;exact⟨i,AAh _,AAh _,Po he n,λq h1 h2=>J,λh=>J⟩
  |succ d ih=>
   intro i n hi hn;obtain⟨n,rfl⟩:∃k,n=k+1:=⟨n-1,J⟩;have hf:=hs i J;cases hp:P i with
   |true=>
    rw[hp,ABQ]at hf;obtain⟨j,h1,h2,h3,h4,h5⟩:=ih (i+1) n J J;refine⟨j,J,h2,by rw[SR hf n];exact h3,λq q1 q2=>?_,h5⟩;by_cases e:q=i
    ·subst e;exact hp
    ·exact h4 q J q2
   |false=>rw[hp,ABS]at hf;exact⟨i,AAh _,J,Po hf n,λq h1 h2=>J,λ_=>hp⟩
 intro n hn;obtain⟨j,_,h2,h3,h4,h5⟩:=key m 0 n J hn;grind
theorem bI{β:Type}{a:List β}{i j:Nat}{y:β}(h:j<(a.take i).length)(hy:(a.take i)[j]?=some y):j<i/\∃h:j<a.length,a[j]=y:=No
def Qk{β:Type}(key:β->Int)(a:List β)(i:Nat)(x:β):Bool:=match i with
 |0=>true
 |j+1=>match a[j]? with
  |some y => !decide (key y>=key x)
  |none=>true
theorem YL{β γ:Type}(key:β->Int)(a:List β)(x:β)(i:Nat)(hi:i<a.length)(hl:a.length<=1048576)(F:Bool->Option γ):
  (bif decide ((i:Int)>0)then(Iv a (O5 ((i:Int)-1))).bind (λy=>F (decide (key y>=key x)))else F false)=F (!Qk key a i x):=by
 cases i with
 |zero=>rfl
 |succ j=>
  have hw:O5 (((j+1:Nat):Int)-1)=(j:Int):=by rw[PA J J];omega
  rw[show decide (((j+1:Nat):Int)>0)=true by grind,ABQ,hw,O3 J,ABP];simp only[Qk,AAM (show j<a.length by omega),Bool.not_not]
def P5(a b c:Int):Bool:=decide (b<=a)&&decide (a<=c)
theorem QO(a b c:Int):PK a b c=some (P5 a b c):=pN a b c
def PW(w h:Int)(c:By):Bool:=P5 w 1 10&&P5 h 1 10&&((c.length:Int)==O5 (w*h))&&c.all λk=>P5 k 0 4
theorem Pr(w h:Int)(c:By)(hl:c.length<=1048576)(n:Nat)(hn:PE<=n):Q0 n w h c=some (PW w h c):=by
 have:=RZ (Ua c) c (λk=>P5 k 0 4) (λi x h1 h2=>by
  have hx:c[i]=x:=by rw[AAM h1]at h2;exact Option.some.inj h2
  simp only[Ua,O3 h1,hx,ABP,O1 h1 J,QO];grind) (by simp[Ua]) n ADU
 unfold Q0 PW;rw[this];simp only[QO,ABP,bne];cases P5 w 1 10<;>cases P5 h 1 10<;>cases((c.length:Int)==O5 (w*h))<;>cases(c.all λk=>P5 k 0 4)<;>rfl
theorem YR:SO=Q0:=rfl
def QN(c:By)(i:Int):Bool:=P5 i 0 ((c.length:Int)-1)&&(c.getD i.toNat 0 != 0)
theorem ZS{c:By}{i:Int}(h:P5 i 0 ((c.length:Int)-1)=true):∃m:Nat,i=(m:Int)/\m<c.length:=by unfold P5 at h;simp only[AAN,AAj]at h;exact⟨i.toNat,J,J⟩
theorem fR(w h:Int)(c:By)(hl:c.length<=1048576)(i:Int):Wc w h c i=some (QN c i):=by
 unfold Wc QN;rw[show O5 ((c.length:Int)-1)=(c.length:Int)-1 from PA J J];simp only[QO,ABP];cases hb:P5 i 0 ((c.length:Int)-1)with
 |false=>rfl
 |true=>
  obtain⟨m,rfl,hm⟩:=ZS hb;simp[O3 hm,hm]
theorem TD(w h:Int)(c:By)(hl:c.length<=1048576)(hf:PW w h c=true)(i:Int)(n:Nat)(hn:PE<=n):∃k,Q5 n w h c i=some k/\(k != 0)=QN c i:=by
 unfold Q5 TH QN;rw[YR,Pr w h c hl n hn,hf,show O5 ((c.length:Int)-1)=(c.length:Int)-1 from PA J J];simp only[Ut,QO,ABP];cases hb:P5 i 0 ((c.length:Int)-1)with
 |false=>grind
 |true=>
  obtain⟨m,rfl,hm⟩:=ZS hb;exact⟨c[m],by simp[O3 hm],by simp[hm]⟩
theorem YZ(w h:Int)(c:By)(hl:c.length<=1048576)(hf:PW w h c=true)(x:Oz)(n:Nat)(hn:PE<=n):Rn n w h c x.1 x.2.1 x.2.2.1 x.2.2.2.1 x.2.2.2.2=some (QN c x.2.1&&(x.2.2.1 == -1||QN c x.2.2.1)):=by unfold Rn;obtain⟨k1,e1,q1⟩:=TD w h c hl hf x.2.1 n hn;obtain⟨k2,e2,q2⟩:=TD w h c hl hf x.2.2.1 n hn;grind
def oh(c:By)(crew:List (Int×Int×Int×Bool×Int))(i:Nat):Bool:=match crew[i]? with
 |none=>false
 |some x=>P5 x.1 1 99&&QN c x.2.1&&(x.2.2.1 == -1||QN c x.2.2.1)&&P5 x.2.2.2.2 0 1000000&&Qk (·.1) crew i x&&(crew.take i).all λy => !(y.2.1==x.2.1)
def Sx(w h:Int)(c:By)(crew:List (Int×Int×Int×Bool×Int)):Bool:=PW w h c&&decide (crew.length<=20)&&(List.range crew.length).all (oh c crew)
theorem fN(crew:List (Int×Int×Int×Bool×Int))(hl:crew.length<=1048576)(i:Nat)(hi:i<crew.length)(x:Int×Int×Int×Bool×Int)(n:Nat)(hn:PE<=n):
  iter n (R5 crew (i:Int) x) 0=some (bif(crew.take i).all λy => !(y.2.1==x.2.1)then .inl (i:Int)else .inr false):=by
 have hlen:(crew.take i).length=i:=ADY
 have:=RZ (R5 crew (i:Int) x) (crew.take i) (λy => !(y.2.1==x.2.1)) (λj y h1 h2=>by
  obtain⟨hj,hj2,hy⟩:=bI h1 h2;simp only[R5,O3 hj2,hy,ABP,O1 hj2 J];rw[show decide ((j:Int)<(i:Int))=true by rw[AAj];omega];cases(y.2.1==x.2.1)<;>rfl) (by first|(simp[R5,hlen];done)|(simp[R5,hlen];omega)) n ADU
 grind
theorem Xk(w h:Int)(c:By)(hc:c.length<=1048576)(crew:List (Int×Int×Int×Bool×Int))(hl:crew.length<=1048576)(n:Nat)(hn:PE<=n):Uw n w h c crew=some (Sx w h c crew):=by
 have:=QY (VS n w h c crew) (λi=>(i:Int)) crew.length (oh c crew) (λi hi=>by
  have hp:(bif decide ((i:Int)>0)then(Iv crew (O5 ((i:Int)-1))).bind (λy=>some (decide (y.1>=crew[i].1)))else some false)=some (!Qk (·.1) crew i crew[i]):=YL (·.1) crew crew[i] i hi hl some;simp only[VS,oh,O3 hi,AAM hi,ABP,QO,fR w h c hc,O1 hi J,hp,fN crew hl i hi crew[i] n hn,bne];grind) (by simp[VS]) n ADU
 unfold Uw Sx;rw[show((0:Nat):Int)=0 from rfl]at this;rw[this,Pr w h c hc n hn];rw[show decide ((crew.length:Int)>20) = !decide (crew.length<=20) by by_cases q:crew.length<=20<;>simp[q]<;>omega];cases PW w h c<;>cases decide (crew.length<=20)<;>cases(List.range crew.length).all (oh c crew)<;>rfl
theorem eM(crew:List (Int×Int×Int×Bool×Int))(hl:crew.length<=1048576)(i:Nat)(hi:i<crew.length)(x:Int×Int×Int×Bool×Int)(n:Nat)(hn:PE<=n):
  iter n (TB crew (i:Int) x) 0=some (bif(crew.take i).all λy => !(y.2.1==x.2.1)then .inl (i:Int)else .inr false):=by
 have hsub:sub crew (Int.toNat (0:Int)) (Int.toNat (i:Int))=crew.take i:=by simp[sub]
 have hlen:(crew.take i).length=i:=ADY
 have:=RZ (TB crew (i:Int) x) (crew.take i) (λy => !(y.2.1==x.2.1)) (λj y h1 h2=>by
  obtain⟨hj,hj2,hy⟩:=bI h1 h2;simp only[TB,hsub,RC,h2,ABP,O1 hj2 J,hlen];rw[show decide ((j:Int)<(i:Int))=true by rw[AAj];omega];cases(y.2.1==x.2.1)<;>rfl) (by simp only[TB,hsub,hlen];simp) n ADU
 grind
theorem TC(w h:Int)(c:By)(hc:c.length<=1048576)(crew:List (Int×Int×Int×Bool×Int))(hl:crew.length<=1048576)(n:Nat)(hn:PE<=n):SL n w h c crew=some (Sx w h c crew):=by
 unfold SL Sx;rw[YR,Pr w h c hc n hn];rw[show decide ((crew.length:Int)>20) = !decide (crew.length<=20) by by_cases q:crew.length<=20<;>simp[q]<;>omega];cases hf:PW w h c with
 |false=>rfl
 |true=>
  have:=QY (U7 n w h c crew) (λi=>(i:Int)) crew.length (oh c crew) (λi hi=>by
   have hp:∀C:Option Bool,(bif decide ((i:Int)>0)then(Iv crew (O5 ((i:Int)-1))).bind (λy=>bif decide (y.1>=crew[i].1)then some true else C)else C)=bif !Qk (·.1) crew i crew[i]then some true else C:=λC=>YL (·.1) crew crew[i] i hi hl λb=>bif b then some true else C;have hr:(decide (0<=(0:Int))&&decide ((0:Int)<=(i:Int))&&decide ((i:Int)<=(crew.length:Int)))=true:=ADY
   simp only[U7,oh,O3 hi,AAM hi,ABP,Ut,QO,YZ w h c hc hf _ n hn,O1 hi J,hp,eM crew hl i hi crew[i] n hn,hr];grind) (by simp[U7]) n ADU
  rw[show((0:Nat):Int)=0 from rfl]at this;rw[this];cases decide (crew.length<=20)<;>cases(List.range crew.length).all (oh c crew)<;>rfl
def Wt(t:List (Int×Int×Int×Int))(x:Int×Int×Int×Bool×Int):Bool:=t.any λy=>y.2.2.1==x.1&&P5 y.2.2.2 3 4
def Zb(a:Dp):Bool:=Sx a.1 a.2.1 a.2.2.1 a.2.2.2.2.2.2.1&&a.2.2.2.2.2.2.1.all λx => !(x.2.2.2.1 && !Wt a.2.2.2.2.2.2.2.1 x)
theorem eN(t:List (Int×Int×Int×Int))(h:t.length<=1048576)(r:Int×Int×Int×Bool×Int)(n:Nat)(hn:PE<=n):iter n (TE t r) (false,0)=some (Wt t r,(t.length:Int)):=by
 have hc:=PV (σ:=Bool) (TE t r) (λi s=>(s,(i:Int))) t (λl s=>(s||Wt l r,(t.length:Int))) (λ_ _=>True)
  (λs hs=>by simp[TE,Wt])
  (λj x l s h1 h2 h3 h4 h5=>by
   left;have hx:t[j]=x:=by rw[AAM h1]at h2;exact Option.some.inj h2
   refine⟨s||(x.2.2.1==r.1&&P5 x.2.2.2 3 4),?_,trivial,by simp[Wt,Bool.or_assoc]⟩;have zg:P5 x.2.2.2 3 4=(x.2.2.2==3||x.2.2.2==4):=by unfold P5;rw[ABy];simp;omega
   simp only[TE,O3 h1,hx,ABP,O1 h1 J,zg];rw[show decide ((j:Int)<(t.length:Int))=true by simpa using h1];cases s<;>cases(x.2.2.1==r.1)<;>cases(x.2.2.2==3)<;>cases(x.2.2.2==4)<;>rfl)
  n ADU false trivial
 grind
theorem ZM(a:Dp)(h:az a)(n:Nat)(hn:PE<=n):WU n a.1 a.2.1 a.2.2.1 a.2.2.2.1 a.2.2.2.2.1 a.2.2.2.2.2.1 a.2.2.2.2.2.2.1 a.2.2.2.2.2.2.2.1 a.2.2.2.2.2.2.2.2.1 a.2.2.2.2.2.2.2.2.2.1 a.2.2.2.2.2.2.2.2.2.2=some (Zb a):=by
 have hf:a.2.2.1.length<=1048576:=h.1;have hl:a.2.2.2.2.2.2.1.length<=1048576:=h.2.2.2.1;have ht:a.2.2.2.2.2.2.2.1.length<=1048576:=h.2.2.2.2.1
 have:=RZ (VB n a.2.2.2.2.2.2.1 a.2.2.2.2.2.2.2.1) a.2.2.2.2.2.2.1 (λx => !(x.2.2.2.1 && !Wt a.2.2.2.2.2.2.2.1 x)) (λi x h1 h2=>by
  have hx:a.2.2.2.2.2.2.1[i]=x:=by rw[AAM h1]at h2;exact Option.some.inj h2
  simp only[VB,O3 h1,hx,ABP,O1 h1 J,eN _ ht x n hn];rw[show decide ((i:Int)<(a.2.2.2.2.2.2.1.length:Int))=true by simpa using h1];cases x.2.2.2.1<;>cases Wt a.2.2.2.2.2.2.2.1 x<;>rfl) (by simp[VB]) n ADU
 unfold WU Zb;rw[TC _ _ _ hf _ hl n hn,this];grind
def WR(l:OF)(i:Nat):Bool:=match l[i]? with
 |none=>false
 |some x=>P5 x.1 1 50&&P5 x.2.1 1 1000&&P5 x.2.2 0 x.2.1&&Qk (·.1) l i x
def Qg(l:OF):Bool:=(List.range l.length).all (WR l)&&decide (l.length<=8)
abbrev PD:=Int×Int×OF
abbrev Is:=List PD
def ct(a:Is)(i:Nat):Bool:=match a[i]? with
 |none=>false
 |some x=>P5 x.1 1 999&&P5 x.2.1 0 99&&Qg x.2.2&&Qk (·.1) a i x&&(a.take i).all λy => !(y.2.1==x.2.1)
def Pq(a:Is):Bool:=decide (a.length<=12)&&(List.range a.length).all (ct a)
theorem cS(l:OF)(hl:l.length<=1048576)(n:Nat)(hn:PE<=n):WN n l=some (Qg l):=by
 have:=QY (Tu l) (λi=>(i:Int)) l.length (WR l) (λi hi=>by
  have hp:(bif decide ((i:Int)>0)then(Iv l (O5 ((i:Int)-1))).bind (λy=>some (decide (y.1>=l[i].1)))else some false)=some (!Qk (·.1) l i l[i]):=YL (·.1) l l[i] i hi hl some;simp only[Tu,WR,O3 hi,AAM hi,ABP,QO,O1 hi J,hp];rw[show decide ((i:Int)<(l.length:Int))=true by simpa using hi];generalize l[i]=x;generalize Qk (·.1) l i x=b4;cases P5 x.1 1 50<;>cases P5 x.2.1 1 1000<;>cases P5 x.2.2 0 x.2.1<;>cases b4<;>rfl) (by simp[Tu]) n ADU
 unfold WN Qg;rw[show((0:Nat):Int)=0 from rfl]at this;rw[this];rw[show decide ((l.length:Int)<=8)=decide (l.length<=8) by rw[ABy];simp;omega];grind
theorem dS(a:Is)(hl:a.length<=1048576)(i:Nat)(hi:i<a.length)(x:PD)(n:Nat)(hn:PE<=n):
  iter n (RS a (i:Int) x) 0=some (bif(a.take i).all λy => !(y.2.1==x.2.1)then .inl (i:Int)else .inr false):=by
 have hlen:(a.take i).length=i:=ADY
 have:=RZ (RS a (i:Int) x) (a.take i) (λy => !(y.2.1==x.2.1)) (λj y h1 h2=>by
  obtain⟨hj,hj2,hy⟩:=bI h1 h2;simp only[RS,O3 hj2,hy,ABP,O1 hj2 J];rw[show decide ((j:Int)<(i:Int))=true by rw[AAj];omega];cases(y.2.1==x.2.1)<;>rfl) (by first|(simp[RS,hlen];done)|(simp[RS,hlen];omega)) n ADU
 grind
theorem P2(a:Is)(hs:Pb a)(n:Nat)(hn:PE<=n):QU n a=some (Pq a):=by
 have hl:a.length<=1048576:=hs.1
 have:=QY (Uc n a) (λi=>(i:Int)) a.length (ct a) (λi hi=>by
  have hp:(bif decide ((i:Int)>0)then(Iv a (O5 ((i:Int)-1))).bind (λy=>some (decide (y.1>=a[i].1)))else some false)=some (!Qk (·.1) a i a[i]):=YL (·.1) a a[i] i hi hl some;have hst:a[i].2.2.length<=1048576:=hs.2 _ (ABR hi);simp only[Uc,ct,O3 hi,AAM hi,ABP,QO,O1 hi J,hp,cS _ hst n hn,dS a hl i hi a[i] n hn];rw[show decide ((i:Int)<(a.length:Int))=true by simpa using hi];generalize a[i]=x;generalize ((a.take i).all λy => !(y.2.1==x.2.1))=b5;generalize Qk (·.1) a i x=b4;cases P5 x.1 1 999<;>cases P5 x.2.1 0 99<;>cases Qg x.2.2<;>cases b4<;>cases b5<;>rfl) (by simp[Uc]) n ADU
 unfold QU Pq;grind
theorem gH(p:PD)(hl:p.2.2.length<=1048576)(n:Nat)(hn:PE<=n):Yr n p.1 p.2.1 p.2.2=some (P5 p.1 1 999&&P5 p.2.1 0 99&&Qg p.2.2):=by
 have:=QY (V8 p.2.2) (λi=>(i:Int)) p.2.2.length (WR p.2.2) (λi hi=>by
  have hp:(bif decide ((i:Int)>0)then(Iv p.2.2 (O5 ((i:Int)-1))).bind (λy=>some (decide (y.1>=p.2.2[i].1)))else some false)=some (!Qk (·.1) p.2.2 i p.2.2[i]):=YL (·.1) p.2.2 p.2.2[i] i hi hl some;simp only[V8,WR,O3 hi,AAM hi,ABP,Ut,QO,O1 hi J,hp];grind) (by simp[V8]) n ADU
 unfold Yr Qg;rw[show((0:Nat):Int)=0 from rfl]at this;rw[this,show decide ((p.2.2.length:Int)>8) = !decide (p.2.2.length<=8) by by_cases q:p.2.2.length<=8<;>simp[q]<;>omega];simp only[Ut,QO,ABP];cases P5 p.1 1 999<;>cases P5 p.2.1 0 99<;>cases decide (p.2.2.length<=8)<;>cases(List.range p.2.2.length).all (WR p.2.2)<;>rfl
theorem dI(a:Is)(hl:a.length<=1048576)(i:Nat)(hi:i<a.length)(x:PD)(n:Nat)(hn:PE<=n):
  iter n (Sd a (i:Int) x) 0=some (bif(a.take i).all λy => !(y.2.1==x.2.1)then .inl (i:Int)else .inr false):=by
 have hsub:sub a (Int.toNat (0:Int)) (Int.toNat (i:Int))=a.take i:=by simp[sub]
 have hlen:(a.take i).length=i:=ADY
 have:=RZ (Sd a (i:Int) x) (a.take i) (λy => !(y.2.1==x.2.1)) (λj y h1 h2=>by
  obtain⟨hj,hj2,hy⟩:=bI h1 h2;simp only[Sd,hsub,RC,h2,ABP,O1 hj2 J,hlen];rw[show decide ((j:Int)<(i:Int))=true by rw[AAj];omega];cases(y.2.1==x.2.1)<;>rfl) (by simp only[Sd,hsub,hlen];simp) n ADU
 grind
theorem QH(a:Is)(hs:Pb a)(n:Nat)(hn:PE<=n):Qy n a=some (Pq a):=by
 have hl:a.length<=1048576:=hs.1
 have:=QY (US n a) (λi=>(i:Int)) a.length (ct a) (λi hi=>by
  have hp:(bif decide ((i:Int)>0)then(Iv a (O5 ((i:Int)-1))).bind (λy=>some (decide (y.1>=a[i].1)))else some false)=some (!Qk (·.1) a i a[i]):=YL (·.1) a a[i] i hi hl some;have hst:a[i].2.2.length<=1048576:=hs.2 _ (ABR hi);have hr:(decide (0<=(0:Int))&&decide ((0:Int)<=(i:Int))&&decide ((i:Int)<=(a.length:Int)))=true:=ADY
  simp only[US,ct,O3 hi,AAM hi,ABP,O1 hi J,hp,gH _ hst n hn,dI a hl i hi a[i] n hn,hr];rw[show decide ((i:Int)<(a.length:Int))=true by simpa using hi];generalize a[i]=x;generalize ((a.take i).all λy => !(y.2.1==x.2.1))=b5;generalize Qk (·.1) a i x=b4;cases P5 x.1 1 999<;>cases P5 x.2.1 0 99<;>cases Qg x.2.2<;>cases b4<;>cases b5<;>rfl) (by simp[US]) n ADU
 unfold Qy Pq;rw[show((0:Nat):Int)=0 from rfl]at this;rw[this];rw[show decide ((a.length:Int)<=12)=decide (a.length<=12) by rw[ABy];simp;omega];grind
def S9(l:OF)(k:Int):Int:=match l.find? λx=>x.1==k with
 |some x=>x.2.1
 |none=>0
theorem fS{l:OF}(h:Qg l=true):∀(i j:Nat)(hj:j<l.length)(hij:i<j),(l[i]'(by omega)).1<l[j].1:=by
 unfold Qg at h;simp only[AAN,AAZ,AAb]at h
 have step:∀j (hj:j+1<l.length),(l[j]'(by omega)).1<l[j+1].1:=by intro j hj;have:=h.1 (j+1) hj;simp only[WR,AAM hj,AAN,Qk,AAM (show j<l.length by omega)]at this;have:=this.2;simpa using this
 grind
theorem cT{l:OF}(h:Qg l=true)(k:Int):0<=S9 l k/\S9 l k<=1000:=by
 unfold S9;cases hf:l.find? λx=>x.1==k with
 |none=>simp
 |some x=>
  have hm:=ABm hf;obtain⟨i,hi,rfl⟩:=AB8 hm;unfold Qg at h;simp only[AAN,AAZ,AAb]at h;have:=h.1 i hi;simp only[WR,AAM hi,AAN,P5,AAj]at this;grind
theorem qa{l:OF}(h:Qg l=true){j:Nat}(hj:j<l.length){k:Int}(hk:l[j].1=k):S9 l k=l[j].2.1:=by
 unfold S9;cases hf:l.find? λx=>x.1==k with
 |none=>
  grind
 |some x=>
  obtain⟨i,hi,rfl⟩:=AB8 (ABm hf);have hki:l[i].1=k:=by have:=ACJ hf;simpa using this
  rcases ABe i j with q|q|q
  ·have:=fS h i j hj q;omega
  ·subst q;rfl
  ·have:=fS h j i hi q;omega
theorem nt{l:OF}{k:Int}(h:∀x∈l,x.1≠k):S9 l k=0:=by unfold S9;grind
def Sy(a:Is)(k:Int):Int:=bif Pq a then(a.map λp=>S9 p.2.2 k).foldl (· + ·) 0 else 0
theorem jA{a:Is}(h:Pq a=true):a.length<=12/\∀i (hi:i<a.length),Qg a[i].2.2=true:=by unfold Pq at h;simp only[AAN,AAZ,AAb,AAj]at h;refine⟨h.1,λi hi=>?_⟩;have:=h.2 i hi;simp only[ct,AAM hi,AAN]at this;grind
theorem dW(p:PD)(hl:p.2.2.length<=1048576)(k:Int)(n:Nat)(hn:PE<=n):∃s,Ri n p.1 p.2.1 p.2.2 k=some s/\s.2.1=S9 p.2.2 k:=by
 have hc:=PV (σ:=Unit) (QJ p.2.2 k) (λi _=>((i:Int),(0:Int),(0:Int),(0:Int))) p.2.2 (λl _=>match l.find? (λx=>x.1==k)with|some x=>.inr x|none=>.inl ((p.2.2.length:Int),0,0,0)) (λ_ _=>True)
  (λs hs=>by simp[QJ])
  (λi x l s h1 h2 h3 h4 h5=>by
   have hx:p.2.2[i]=x:=by rw[AAM h1]at h2;exact Option.some.inj h2
   cases hq:(x.1==k)with
   |true=>right;simp[QJ,h1,O3 h1,hx,hq]
   |false=>left;exact⟨(),by simp[QJ,h1,O3 h1,hx,hq,O1 h1 J],trivial,by simp[hq]⟩)
  n ADU () trivial
 unfold Ri;rw[show((0:Nat):Int)=0 from rfl]at hc;rw[hc];unfold S9;cases p.2.2.find? λx=>x.1==k with
 |none=>exact⟨(k,0,0),rfl,rfl⟩
 |some x=>grind
theorem gQ(a:Is)(hs:Pb a)(k:Int)(n:Nat)(hn:PE<=n):Yy n a k=some (Sy a k):=by
 have hl:a.length<=1048576:=hs.1;have hst:=P2 a hs n hn;unfold Yy Sy;cases hk:Pq a with
 |false=>
  obtain⟨m,rfl⟩:∃m,n=m+1:=⟨n-1,ADU⟩
  have:Sv (m+1) a k ((0:Int),(0:Int))=some (.inr (0,0)):=by unfold Sv;rw[hst,hk];grind
  rw[Po this m];rfl
 |true=>
  obtain⟨h12,hp⟩:=jA hk
  have hc:=PV (σ:=Int) (Sv n a k) (λi s=>(s,(i:Int))) a (λl s=>((l.map λp=>S9 p.2.2 k).foldl (· + ·) s,(a.length:Int))) (λi s=>0<=s/\s<=1000*(i:Int)/\i<=12)
   (λs hs=>by simp[Sv])
   (λi x l s h1 h2 h3 h4 h5=>by
    left;have hx:a[i]=x:=by rw[AAM h1]at h2;exact Option.some.inj h2
    have hlen:x.2.2.length<=1048576:=by rw[<-hx];exact hs.2 _ (ABR h1)
    obtain⟨q,e,he⟩:=dW x hlen k n hn;have hb:=cT (hx▸hp i h1) k;refine⟨s+S9 x.2.2 k,?_,J,rfl⟩;unfold Sv;rw[hst,hk,show decide ((i:Int)<(a.length:Int))=true by simpa using h1];simp only[ABQ,ABP,O3 h1,hx,e,he,O1 h1 J];rw[PA J J])
   n ADU 0 ⟨J,J,J⟩
  grind
theorem dL(p:PD)(hl:p.2.2.length<=1048576)(hs:Qg p.2.2=true)(k:Int)(n:Nat)(hn:PE<=n):
  ∃(j:Nat) (b:Bool),Qp n p.1 p.2.1 p.2.2 k=some ((j:Int),b)/\(b=true->∃h:j<p.2.2.length,S9 p.2.2 k=p.2.2[j].2.1)/\(b=false->S9 p.2.2 k=0):=by
 obtain⟨j,h1,h2,h3,h4⟩:=fu (Qu p.2.2 k) p.2.2.length (λi=>decide ((p.2.2.getD i (0,0,0)).1<k)) (λi hi=>by
  simp only[Qu,O3 hi,ABP,O1 hi J];grind) (by simp[Qu]) n ADU
 have hlow:∀i (hi:i<p.2.2.length),i<j->p.2.2[i].1<k:=by intro i hi hij;have:=h3 i hij;simpa[hi]using this
 unfold Qp;rw[h2];by_cases hj:j<p.2.2.length
 ·have hge:=h4 hj;have hge:k<=p.2.2[j].1:=by simpa[hj]using hge
  refine⟨j,p.2.2[j].1==k,?_,λhb=>⟨hj,qa hs hj No⟩,λhb=>nt λx hx=>?_⟩
  ·simp[hj,O3 hj]
  ·obtain⟨i,hi,rfl⟩:=AB8 hx;have zp:p.2.2[j].1≠k:=by simpa using hb
   rcases ABe i j with q|q|q
   ·grind
   ·grind
   ·have:=fS hs j i hi q;omega
 ·refine⟨j,false,?_,λhb=>(by cases hb),λ_=>nt λx hx=>?_⟩
  ·grind
  ·obtain⟨i,hi,rfl⟩:=AB8 hx;grind
theorem gA(a:Is)(hs:Pb a)(k:Int)(n:Nat)(hn:PE<=n):Ym n a k=some (Sy a k):=by
 have hl:a.length<=1048576:=hs.1;unfold Ym Sy;rw[QH a hs n hn];cases hk:Pq a with
 |false=>rfl
 |true=>
  obtain⟨h12,hp⟩:=jA hk
  have hc:=PV (σ:=Int) (Vx n a k) (λi s=>(s,(i:Int))) a (λl s=>((l.map λp=>S9 p.2.2 k).foldl (· + ·) s,(a.length:Int))) (λi s=>0<=s/\s<=1000*(i:Int)/\i<=12)
   (λs hs=>by simp[Vx])
   (λi x l s h1 h2 h3 h4 h5=>by
    left;have hx:a[i]=x:=by rw[AAM h1]at h2;exact Option.some.inj h2
    have hlen:x.2.2.length<=1048576:=by rw[<-hx];exact hs.2 _ (ABR h1)
    obtain⟨j,b,e,hb1,hb2⟩:=dL x hlen (hx▸hp i h1) k n hn;have hb:=cT (hx▸hp i h1) k;refine⟨s+S9 x.2.2 k,?_,J,rfl⟩;unfold Vx;rw[show decide ((i:Int)<(a.length:Int))=true by simpa using h1];simp only[ABQ,ABP,O3 h1,hx,e,O1 h1 J];cases b with
    |false=>simp[hb2 rfl]
    |true=>
     obtain⟨hj,hc⟩:=hb1 rfl;simp only[ABQ,O3 hj,ABP,<-hc];rw[PA J J])
   n ADU 0 ⟨J,J,J⟩
  grind
theorem gW{α γ:Type}(f:α->Option (α⊕(α⊕γ)))(st:Nat->α)(m:Nat)(P:Nat->Bool)(r:γ)(hs:∀i,i<m->f (st i)=some (bif P i then .inl (st (i+1))else .inr (.inr r)))(he:f (st m)=some (.inr (.inl (st m)))):
  ∀n,m<n->iter n f (st 0)=some (bif(List.range m).all P then .inl (st m)else .inr r):=by
 have key:∀d i n,i+d=m->d<n->iter n f (st i)=some (bif(List.range' i d).all P then .inl (st m)else .inr r):=by
  intro d
  induction d with
  |zero=>
   intro i n hi hn;obtain⟨n,rfl⟩:∃k,n=k+1:=⟨n-1,J⟩;have:i=m:=J
   subst this;rw[Po he n];rfl
  |succ d ih=>
   intro i n hi hn;obtain⟨n,rfl⟩:∃k,n=k+1:=⟨n-1,J⟩;have hf:=hs i J;rw[List.range'_succ,List.all_cons];cases hp:P i with
   |true=>rw[hp,ABQ]at hf;rw[SR hf n,ih (i+1) n J J];rfl
   |false=>rw[hp,ABS]at hf;rw[Po hf n];rfl
 grind
theorem Zg(w h:Int)(c:By)(hl:c.length<=1048576):Wa w h c=some (w,h,c):=by unfold Wa;simp[Um hl]
theorem ai(w h:Int)(c:By)(hl:c.length<=1048576):VF w h c=some (w,h,c):=by unfold VF Sr;simp[Um hl]
theorem PQ(a:Is)(hs:Pb a)(n:Nat)(hn:PE<=n):Pm n a=some a:=by
 have hl:a.length<=1048576:=hs.1
 have hc:=PV (σ:=Is) (Va a) (λi s=>((i:Int),s)) a (λl s=>((a.length:Int),s++l)) (λi s=>s.length=i)
  (λs hs=>by simp[Va])
  (λi x l s h1 h2 h3 h4 h5=>by
   left;have hx:a[i]=x:=by rw[AAM h1]at h2;exact Option.some.inj h2
   have hst:x.2.2.length<=1048576:=by rw[<-hx];exact hs.2 _ (ABR h1)
   have hr:decide (s.length+1<=E7)=true:=Rr J;exact⟨s++[x],by simp[Va,h1,O3 h1,hx,Um hst,hr,O1 h1 J],by simp[h5],AAA⟩)
  n ADU [] rfl
 unfold Pm;grind
theorem Pn(a:Is)(hs:Pb a)(n:Nat)(hn:PE<=n):Pt n a=some a:=by
 have hl:a.length<=1048576:=hs.1
 have hc:=PV (σ:=Is) (S1 a) (λi s=>((i:Int),s)) a (λl s=>((a.length:Int),s++l)) (λi s=>s.length=i)
  (λs hs=>by simp[S1])
  (λi x l s h1 h2 h3 h4 h5=>by
   left;have hx:a[i]=x:=by rw[AAM h1]at h2;exact Option.some.inj h2
   have hst:x.2.2.length<=1048576:=by rw[<-hx];exact hs.2 _ (ABR h1)
   have hr:decide (s.length+1<=E7)=true:=Rr J;exact⟨s++[x],by simp[S1,h1,O3 h1,hx,Um hst,hr,O1 h1 J],by simp[h5],AAA⟩)
  n ADU [] rfl
 unfold Pt;grind
abbrev Dn:=Int×Int×By×(List (Int×Int×OF))×Int×ADX×(List (Int×Int×Int×Bool×Int))×(List (Int×Int×Int×Int))×By×By×Int
def bR:Dn:=(0,0,[],[],0,[],[],[],[],[],0)
def mJ(x:Dn×Bool):Int×Int×By×(List (Int×Int×OF))×Int×ADX×(List (Int×Int×Int×Bool×Int))×(List (Int×Int×Int×Int))×By×By×Int×Bool:=
 (x.1.1,x.1.2.1,x.1.2.2.1,x.1.2.2.2.1,x.1.2.2.2.2.1,x.1.2.2.2.2.2.1,x.1.2.2.2.2.2.2.1,x.1.2.2.2.2.2.2.2.1,x.1.2.2.2.2.2.2.2.2.1,x.1.2.2.2.2.2.2.2.2.2.1,x.1.2.2.2.2.2.2.2.2.2.2,x.2)
def aJ(c:By)(a:Is)(i:Nat):Bool:=match a[i]? with
 |some p=>P5 p.2.1 0 ((c.length:Int)-1)&&(c.getD p.2.1.toNat 0==2)
 |none=>false
def Yk(a:Is)(i:Nat):Bool:=match a[i]? with
 |some p=>(List.range p.2.2.length).all λk => !decide ((p.2.2.getD k (0,0,0)).2.2>0)
 |none=>false
def Rw(Pu:By):Nat->List (Int×Int×Int×Bool×Int)
 |0=>[]
 |i+1=>Rw Pu i++[(((i+1:Nat):Int),Pu.getD i 0, -1,false,0)]
theorem Uj(Pu:By):∀i,(Rw Pu i).length=i
 |0=>rfl
 |i+1=>by simp[Rw,Uj Pu i]
def Ru(a:Is):Nat->By
 |0=>List.replicate 51 0
 |i+1=>(Ru a i).set (i+1) (Sy a ((i+1:Nat):Int))
theorem YG(a:Is):∀i,(Ru a i).length=51
 |0=>rfl
 |i+1=>by simp[Ru,YG a i]
theorem cH(a:Is)(i:Nat)(hi:i<a.length)(hst:a[i].2.2.length<=1048576)(y:Int×Dn)(hy:y.1=(i:Int))(z:Dn)(n:Nat)(hn:PE<=n):
  iter n (R7 a y) (0,z)=some (bif Yk a i then .inl ((a[i].2.2.length:Int),z)else .inr (mJ (bR,false))):=by
 have:=gW (R7 a y) (λk=>((k:Int),z)) a[i].2.2.length (λk => !decide ((a[i].2.2.getD k (0,0,0)).2.2>0)) (mJ (bR,false)) (λk hk=>by
  unfold R7;rw[hy];simp only[O3 hi,ABP,O3 hk,O1 hk J];rw[show decide ((k:Int)<(a[i].2.2.length:Int))=true by simpa using hk];rw[show a[i].2.2.getD k (0,0,0)=a[i].2.2[k] by simp[hk]];cases decide (a[i].2.2[k].2.2>0)<;>rfl) (by
  unfold R7;rw[hy];simp[O3 hi]) n ADU
 rw[show((0:Nat):Int)=0 from rfl]at this;rw[this];simp only[Yk,AAM hi]
theorem bA(c:By)(hc:c.length<=1048576)(a:Is)(hs:Pb a)(z:Dn)(n:Nat)(hn:PE<=n):
  iter n (R6 n c a) (0,z)=some (bif(List.range a.length).all (λi=>aJ c a i&&Yk a i)then .inl ((a.length:Int),z)else .inr (mJ (bR,false))):=by
 have hl:a.length<=1048576:=hs.1
 have:=gW (R6 n c a) (λk=>((k:Int),z)) a.length (λi=>aJ c a i&&Yk a i) (mJ (bR,false)) (λi hi=>by
  have hst:a[i].2.2.length<=1048576:=hs.2 _ (ABR hi);have zg:=cH a i hi hst ((i:Int),z) rfl z n hn;unfold R6;dsimp only;rw[show decide ((i:Int)<(a.length:Int))=true by simpa using hi];simp only[ABQ,O3 hi,ABP,QO,O1 hi J];rw[show O5 ((c.length:Int)-1)=(c.length:Int)-1 from PA J J];rw[show((0:Int),z.1,z.2.1,z.2.2.1,z.2.2.2.1,z.2.2.2.2.1,z.2.2.2.2.2.1,z.2.2.2.2.2.2.1,z.2.2.2.2.2.2.2.1,z.2.2.2.2.2.2.2.2.1,z.2.2.2.2.2.2.2.2.2.1,z.2.2.2.2.2.2.2.2.2.2)=((0:Int),z)from rfl,zg];simp only[aJ,AAM hi];cases hb:P5 a[i].2.1 0 ((c.length:Int)-1)with
  |false=>rfl
  |true=>
   obtain⟨m,hm,hmlt⟩:=ZS hb;rw[hm];simp only[O3 hmlt,ABP,ABX,ABS];rw[show c.getD (m:Int).toNat 0=c[m] by simp[hmlt]];cases hq:(c[m]==2)with
   |false=>simp only[bne,hq,ABp,ABQ];rfl
   |true=>
    simp only[bne,hq,ABX,ABS];cases Yk a i<;>rfl) (by
  unfold R6;simp) n ADU
 omega
theorem dH(w h:Int)(c:By)(hl:c.length<=1048576)(hf:PW w h c=true)(i:Int)(n:Nat)(hn:PE<=n):Q5 n w h c i=some (bif P5 i 0 ((c.length:Int)-1)then c.getD i.toNat 0 else 0):=by
 unfold Q5 TH;rw[YR,Pr w h c hl n hn,hf,show O5 ((c.length:Int)-1)=(c.length:Int)-1 from PA J J];simp only[Ut,QO,ABP];cases hb:P5 i 0 ((c.length:Int)-1)with
 |false=>rfl
 |true=>
  obtain⟨m,rfl,hm⟩:=ZS hb;simp[O3 hm,hm]
theorem Zy(a:Is)(hs:Pb a)(f0 f1:Int)(c:By)(p:Is)(bn:Int)(os:ADX)(cr:List (Int×Int×Int×Bool×Int))(ts:List (Int×Int×Int×Int))(ou:By)(tk:Int)(n:Nat)(hn:PE<=n):
  iter n (R8 n a) (1,f0,f1,c,p,bn,os,cr,ts,List.replicate 51 0,ou,tk)=some (51,f0,f1,c,p,bn,os,cr,ts,Ru a 50,ou,tk):=by
 have:=Pa (γ:=Int×Dn) (R8 n a) (λi=>(((i+1:Nat):Int),f0,f1,c,p,bn,os,cr,ts,Ru a i,ou,tk)) 50 (51,f0,f1,c,p,bn,os,cr,ts,Ru a 50,ou,tk) (λi hi=>by
  unfold R8;dsimp only;have zg:ON (Ru a i) (((i+1:Nat):Int))=true:=O6 (by rw[YG];omega);rw[show decide (((i+1:Nat):Int)<=50)=true by grind,ABQ,gQ a hs _ n hn,ABP,zg,ABQ,show O5 (((i+1:Nat):Int)+1)=((i+1+1:Nat):Int) by rw[PA J J];omega];rw[show Int.toNat ((i+1:Nat):Int)=i+1 by omega,Pz];rfl) (by unfold R8;simp) n ADU
 exact this
theorem aS(Pu:By)(hd:Pu.length<=1048576)(f0 f1:Int)(c:By)(p:Is)(bn:Int)(os:ADX)(ts:List (Int×Int×Int×Int))(sr ou:By)(tk:Int)(n:Nat)(hn:PE<=n):
  iter n (R9 Pu) (0,f0,f1,c,p,bn,os,[],ts,sr,ou,tk)=some (((min Pu.length 20:Nat):Int),f0,f1,c,p,bn,os,Rw Pu (min Pu.length 20),ts,sr,ou,tk):=by
 have:=Pa (γ:=Int×Dn) (R9 Pu) (λi=>((i:Int),f0,f1,c,p,bn,os,Rw Pu i,ts,sr,ou,tk)) (min Pu.length 20) (((min Pu.length 20:Nat):Int),f0,f1,c,p,bn,os,Rw Pu (min Pu.length 20),ts,sr,ou,tk) (λi hi=>by
  unfold R9;dsimp only;have zj:i<Pu.length:=J
  have hr:decide ((Rw Pu i).length+1<=E7)=true:=Rr (by rw[Uj];omega);have hgo:Pu[Int.toNat (i:Int)]?=some Pu[i]:=by simp[zj]
  rw[show decide ((i:Int)<(Pu.length:Int))=true by rw[AAj];omega,show decide ((i:Int)<20)=true by rw[AAj];omega];simp only[ABQ,ABP,O6 zj,hgo,ABY,hr,O1 zj J];simp only[Rw];grind) (by
  unfold R9;grind) n ADU
 exact this
def Uh(l:OF):Prop:=l.Pairwise (λa b=>a.1<b.1)/\(∀x∈l,1<=x.1/\x.1<=50/\1<=x.2.1/\x.2.1<=1000/\0<=x.2.2/\x.2.2<=x.2.1)/\l.length<=8
def PF(a:Is):Prop:=a.length<=12/\a.Pairwise (λx y=>x.1<y.1/\x.2.1≠y.2.1)/\∀p∈a,(1<=p.1/\p.1<=999)/\(0<=p.2.1/\p.2.1<=99)/\Uh p.2.2
theorem Zc{β:Type}{key:β->Int}{a:List β}{R:β->β->Prop}(h:a.Pairwise R)(hR:∀x y,R x y->key x<key y)(i:Nat)(hi:i<a.length):Qk key a i a[i]=true:=by
 cases i with
 |zero=>rfl
 |succ j=>
  have:=hR _ _ (ABM.1 h j (j+1) J hi J);simp only[Qk,AAM (show j<a.length by omega)];grind
theorem Uh.ok{l:OF}(h:Uh l):Qg l=true:=by obtain⟨h1,h2,h3⟩:=h;unfold Qg;simp only[AAN,AAZ,AAb,AAj];refine⟨λi hi=>?_,h3⟩;obtain⟨a1,a2,a3,a4,a5,a6⟩:=h2 _ (ABR hi);simp only[WR,AAM hi,Zc h1 (λx y h=>h) i hi,P5,AAN,AAj];grind
theorem PF.ok{a:Is}(h:PF a):Pq a=true:=by
 obtain⟨h1,h2,h3⟩:=h;unfold Pq;simp only[AAN,AAZ,AAb,AAj];refine⟨h1,λi hi=>?_⟩;obtain⟨⟨a1,a2⟩,⟨a3,a4⟩,a5⟩:=h3 _ (ABR hi);have hp:=Zc (key:=(·.1)) h2 (λx y h=>h.1) i hi
 have hh:((a.take i).all λy => !(y.2.1==a[i].2.1))=true:=AAZ.2 λy hy=>by
  obtain⟨j,hj,rfl⟩:=AB8 hy;have hj':j<i:=by rw[List.length_take]at hj;omega
  have:=(ABM.1 h2 j i J hi hj').2;rw[List.getElem_take];simpa using this
 simp only[ct,AAM hi,hp,hh,a5.ok,P5,AAN,AAj];grind
theorem PF.sm{a:Is}(h:PF a):Pb a:=⟨by have:=h.1;omega,λy hy=>by show y.2.2.length<=_;have:=(h.2.2 y hy).2.2.2.2;omega⟩
def PC(l:OF)(k:Int):O0:=match l.find? (λx=>x.1==k)with
 |some x=>x
 |none=>(k,0,0)
theorem ck(p:PD)(hl:p.2.2.length<=1048576)(k:Int)(n:Nat)(hn:PE<=n):Ri n p.1 p.2.1 p.2.2 k=some (PC p.2.2 k):=by
 unfold PC
 have hc:=PV (σ:=Unit) (QJ p.2.2 k) (λi _=>((i:Int),(0:Int),(0:Int),(0:Int))) p.2.2 (λl _=>match l.find? (λx=>x.1==k)with|some x=>.inr x|none=>.inl ((p.2.2.length:Int),0,0,0)) (λ_ _=>True)
  (λs hs=>by simp[QJ])
  (λi x l s h1 h2 h3 h4 h5=>by
   have hx:p.2.2[i]=x:=by rw[AAM h1]at h2;exact Option.some.inj h2
   cases hq:(x.1==k)with
   |true=>right;simp[QJ,h1,O3 h1,hx,hq]
   |false=>left;exact⟨(),by simp[QJ,h1,O3 h1,hx,hq,O1 h1 J],trivial,by simp[hq]⟩)
  n ADU () trivial
 unfold Ri;grind
def gN(x:O0)(l:OF):OF:=l.map λy=>bif y.1==x.1 then x else y
theorem mg(l:OF)(h:Uh l)(x:O0)(hx:∃z∈l,z.1=x.1)(h0:(x.2.1==0)=false)(n:Nat)(hn:PE<=n):Uy n l x.1 x.2.1 x.2.2=some (gN x l):=by
 obtain⟨x0,x1,x2⟩:=x;dsimp only at h0 hx ⊢;have h8:=h.2.2
 have hc:=PV (σ:=OF×Bool) (RG l x0 x1 x2) (λi s=>(s.1,s.2,(i:Int))) l (λr s=>(s.1++gN (x0,x1,x2) r,s.2||r.any (λz=>z.1==x0),(l.length:Int)))
  (λi s=>s.1.length<=i/\((s.2=false/\∃z∈l.drop i,z.1=x0)\/(s.2=true/\∀z∈l.drop i,z.1≠x0)))
  (λs hs=>by simp[RG,gN])
  (λi y r s h1 h2 h3 h4 h5=>by
   left;have hy:l[i]=y:=by rw[AAM h1]at h2;exact Option.some.inj h2
   obtain⟨hlen,hs⟩:=h5;obtain⟨out,put⟩:=s;dsimp only at hlen hs ⊢;rw[h3]at hs;have hpw:(y::r).Pairwise (λa b=>a.1<b.1):=h3▸h.1.drop;have hyr:=(ABn.1 hpw).1;unfold RG;dsimp only;rw[show decide ((i:Int)<(l.length:Int))=true by simpa using h1,ABQ,O3 h1,hy,O1 h1 J];simp only[ABP];have r1:∀(o:OF)(w:O0),o.length<=i+1->decide (o.length+[w].length<=E7)=true:=λo w ho=>Rr J;rcases hs with⟨rfl,z,hz,hzx⟩|⟨rfl,hs⟩
   ·simp only[ABp,ABQ,ABP];by_cases he:y.1=x0
    ·rw[show decide (y.1>=x0)=true by simp;omega,ABQ,r1 out _ J,ABQ,ABP];rw[show(y.1 != x0)=false by simp[he],ABS,ABP];refine⟨(out++[(x0,x1,x2)],true),rfl,⟨by show(out++[_]).length<=i+1;rw[ABC,ABY];omega,.inr ⟨rfl,λw hw=>?_⟩⟩,?_⟩
     ·have:=hyr w (by rwa[h4]at hw);omega
     ·have:∀w∈r,(w.1==x0)=false:=λw hw=>by have:=hyr w hw;rw[<-ABr];simp;omega
      have e1:gN (x0,x1,x2) r=r:=by unfold gN;rw[ABg (g:=id) λw hw=>by dsimp only;rw[this w hw];rfl];simp
      simp only[gN,ABH,he,ABu,ABQ,ACV,Bool.true_or,Bool.or_true,ABj,AB4]
    ·have hzr:z∈r:=by
      rcases AAi.1 hz with e|e
      ·subst e;exact absurd hzx he
      ·exact e
     have zj:=hyr z hzr;rw[show decide (y.1>=x0)=false by simp;omega,ABS,ABP];rw[show(y.1 != x0)=true by simpa using he,ABQ,r1 out _ J,ABQ,ABP];refine⟨(out++[y],false),rfl,⟨by show(out++[_]).length<=i+1;rw[ABC,ABY];omega,.inl ⟨rfl,z,by rw[h4];exact hzr,hzx⟩⟩,?_⟩;have hb:(y.1==x0)=false:=ADs
     simp only[gN,ABH,hb,ABS,ACV,Bool.false_or,ABj,AB4]
   ·simp only[ABX,ABS,ABP];have he:y.1≠x0:=hs y AAo;rw[show(y.1 != x0)=true by simpa using he,ABQ,r1 out _ J,ABQ,ABP];refine⟨(out++[y],true),rfl,⟨by show(out++[_]).length<=i+1;rw[ABC,ABY];omega,.inr ⟨rfl,λw hw=>hs w (AAQ _ (by rwa[h4]at hw))⟩⟩,?_⟩;have hb:(y.1==x0)=false:=ADs
    simp only[gN,ABH,hb,ABS,Bool.true_or,ABj,AB4])
  n ADU (([]:OF),false) ⟨AAA,.inl ⟨rfl,by simpa using hx⟩⟩
 unfold Uy;grind
section
variable {α β γ δ:Type}
theorem ZT{f:α->Option (α⊕γ)}{g:β->Option (β⊕δ)}(R:α->β->Prop)(S:γ->δ->Prop)(μ:α->Nat)
  (h:∀x y,R x y->(∃z w,f x=some (.inr z)/\g y=some (.inr w)/\S z w)\/(∃x' y',f x=some (.inl x')/\g y=some (.inl y')/\R x' y'/\μ x'<μ x)):
  ∀n x y,R x y->μ x<n->∃z w,S z w/\iter n f x=some z/\iter n g y=some w:=by
 intro n
 induction n with
 |zero=>omega
 |succ n ih=>
  intro x y hR hn;rcases h x y hR with⟨z,w,h1,h2,h3⟩|⟨x',y',h1,h2,h3,h4⟩
  ·exact⟨z,w,h3,Po h1 n,Po h2 n⟩
  ·obtain⟨z,w,h5,h6,h7⟩:=ih x' y' h3 J;exact⟨z,w,h5,(SR h1 n).trans h6,(SR h2 n).trans h7⟩
theorem gw{f:α->Option (α⊕γ)}{g:β->Option (β⊕δ)}(R:α->β->Prop)(S:γ->δ->Prop)(μ:α->Nat)
  (h:∀x y,R x y->(∃z w,f x=some (.inr z)/\g y=some (.inr w)/\S z w)\/(∃x' y',f x=some (.inl x')/\g y=some (.inl y')/\R x' y'/\μ x'<μ x)):
  ∀n n' x y,R x y->μ x<n->μ x<n'->∃z w,S z w/\iter n f x=some z/\iter n' g y=some w:=by
 intro n
 induction n with
 |zero=>omega
 |succ n ih=>
  intro n' x y hR hn hn';obtain⟨n',rfl⟩:∃k,n'=k+1:=⟨n'-1,J⟩;rcases h x y hR with⟨z,w,h1,h2,h3⟩|⟨x',y',h1,h2,h3,h4⟩
  ·exact⟨z,w,h3,Po h1 n,Po h2 n'⟩
  ·obtain⟨z,w,h5,h6,h7⟩:=ih n' x' y' h3 J J;exact⟨z,w,h5,(SR h1 n).trans h6,(SR h2 n').trans h7⟩
theorem Ya{f:α->Option (α⊕γ)}(R:α->Prop)(S:γ->Prop)(μ:α->Nat)
  (h:∀x,R x->(∃z,f x=some (.inr z)/\S z)\/(∃x',f x=some (.inl x')/\R x'/\μ x'<μ x)):
  ∀n x,R x->μ x<n->∃z,S z/\iter n f x=some z:=by
 intro n
 induction n with
 |zero=>omega
 |succ n ih=>
  intro x hR hn;rcases h x hR with⟨z,h1,h3⟩|⟨x',h1,h3,h4⟩
  ·exact⟨z,h3,Po h1 n⟩
  ·obtain⟨z,h5,h6⟩:=ih x' h3 J;exact⟨z,h5,(SR h1 n).trans h6⟩
end
section
variable {α:Type}{l:List α}{k:Nat}{y z:α}
def hole(l:List α)(k:Nat)(z:α):List α:=l.take k++z::l.drop k
theorem SZ(h:k<=l.length):(hole l k z).length=l.length+1:=by simp[hole];omega
theorem dh(h:l[k]?=some y):(hole l (k+1) z)[k]?=some y:=by obtain⟨hk,e⟩:=AAO.1 h;unfold hole;grind
theorem eJ(h:l[k]?=some y):(hole l (k+1) z).set (k+1) y=hole l k y:=by obtain⟨hk,e⟩:=AAO.1 h;unfold hole;rw[ACE _ _ ADY];rw[show k+1-(l.take (k+1)).length=0 by simp;omega,ACS,ABc hk,e,ABj,ABi hk,e];rfl
theorem bV(h:k<=l.length)(x:α):(hole l k z).set k x=hole l k x:=by
 unfold hole;rw[ACE _ _ ADY,show k-(l.take k).length=0 by simp;omega,ACS]
theorem gr(x:α):(hole l k x).Perm (x::l):=by unfold hole;have:=List.perm_middle (a:=x) (l₁:=l.take k) (l₂:=l.drop k);rwa[ACD]at this
theorem cg{R:α->α->Prop}(htr:∀a b c,R a b->R b c->R a c)(hl:l.Pairwise R)(hk:k<=l.length){x:α}(h1:∀y∈l.drop k,R x y)(h2:∀y,l[k-1]?=some y->0<k->R y x):(hole l k x).Pairwise R:=by
 have hl2:=hl;rw[<-ACD k l,ABq]at hl2;obtain⟨p1,p2,p3⟩:=hl2;unfold hole;rw[ABq]
 have hx:∀a∈l.take k,R a x:=by
  intro a ha;obtain⟨j,hj,e⟩:=ABU.1 ha;have hj2:j<k/\j<l.length:=by simp at hj;omega
  have e2:l[j]=a:=by rw[<-e];simp
  have hk1:k-1<l.length:=J
  have hlast:=h2 l[k-1] (AAM hk1) J;by_cases hjk:j=k-1
  ·subst hjk;rw[<-e2];exact hlast
  ·have:=ABM.1 hl j (k-1) hj2.2 hk1 J;rw[<-e2];exact htr _ _ _ this hlast
 refine⟨p1,ABn.2 ⟨h1,p2⟩,λa ha b hb=>?_⟩;grind
end
theorem jg(L:Int×By->Option ((Int×By)⊕(Int×By)))(lt:Int->Bool)(l:By)
  (hgo:∀k y z,l[k]?=some y->lt y=true->L (((k+1:Nat):Int),hole l (k+1) z)=some (.inl ((k:Int),hole l k y)))
  (hstop:∀k y z,l[k]?=some y->lt y=false->L (((k+1:Nat):Int),hole l (k+1) z)=some (.inr (((k+1:Nat):Int),hole l (k+1) z)))
  (hend:∀z,L (0,hole l 0 z)=some (.inr (0,hole l 0 z))) (n:Nat) (hn:l.length<n) (x:Int):
  ∃(k:Nat) (z:Int),iter n L ((l.length:Int),l++[x])=some ((k:Int),hole l k z)/\k<=l.length/\(∀y∈l.drop k,lt y=true)/\(∀y,l[k-1]?=some y->0<k->lt y=false):=by
 have:=Ya (f:=L) (λs=>∃(k:Nat) (z:Int),s=((k:Int),hole l k z)/\k<=l.length/\∀y∈l.drop k,lt y=true)
  (λs=>∃(k:Nat) (z:Int),s=((k:Int),hole l k z)/\k<=l.length/\(∀y∈l.drop k,lt y=true)/\(∀y,l[k-1]?=some y->0<k->lt y=false)) (λs=>s.1.toNat) (λs hs=>by
   obtain⟨k,z,rfl,hk,hd⟩:=hs;cases k with
   |zero=>exact .inl ⟨_,hend z,0,z,rfl,hk,hd,λ_ _ h=>absurd h AAA⟩
   |succ k=>
    have hk':k<l.length:=J
    have hg:l[k]?=some l[k]:=AAM hk';cases zj:lt l[k]with
    |true=>
     refine .inr ⟨_,hgo k l[k] z hg zj,⟨k,l[k],rfl,J,λy hy=>?_⟩,AAA⟩;rw[ABi hk']at hy;rcases AAi.1 hy with rfl|hy
     ·exact zj
     ·exact hd y hy
    |false=>
     refine .inl ⟨_,hstop k l[k] z hg zj,k+1,z,rfl,hk,hd,λy hy _=>?_⟩;rw[Nat.add_sub_cancel,hg]at hy;injection hy with hy
     subst hy;exact zj) n ((l.length:Int),l++[x]) ⟨l.length,x,by simp[hole],AAh _,AAA⟩ (by simpa using hn)
 grind
structure Ord(lt:Int->Int->Bool)(xs:By):Prop where
 xX:∀x,lt x x=false
 tr:∀x y z,lt x y=true->lt y z=true->lt x z=true
 Q3:∀x∈xs,∀y∈xs,x≠y->lt x y=true\/lt y x=true
theorem aR{lt:Int->Int->Bool}{xs a b:By}(ho:Ord lt xs)(ha:a.Pairwise λx y=>lt x y=true)(hb:b.Pairwise λx y=>lt x y=true)(pa:a.Perm xs)(pb:b.Perm xs):a=b:=
 List.Perm.eq_of_pairwise (le:=λx y=>lt x y=true) (λx y _ _ h1 h2=>by
  have:=ho.tr x y x h1 h2;rw[ho.xX]at this;cases this) ha hb (pa.trans pb.symm)
theorem eX(L:By×Int->Option ((By×Int)⊕(By×Int)))(lt:Int->Int->Bool)(xs:By)(hnd:xs.Nodup)(ho:Ord lt xs)
  (hstep:∀(i:Nat)(x:Int)(l:By),xs[i]?=some x->l.length=i->l.length<xs.length->(∀y∈l,y∈xs)->∃k≤l.length,L (l,(i:Int))=some (.inl (hole l k x,((i+1:Nat):Int)))/\(∀y∈l.drop k,lt x y=true)/\(∀y,l[k-1]?=some y->0<k->lt x y=false))
  (hend:∀l,L (l,(xs.length:Int))=some (.inr (l,(xs.length:Int)))) (n:Nat) (hn:xs.length<n):
  ∃l,iter n L ([],0)=some (l,(xs.length:Int))/\l.Perm xs/\l.Pairwise λx y=>lt x y=true:=by
 have:=Ya (f:=L) (λs=>∃(i:Nat),s.2=(i:Int)/\i<=xs.length/\s.1.Perm (xs.take i)/\s.1.Pairwise λx y=>lt x y=true)
  (λs=>s.2=(xs.length:Int)/\s.1.Perm xs/\s.1.Pairwise λx y=>lt x y=true) (λs=>xs.length-s.2.toNat) (λs hs=>by
   obtain⟨i,h1,h2,h3,h4⟩:=hs;obtain⟨l,j⟩:=s;dsimp only at h1 h3 h4;subst h1;by_cases hi:i=xs.length
   ·subst hi;rw[List.take_length]at h3;exact .inl ⟨_,hend l,rfl,h3,h4⟩
   ·have hi':i<xs.length:=J
    have hx:xs[i]?=some xs[i]:=AAM hi';have hlen:l.length=i:=by rw[h3.length_eq];simp;omega
    have hmem:∀y∈l,y∈xs:=λy hy=>ACP (h3.mem_iff.1 hy);obtain⟨k,hk,e,q1,q2⟩:=hstep i xs[i] l hx hlen J hmem
    have hnx:xs[i]∉xs.take i:=λhm=>by
     obtain⟨j,hj,e⟩:=ABU.1 hm;have hj2:j<i:=by simp at hj;omega
     have:=ABM.1 hnd j i J hi' hj2;exact this (by rw[<-e];simp)
    refine .inr ⟨_,e,⟨i+1,rfl,J,?_,?_⟩,by show xs.length-((i+1:Nat):Int).toNat<xs.length-(i:Int).toNat;omega⟩
    ·rw[ABc hi'];exact(gr _).trans ((h3.cons _).trans (List.perm_append_singleton _ _).symm)
    ·refine cg (R:=λx y=>lt x y=true) (λa b c=>ho.tr a b c) h4 hk q1 λy hy hk0=>?_;have hm:y∈l:=AAR hy;have zp:y≠xs[i]:=λe=>hnx (e▸h3.mem_iff.1 hm);rcases ho.Q3 y (hmem y hm) xs[i] (ABR hi') zp with h|h
     ·exact h
     ·have:=q2 y hy hk0;rw[h]at this;cases this) n ([],0) ⟨0,rfl,J,AAA,List.Pairwise.nil⟩ (by simpa using hn)
 grind
section
open Go.Sort
theorem dc(l:By)(k:Nat)(x:Int)(h:l[k]?=some x):l.toArray[k]! = x:=No
theorem o8{l r:By}{k:Nat}{x:Int}(hk:k<l.length):swp (hole l (k+1) x++r).toArray (k+1) k=(hole l k x++r).toArray:=by
 have hg:=AAM hk;have e1:(hole l (k+1) x++r).toArray[k]! = l[k]:=dc _ _ _ (by rw[ABB (by rw[SZ J];omega),dh hg])
 have e2:(hole l (k+1) x++r).toArray[k+1]! = x:=dc _ _ _ (by
  rw[ABB (by rw[SZ J];omega)];unfold hole;grind)
 unfold swp;rw[e1,e2,List.setIfInBounds_toArray,List.setIfInBounds_toArray];rw[List.set_append_left _ _ (by rw[SZ J];omega),eJ hg,List.set_append_left _ _ (by rw[SZ J];omega),bV J]
theorem eV(lt:Int->Int->Bool)(l r:By)(x:Int):∀k,k<=l.length->(∀y∈l.drop k,lt x y=true)->
  ∃k'≤l.length,insInner lt 0 k (hole l k x++r).toArray=(hole l k' x++r).toArray/\(∀y∈l.drop k',lt x y=true)/\(∀y,l[k'-1]?=some y->0<k'->lt x y=false)
 |0,h,hd=>⟨0,h,rfl,hd,λ_ _ h=>absurd h J⟩
 |k+1,h,hd=>by
  have hk:k<l.length:=J
  have hg:=AAM hk;have e1:(hole l (k+1) x++r).toArray[k]! = l[k]:=dc _ _ _ (by rw[ABB (by rw[SZ J];omega),dh hg])
  have e2:(hole l (k+1) x++r).toArray[k+1]! = x:=dc _ _ _ (by
   rw[ABB (by rw[SZ J];omega)];unfold hole;grind)
  unfold insInner;rw[e1,e2];cases zj:lt x l[k]with
  |false=>
   grind
  |true=>
   rw[AAS AAA,o8 hk];refine eV lt l r x k J λy hy=>?_;rw[ABi hk]at hy;grind
theorem cq(lt:Int->Int->Bool)(xs:By)(hnd:xs.Nodup)(ho:Ord lt xs):∀d i l,i+d=xs.length->l.Perm (xs.take i)->(l.Pairwise λx y=>lt x y=true)->
  ∃m:By,insOuter lt 0 xs.length i (l++xs.drop i).toArray=m.toArray/\m.Perm xs/\m.Pairwise λx y=>lt x y=true
 |0,i,l,h,hp,hs=>by
  have:i=xs.length:=J
  subst this;rw[insOuter,AAT J,List.drop_length,ABf];grind
 |d+1,i,l,h,h3,h4=>by
  have hi':i<xs.length:=J
  have hlen:l.length=i:=by rw[h3.length_eq];simp;omega
  have hmem:∀y∈l,y∈xs:=λy hy=>ACP (h3.mem_iff.1 hy);rw[insOuter,AAS hi',ABi hi'];obtain⟨k,hk,e,q1,q2⟩:=eV lt l (xs.drop (i+1)) xs[i] l.length (AAh _) AAA;rw[show hole l l.length xs[i]++xs.drop (i+1)=l++xs[i]::xs.drop (i+1) by simp[hole],hlen]at e;rw[e]
  have hnx:xs[i]∉xs.take i:=λhm=>by
   obtain⟨j,hj,e⟩:=ABU.1 hm;have hj2:j<i:=by simp at hj;omega
   have:=ABM.1 hnd j i J hi' hj2;grind
  refine cq lt xs hnd ho d (i+1) _ J ?_ ?_
  ·rw[ABc hi'];exact(gr _).trans ((h3.cons _).trans (List.perm_append_singleton _ _).symm)
  ·refine cg (R:=λx y=>lt x y=true) (λa b c=>ho.tr a b c) h4 hk q1 λy hy hk0=>?_;have hm:y∈l:=AAR hy;have zp:y≠xs[i]:=λe=>hnx (e▸h3.mem_iff.1 hm);rcases ho.Q3 y (hmem y hm) xs[i] (ABR hi') zp with h|h
   all_goals grind
end
theorem o4{lt:Int->Int->Option Bool}{xs:By}(hx:∀x∈xs,∀y∈xs,(lt x y).isSome=true)(h20:xs.length<=20)(hnd:xs.Nodup)(ho:Ord (OD lt) xs):
  ∃l,MV lt xs=some l/\l.Perm xs/\l.Pairwise λx y=>OD lt x y=true:=by
 unfold MV;by_cases h1:xs.length<=1
 ·rw[ABV h1];refine⟨xs,rfl,.refl _,?_⟩
  match xs,h1 with
  | [],_=>exact .nil
  | [x],_=>simp
 ·rw[ABZ h1,ABV h20]
  have hall:(xs.all λx=>xs.all λy=>(lt x y).isSome)=true:=by rw[AAZ];intro x hx';rw[AAZ];intro y hy';exact hx x hx' y hy'
  rw[hall]
  match xs,h1,hnd,ho with
  |x::r,h1,hnd,ho=>
   obtain⟨m,e,p,q⟩:=cq (OD lt) (x::r) hnd ho r.length 1 [x] ADY AAA AAA;refine⟨m,?_,p,q⟩;show some (Go.Sort.insertionSort (OD lt) (x::r).toArray 0 (x::r).length).toList=some m;unfold Go.Sort.insertionSort;grind
theorem ZK(L:By×Int->Option ((By×Int)⊕(By×Int)))(xs:By)(P:Int->Bool)
  (hstep:∀(i:Nat)(x:Int)(out:By),xs[i]?=some x->i<xs.length->out.length<=i->L (out,(i:Int))=some (.inl ((bif P x then out++[x]else out),((i+1:Nat):Int))))
  (hend:∀out,L (out,(xs.length:Int))=some (.inr (out,(xs.length:Int)))) (n:Nat) (hn:xs.length<n):iter n L ([],0)=some (xs.filter P,(xs.length:Int)):=by
 obtain⟨z,h1,h2⟩:=Ya (f:=L) (λs=>∃i≤xs.length,s=((xs.take i).filter P,(i:Int))) (λs=>s=(xs.filter P,(xs.length:Int))) (λs=>xs.length-s.2.toNat) (λs hs=>by
  obtain⟨i,hi,rfl⟩:=hs;by_cases hi2:i=xs.length
  ·grind
  ·have hi':i<xs.length:=J
   have hx:xs[i]?=some xs[i]:=AAM hi';have hlen:((xs.take i).filter P).length<=i:=AA2 (ABo _ _) ADY;refine .inr ⟨_,hstep i _ _ hx hi' hlen,⟨i+1,J,?_⟩,by show xs.length-((i+1:Nat):Int).toNat<xs.length-(i:Int).toNat;omega⟩;rw[ABc hi',ACB];grind) n ([],0) ⟨0,J,AAA⟩ J
 rw[h2,h1]
def Qd(w h i:Int):By:=(bif decide (i.tdiv w>0)then [i-w]else [])++(bif decide (i.tmod w>0)then [i-1]else [])++(bif decide (i.tmod w<w-1)then [i+1]else [])++(bif decide (i.tdiv w<h-1)then [i+w]else [])
structure Cell(w h i:Int):Prop where
 w1:1<=w
 w2:w<=10
 h1:1<=h
 h2:h<=10
 i1:0<=i
 i2:i<w*h
theorem pF{w h:Int}(h1:1<=w)(h2:w<=10)(h3:1<=h)(h4:h<=10):w*h<=100:=by have:=Int.mul_le_mul h2 h4 J (by omega:(0:Int)<=10);omega
theorem jY{w h i:Int}(c:Cell w h i):∃q r,i=w*q+r/\0<=r/\r<w/\0<=q/\q<=h-1/\i.tdiv w=q/\i.tmod w=r/\0<=w*q/\w*q+w<=w*h:=by obtain⟨w1,w2,h1,h2,i1,i2⟩:=c;have e1:i.tdiv w=i / w:=Int.tdiv_eq_ediv_of_nonneg i1;have e2:i.tmod w=i%w:=Int.tmod_eq_emod_of_nonneg i1;have e3:=Int.mul_ediv_add_emod i w;have r1:=Int.emod_nonneg i (show w≠0 by omega);have r2:=Int.emod_lt_of_pos i (show 0<w by omega);have q1:0<=i / w:=Int.ediv_nonneg i1 J;have q2:i / w<h:=Int.ediv_lt_of_lt_mul J (by rw[Int.mul_comm];exact i2);refine⟨i / w,i%w,e3.symm,r1,r2,q1,J,e1,e2,Int.mul_nonneg J q1,?_⟩;have:=Int.mul_le_mul_of_nonneg_left (show i / w+1<=h by omega) (show(0:Int)<=w by omega);grind
theorem YO{w h i:Int}(c:Cell w h i):(∀y∈Qd w h i,0<=y/\y<w*h/\y≠i)/\(Qd w h i).Nodup/\(Qd w h i).length<=4:=by
 obtain⟨q,r,e,r1,r2,q1,q2,e1,e2,m1,m2⟩:=jY c;obtain⟨w1,w2,h1,h2,i1,i2⟩:=c;unfold Qd;rw[e1,e2]
 have g1:0<q->w<=w*q:=λh=>by have:=Int.mul_le_mul_of_nonneg_left (show(1:Int)<=q by omega) (show(0:Int)<=w by omega);omega
 have g2:q<h-1->w*q+w+w<=w*h:=λhq=>by have:=Int.mul_le_mul_of_nonneg_left (show q+1+1<=h by omega) (show(0:Int)<=w by omega);grind
 have G1:q<=0\/w<=w*q:=by
  by_cases hq:0<q
  ·omega
  ·omega
 have G2:h-1<=q\/w*q+w+w<=w*h:=by
  by_cases hq:q<h-1
  ·omega
  ·omega
 clear g1 g2;generalize w*q=m at *;generalize w*h=t at *;subst e;by_cases a1:q>0<;>by_cases a2:r>0<;>by_cases a3:r<w-1<;>by_cases a4:q<h-1<;>simp[a1,a2,a3,a4]<;>omega
theorem bP{w h i:Int}(c:Cell w h i)(cs:By):UL w h cs i=some (Qd w h i):=by
 obtain⟨q,r,e,r1,r2,q1,q2,e1,e2,m1,m2⟩:=jY c;obtain⟨w1,w2,h1,h2,i1,i2⟩:=c;have hb:=pF w1 w2 h1 h2;unfold UL Qd;rw[e1,e2];rw[show(w==0)=false by rw[ABW];omega];simp only[ABS,PA (show -9223372036854775808<=q by omega) J,PA (show -9223372036854775808<=i-w by omega) J,PA (show -9223372036854775808<=i-1 by omega) J,PA (show -9223372036854775808<=i+1 by omega) J,PA (show -9223372036854775808<=i+w by omega) J,PA (show -9223372036854775808<=w-1 by omega) J,PA (show -9223372036854775808<=h-1 by omega) J];generalize decide (q>0)=b1;generalize decide (r>0)=b2;generalize decide (r<w-1)=b3;generalize decide (q<h-1)=b4;cases b1<;>cases b2<;>cases b3<;>cases b4<;>rfl
theorem gX:Xx=UL:=rfl
def O9(c:By)(i:Int):Int:=c.getD i.toNat 0
theorem Xa{c:By}{i:Int}(h:0<=i/\i<(c.length:Int)):Iv c i=some (O9 c i):=by obtain⟨m,rfl⟩:∃m:Nat,i=m:=⟨i.toNat,J⟩;rw[O3 J];simp[O9,List.getD,AAM (show m<c.length by omega)]
structure mL(w h:Int)(c:By):Prop where
 w1:1<=w
 w2:w<=10
 h1:1<=h
 h2:h<=10
 len:(c.length:Int)=w*h
theorem mL.cell{w h:Int}{c:By}(f:mL w h c){i:Int}(hi:0<=i/\i<(c.length:Int)):Cell w h i:=⟨f.w1,f.w2,f.h1,f.h2,hi.1,f.len▸hi.2⟩
theorem mL.le{w h:Int}{c:By}(f:mL w h c):c.length<=100:=by have:=pF f.w1 f.w2 f.h1 f.h2;have:=f.len;omega
theorem Tz{w h:Int}{c:By}(hf:PW w h c=true):mL w h c:=by unfold PW P5 at hf;simp only[AAN,AAj,AAX]at hf;obtain⟨⟨⟨⟨a,b⟩,⟨d,e⟩⟩,g⟩,_⟩:=hf;have h1:=pF a b d e;have h2:0<=w*h:=Int.mul_nonneg J J;rw[PA J J]at g;exact⟨a,b,d,e,g⟩
def R1(w h:Int)(c:By)(i:Int)(a:Bool):By:=(Qd w h i).filter λk=>O9 c k != 0 && !(a&&O9 c k==2)
theorem ao{w h:Int}{c:By}(f:mL w h c){i:Int}(hi:0<=i/\i<(c.length:Int))(a:Bool):(∀y∈R1 w h c i a,(0<=y/\y<(c.length:Int))/\y≠i)/\(R1 w h c i a).Nodup/\(R1 w h c i a).length<=4:=by obtain⟨h1,h2,h3⟩:=YO (f.cell hi);refine⟨λy hy=>?_,h2.filter _,AA2 (ABo _ _) h3⟩;have:=h1 y (ABb.1 hy).1;rw[f.len];omega
theorem bE{w h:Int}{c:By}(f:mL w h c){i:Int}(hi:0<=i/\i<(c.length:Int))(a:Bool)(n:Nat)(hn:PE<=n):Wb n w h c i a=some (R1 w h c i a):=by
 obtain⟨h1,h2,h3⟩:=YO (f.cell hi)
 have:=ZK (VY c a (Qd w h i)) (Qd w h i) (λk=>O9 c k != 0 && !(a&&O9 c k==2)) (λj x out hx hj ho=>by
  have hxm:=h1 x (AAR hx);have hm:decide (out.length+[x].length<=E7)=true:=by rw[AAj];simp[E7];omega
  simp only[VY,O6 hj,ABT,hx,ABP,Xa (c:=c) (i:=x) (by rw[f.len];exact⟨hxm.1,hxm.2.1⟩),O1 hj J,ABQ,hm];grind) (λout=>by simp[VY]) n ADU
 unfold Wb;rw[bP (f.cell hi),ABP,this];rfl
theorem aj{w h:Int}{c:By}(f:mL w h c){i:Int}(hi:0<=i/\i<(c.length:Int))(a:Bool)(n:Nat)(hn:PE<=n):YY n w h c i a=some (R1 w h c i a):=by
 obtain⟨h1,h2,h3⟩:=YO (f.cell hi)
 have:=ZK (W4 c a (Qd w h i)) (Qd w h i) (λk=>O9 c k != 0 && !(a&&O9 c k==2)) (λj x out hx hj ho=>by
  have hxm:=h1 x (AAR hx);have hm:decide (out.length+[x].length<=E7)=true:=by rw[AAj];simp[E7];omega
  simp only[W4,O6 hj,ABT,hx,ABP,Xa (c:=c) (i:=x) (by rw[f.len];exact⟨hxm.1,hxm.2.1⟩),O1 hj J,ABQ,hm];grind) (λout=>by simp[W4]) n ADU
 unfold YY;rw[gX,bP (f.cell hi),ABP,this];rfl
structure FJ(N:Nat)(q out:By):Prop where
 len:out.length=N
 xZ:∀y∈q,0<=y/\y<(N:Int)
 Mc:∀x∈out, -1<=x/\x<(q.length:Int)
 Ot:q.length+out.countP (λx=>decide (x<0))=N
theorem T7{out:By}{v:Int}(h:0<=v/\v<(out.length:Int)):ON out v=true/\out[v.toNat]?=some (O9 out v)/\O9 out v∈out:=by
 obtain⟨m,rfl⟩:∃m:Nat,v=m:=⟨v.toNat,J⟩;have hm:m<out.length:=J
 have e:O9 out (m:Int)=out[m]:=by simp[O9,List.getD,AAM hm]
 refine⟨O6 hm,?_,?_⟩
 all_goals grind
theorem FJ.uJ{N:Nat}{q out:By}(h:FJ N q out){v a:Int}(hv:0<=v/\v<(N:Int))(ha:0<=a/\a<(N:Int))(hneg:O9 out v<0):FJ N (q++[v]) (out.set v.toNat (O9 out a+1)):=by
 obtain⟨_,e1,_⟩:=T7 (out:=out) (v:=v) (by rw[h.len];exact hv);obtain⟨_,_,m2⟩:=T7 (out:=out) (v:=a) (by rw[h.len];exact ha);have hb:=h.Mc _ m2;obtain⟨hvl,e2⟩:=AAO.1 e1;refine⟨by simp[h.len],λy hy=>?_,λx hx=>?_,?_⟩
 ·rcases ABI.1 hy with hy|hy
  ·exact h.xZ y hy
  grind
 ·rcases List.mem_or_eq_of_mem_set hx with hx|rfl
  ·have:=h.Mc x hx;simp;omega
  grind
 ·have hc:=h.Ot;grind
theorem nv(w h:Int)(c:By)(N:Nat)(hN:N<=100)(a:Int)(ha:0<=a/\a<(N:Int))(nl:By)(hnl:∀y∈nl,0<=y/\y<(N:Int))(hl4:nl.length<=4)(k:Nat)(n n':Nat)(hn:PE<=n)(hn':PE<=n')(q out:By)(hk:k<=q.length)(hJ:FJ N q out):
  ∃q' out',iter n (RX a nl) (q,0,out)=some (q',(nl.length:Int),out')/\iter n' (Ss a nl) (q.drop k,0,out)=some (q'.drop k,(nl.length:Int),out')/\k<=q'.length/\FJ N q' out':=by
 obtain⟨z,w',⟨q',out',rfl,rfl,h1,h2⟩,h3,h4⟩:=gw (f:=RX a nl) (g:=Ss a nl)
  (λx y=>∃(i:Nat) (q out:By),x=(q,(i:Int),out)/\y=(q.drop k,(i:Int),out)/\i<=nl.length/\k<=q.length/\FJ N q out)
  (λz w=>∃(q out:By),z=(q,(nl.length:Int),out)/\w=(q.drop k,(nl.length:Int),out)/\k<=q.length/\FJ N q out)
  (λx=>nl.length-x.2.1.toNat) (λx y hR=>by
   obtain⟨i,q,out,rfl,rfl,hi,hk,hJ⟩:=hR;by_cases hi2:i=nl.length
   ·subst hi2;exact .inl ⟨(q,(nl.length:Int),out),(q.drop k,(nl.length:Int),out),by simp[RX],by simp[Ss],q,out,rfl,rfl,hk,hJ⟩
   ·right;have hi':i<nl.length:=J
    have hv:=hnl nl[i] (ABR hi');have hx:nl[i]?=some nl[i]:=AAM hi';generalize nl[i]=v at hv hx;obtain⟨v1,v2,v3⟩:=T7 (out:=out) (v:=v) (by rw[hJ.len];exact hv);obtain⟨a1,a2,a3⟩:=T7 (out:=out) (v:=a) (by rw[hJ.len];exact ha);have hd:decide ((i:Int)<(nl.length:Int))=true:=by simpa using hi'
    have hq:q.length<=100:=by have:=hJ.Ot;omega
    have hw:O5 (O9 out a+1)=O9 out a+1:=by have:=hJ.Mc _ a3;exact PA J J
    by_cases hneg:O9 out v<0
    ·refine⟨(q++[v],((i+1:Nat):Int),out.set v.toNat (O9 out a+1)),((q++[v]).drop k,((i+1:Nat):Int),out.set v.toNat (O9 out a+1)),?_,?_,⟨i+1,_,_,rfl,rfl,J,ADY,hJ.uJ hv ha hneg⟩,by show nl.length-((i+1:Nat):Int).toNat<nl.length-(i:Int).toNat;omega⟩
     ·have hm:decide (q.length+[v].length<=E7)=true:=by rw[AAj];simp[E7];omega
      simp only[RX,hd,O6 hi',ABT,hx,ABP,v1,v2,a1,a2,ABV hneg,ABQ,hm,hw,O1 hi' J,Pz]
     ·have hm:decide ((q.drop k).length+[v].length<=E7)=true:=by rw[AAj];simp[E7];omega
      simp only[Ss,hd,O6 hi',ABT,hx,ABP,v1,v2,a1,a2,ABV hneg,ABQ,hm,hw,O1 hi' J,Pz];rw[List.drop_append_of_le_length hk]
    ·refine⟨(q,((i+1:Nat):Int),out),(q.drop k,((i+1:Nat):Int),out),?_,?_,⟨i+1,_,_,rfl,rfl,J,hk,hJ⟩,by show nl.length-((i+1:Nat):Int).toNat<nl.length-(i:Int).toNat;omega⟩
     ·simp only[RX,hd,O6 hi',ABT,hx,ABP,v1,v2,ABZ hneg,ABQ,ABS,O1 hi' J]
     ·simp only[Ss,hd,O6 hi',ABT,hx,ABP,v1,v2,ABZ hneg,ABQ,ABS,O1 hi' J]) n n' (q,0,out) (q.drop k,0,out) ⟨0,q,out,rfl,rfl,J,hk,hJ⟩ (by show nl.length-(0:Int).toNat<n;unfold PE at hn;omega) (by show nl.length-(0:Int).toNat<n';unfold PE at hn';omega)
 grind
theorem kg(c:By)(hl:c.length<=100)(n:Nat)(hn:PE<=n):iter n (Sp c) ([],0)=some (List.replicate c.length (-1),(c.length:Int)):=by
 have:=Pa (Sp c) (λi=>(List.replicate i (-1),(i:Int))) c.length (List.replicate c.length (-1),(c.length:Int)) (λi hi=>by
  have hm:decide ((List.replicate i (-1:Int)).length+[(-1:Int)].length<=E7)=true:=by rw[AAj];simp[E7];omega
  simp only[Sp,hm,O1 hi J];rw[show decide ((i:Int)<(c.length:Int))=true by simpa using hi];simp[ACO]) (by simp[Sp]) n ADU
 grind
theorem kC(L:Int×By->Option ((Int×By)⊕(Int×By)))(N:Nat)(x:Int)(hL:∀(i:Nat)(out:By),i<N->out.length=N->L ((i:Int),out)=some (.inl (((i+1:Nat):Int),out.set i x)))(he:∀out,out.length=N->L ((N:Int),out)=some (.inr ((N:Int),out)))(n:Nat)(hn:N<n):
  iter n L (0,List.replicate N 0)=some ((N:Int),List.replicate N x):=by
 have:=Pa L (λi=>((i:Int),List.replicate i x++List.replicate (N-i) 0)) N ((N:Int),List.replicate N x) (λi hi=>by
  rw[hL i _ hi ADY];congr 3;rw[ACE _ _ AAA,List.length_replicate,ACR,ACO];rw[show N-i=(N-(i+1))+1 by omega,List.replicate_succ,ACS,ABj];rfl) (by rw[he _ AAA];simp) n hn
 grind
theorem dK(c:By)(hl:c.length<=100)(n:Nat)(hn:PE<=n):iter n (V6 c) (0,List.replicate (Int.toNat (c.length:Int)) 0)=some ((c.length:Int),List.replicate c.length (-1)):=by rw[ABT];refine kC _ c.length (-1) (λi out hi ho=>?_) (λout ho=>by simp[V6]) n ADU;simp only[V6,O6 (ho▸hi),O1 hi J,Pz,ABT,ABQ,List.length_replicate];grind
theorem bT{w h:Int}{c:By}(f:mL w h c){t:Int}(ht:0<=t/\t<(c.length:Int))(b:Bool)(n n':Nat)(hn:PE<=n)(hn':PE<=n'):
  ∃F,Tt n w h c t b=some F/\Ul n' w h c t b=some F/\F.length=c.length/\∀x∈F, -1<=x/\x<(c.length:Int):=by
 have hN:=f.le;have hB:1048576<=n:=AA2 ADb hn;have hB':1048576<=n':=AA2 ADb hn'
 have hJ0:FJ c.length [t] ((List.replicate c.length (-1)).set t.toNat 0):=by
  have hr:∀x∈List.replicate c.length (-1:Int),x = -1:=λx hx=>(List.mem_replicate.1 hx).2;have htl:t.toNat<(List.replicate c.length (-1:Int)).length:=ADY
  refine⟨AAA,λy hy=>No,λx hx=>?_,?_⟩
  ·grind
  ·rw[List.countP_set htl];have:(List.replicate c.length (-1:Int)).countP (λx=>decide (x<0))=c.length:=by rw[List.countP_replicate];simp
   grind
 obtain⟨z,w',⟨F,hz,hw,h1,h2⟩,h3,h4⟩:=gw (f:=Sq n w h c t b) (g:=UA n' w h c t b)
  (λx y=>∃(k:Nat) (q out:By),x=(q,(k:Int),out)/\y=(q.drop k,out)/\k<=q.length/\FJ c.length q out)
  (λz w=>∃F,z.2.2=F/\w.2=F/\F.length=c.length/\∀x∈F, -1<=x/\x<(c.length:Int))
  (λx=>c.length-x.2.1.toNat) (λx y hR=>by
   obtain⟨k,q,out,rfl,rfl,hk,hJ⟩:=hR;have hq:q.length<=c.length:=by have:=hJ.Ot;omega
   by_cases hk2:k=q.length
   ·subst hk2;refine .inl ⟨(q,(q.length:Int),out),([],out),by simp[Sq],by simp[UA],out,rfl,rfl,hJ.len,λx hx=>?_⟩;have:=hJ.Mc x hx;omega
   ·right;have hk':k<q.length:=J
    have hx:q[k]?=some q[k]:=AAM hk';have hv:=hJ.xZ q[k] (ABR hk');have hdc:q.drop k=q[k]::q.drop (k+1):=ABi hk';generalize q[k]=v at hx hv hdc;have hd:decide ((k:Int)<(q.length:Int))=true:=by simpa using hk'
    have hlen1:decide (((q.drop k).length:Int)>0)=true:=by rw[AAj];simp;omega
    have hsub:sub (q.drop k) (Int.toNat 1) (Int.toNat ((q.drop k).length:Int))=q.drop (k+1):=by rw[hdc];simp[sub,ABx]
    have hrng:(decide ((0:Nat)<=1)&&decide ((1:Int)<=((q.drop k).length:Int))&&decide (((q.drop k).length:Int)<=((q.drop k).length:Int)))=true:=ADY
    have h0:(q.drop k)[Int.toNat 0]?=some v:=by rw[hdc];rfl
    have hi0:ON (q.drop k) 0=true:=by rw[hdc];exact O6 (i:=0) AAA
    have hwk:=O1 hk' J;have hkc:=Xa (c:=c) (i:=v) (by exact hv);by_cases hskip:(b&&v != t&&O9 c v==2)=true
    ·refine⟨(q,((k+1:Nat):Int),out),(q.drop (k+1),out),?_,?_,⟨k+1,q,out,rfl,rfl,J,hJ⟩,No⟩
     ·simp only[Sq,hd,O6 hk',ABT,hx,ABP,ABQ,hkc,hwk];grind
     ·simp only[UA,hlen1,hi0,h0,ABP,ABQ,hrng,hkc,hsub];grind
    ·obtain⟨n1,n2,n3⟩:=ao f hv false;obtain⟨q',out',e1,e2,e3,e4⟩:=nv w h c c.length hN v hv (R1 w h c v false) (λy hy=>(n1 y hy).1) n3 (k+1) n n' hn hn' q out J hJ;refine⟨(q',((k+1:Nat):Int),out'),(q'.drop (k+1),out'),?_,?_,⟨k+1,q',out',rfl,rfl,e3,e4⟩,No⟩
     ·simp only[Sq,hd,O6 hk',ABT,hx,ABP,ABQ,hkc,hwk,bE f hv false n hn,e1];grind
     ·simp only[UA,hlen1,hi0,h0,ABP,ABQ,hrng,hkc,hsub,aj f hv false n' hn',e2];grind) n n' ([t],0,(List.replicate c.length (-1)).set t.toNat 0) ([t],(List.replicate c.length (-1)).set t.toNat 0) ⟨0,[t],_,rfl,rfl,AAA,hJ0⟩ J J
 have zg:ON (List.replicate c.length (-1:Int)) t=true:=(T7 No).1
 have hmr:(decide ((0:Int)<=(c.length:Int))&&decide ((c.length:Int)<=(E7:Int))&&decide ((c.length:Int)=(c.length:Int)))=true:=by
  have hm:(c.length:Int)<=(E7:Int):=by unfold E7;omega
  rw[ABV hm];simp
 refine⟨F,?_,?_,h1,h2⟩
 ·unfold Tt;rw[kg c hN n hn,ABP];dsimp only;rw[zg,Pz,h3,<-hz];rfl
 ·unfold Ul;rw[hmr,dK c hN n' hn',ABQ,ABP];dsimp only;rw[zg,Pz,h4,<-hw];rfl
theorem jc{w h:Int}{c:By}(f:mL w h c){t:Int}(ht:0<=t/\t<(c.length:Int))(b:Bool):
  ∃F,(∀n,PE<=n->Tt n w h c t b=some F/\Ul n w h c t b=some F)/\F.length=c.length/\∀x∈F, -1<=x/\x<(c.length:Int):=by
 obtain⟨F,h1,h2,h3,h4⟩:=bT f ht b PE PE (AAh _) (AAh _);refine⟨F,λn hn=>⟨?_,?_⟩,h3,h4⟩
 ·obtain⟨G,g1,g2,_⟩:=bT f ht b n PE hn (AAh _);grind
 ·obtain⟨G,g1,g2,_⟩:=bT f ht b PE n (AAh _) hn;grind
theorem jG(a b c:Int):PK a b c=some (decide (b<=a)&&decide (a<=c)):=by unfold PK;grind
theorem eR(a b c:Int):PU a b c=some (decide (b<=a)&&decide (a<=c)):=by unfold PU;grind
def P7(t:Int×Int×Int×Int):Bool:=
 decide (1<=t.1)&&decide (t.1<=1000000)&&decide (1<=t.2.1)&&decide (t.2.1<=999)&&decide (1<=t.2.2.2)&&decide (t.2.2.2<=4)&&decide (0<=t.2.2.1)&&decide (t.2.2.1<=99)&&((t.2.2.1==0)==(t.2.2.2==1))
def Pg(t u:Int×Int×Int×Int):Bool:=
 (t.1==u.1&&t.2.1==u.2.1)||(!(t.2.2.2==1)&&(t.2.2.1==u.2.2.1||(t.2.1==u.2.1 && !(u.2.2.2==1))))
def Rl:List (Int×Int×Int×Int)->List (Int×Int×Int×Int)->Bool
 |_,[]=>true
 |p,x::l=>P7 x&&p.all (λu => !Pg x u)&&Rl (p++[x]) l
def Rv(l:List (Int×Int×Int×Int)):Bool:=decide (l.length<=60)&&Rl [] l
theorem sub_zero{α:Type}(xs:List α)(i:Nat):sub xs (Int.toNat (0:Int)) (Int.toNat (i:Int))=xs.take i:=by simp[sub]
theorem ko(x u:Int×Int×Int×Int)(i:Nat)(a:List (Int×Int×Int×Int))(k:Nat)(hk:k<(a.take i).length)(hu:(a.take i)[k]?=some u)(hm:a.length<=1048576):
  RP a i x k=some (bif Pg x u then .inr (.inr false)else .inl ((k+1:Nat):Int)):=by
 unfold RP;rw[sub_zero,RC,hu];have hk':decide ((k:Int)<((a.take i).length:Int))=true:=by simp only[AAj];omega
 rw[hk',ABQ,O1 hk ADY];simp only[ABP,Pg];grind
theorem lN(x u:Int×Int×Int×Int)(i:Nat)(a:List (Int×Int×Int×Int))(k:Nat)(hk:k<i)(hu:a[k]?=some u)(hi:i<=a.length)(hm:a.length<=1048576):
  RV a i x k=some (bif Pg x u then .inr (.inr false)else .inl ((k+1:Nat):Int)):=by
 unfold RV;rw[RC,hu];have hk':decide ((k:Int)<(i:Int))=true:=by simp only[AAj];omega
 rw[hk',ABQ,O1 hk J];simp only[ABP,Pg];grind
theorem kq(x:Int×Int×Int×Int)(i:Nat)(a:List (Int×Int×Int×Int))(hi:i<=a.length)(hm:a.length<=1048576)(n:Nat)(hn:PE<=n):
  iter n (RP a i x) 0=some (bif(a.take i).all (λu => !Pg x u)then .inl (i:Int)else .inr false):=by
 have hl:(a.take i).length=i:=ADY
 refine(XR (RP a i x) (a.take i) (λp l=>bif l.all (λu => !Pg x u)then .inl (i:Int)else .inr false) ?_ ?_ n ADU)
 ·unfold RP;rw[sub_zero,hl];simp[hl]
 ·intro k u l p h1 h2 h3 h4 h5;rw[ko x u i a k h1 h2 hm];grind
theorem lP(x:Int×Int×Int×Int)(i:Nat)(a:List (Int×Int×Int×Int))(hi:i<=a.length)(hm:a.length<=1048576)(n:Nat)(hn:PE<=n):
  iter n (RV a i x) 0=some (bif(a.take i).all (λu => !Pg x u)then .inl (i:Int)else .inr false):=by
 have hl:(a.take i).length=i:=ADY
 refine(XR (RV a i x) (a.take i) (λp l=>bif l.all (λu => !Pg x u)then .inl (i:Int)else .inr false) ?_ ?_ n ADU)
 ·unfold RV;rw[hl];simp
 ·intro k u l p h1 h2 h3 h4 h5;have hk:k<i:=J
  rw[lN x u i a k hk (by rw[List.getElem?_take_of_lt hk]at h2;exact h2) hi hm];grind
theorem mZ(x:Int×Int×Int×Int):
  ((PU x.1 1 1000000).bind λ(x3:Bool)=>bif(!x3)then some true else(PU x.2.1 1 999).bind λ(x4:Bool)=>bif(!x4)then some true else(PU x.2.2.2 1 4).bind λ(x5:Bool)=>bif(!x5)then some true else
   bif((x.2.2.2==1) != (x.2.2.1==0))then some true else(PU x.2.2.1 0 99).bind λ(x6:Bool)=>some (!x6))=some (!P7 x):=by
 simp only[eR,ABP,P7];grind
theorem nK(x:Int×Int×Int×Int):
  ((PK x.1 1 1000000).bind λ(x3:Bool)=>bif(!x3)then some true else(PK x.2.1 1 999).bind λ(x4:Bool)=>bif(!x4)then some true else(PK x.2.2.2 1 4).bind λ(x5:Bool)=>bif(!x5)then some true else
   (PK x.2.2.1 0 99).bind λ(x6:Bool)=>bif(!x6)then some true else some ((x.2.2.1==0) != (x.2.2.2==1)))=some (!P7 x):=by
 simp only[jG,ABP,P7]
 cases decide (1<=x.1)<;>cases decide (x.1<=1000000)<;>cases decide (1<=x.2.1)<;>cases decide (x.2.1<=999)<;>cases decide (1<=x.2.2.2)<;>cases decide (x.2.2.2<=4)<;>simp <;>
  cases(x.2.2.2==1)<;>cases(x.2.2.1==0)<;>cases decide (0<=x.2.2.1)<;>cases decide (x.2.2.1<=99)<;>simp
theorem Y9(a:List (Int×Int×Int×Int))(hm:a.length<=1048576)(n:Nat)(hn:PE<=n):VE n a=some (Rv a):=by
 have key:iter n (RO n a) 0=some (bif Rl [] a then .inl (a.length:Int)else .inr false):=by
  refine XR (RO n a) a (λp l=>bif Rl p l then .inl (a.length:Int)else .inr false) ?_ ?_ n ADU
  ·unfold RO;simp[Rl]
  ·intro i x l p h1 h2 h3 h4 h5
   have e:RO n a i=some (bif P7 x&&p.all (λu => !Pg x u)then .inl ((i+1:Nat):Int)else .inr (.inr false)):=by
    unfold RO;rw[show decide ((i:Int)<(a.length:Int))=true by grind,ABQ,RC,h2];simp only[ABP,mZ,O1 h1 J];cases hg:P7 x with
    |false=>simp
    |true=>
     rw[show(decide ((0:Int)<=(0:Int))&&decide ((0:Int)<=(i:Int))&&decide ((i:Int)<=(a.length:Int)))=true by simp;omega];rw[kq x i a J hm n hn,<-h5];grind
   rw[e];cases hg:(P7 x&&p.all λu => !Pg x u)with
   |true=>exact .inl ⟨AAA,by simp[Rl,hg]⟩
   |false=>exact .inr (by simp[Rl,hg])
 unfold VE;rw[key];cases h:Rl [] a with
 |true=>simp[Rv,h];omega
 |false=>simp[Rv,h]
theorem ZC(a:List (Int×Int×Int×Int))(hm:a.length<=1048576)(n:Nat)(hn:PE<=n):VV n a=some (Rv a):=by
 have key:iter n (RU n a) 0=some (bif Rl [] a then .inl (a.length:Int)else .inr false):=by
  refine XR (RU n a) a (λp l=>bif Rl p l then .inl (a.length:Int)else .inr false) ?_ ?_ n ADU
  ·unfold RU;simp[Rl]
  ·intro i x l p h1 h2 h3 h4 h5
   have e:RU n a i=some (bif P7 x&&p.all (λu => !Pg x u)then .inl ((i+1:Nat):Int)else .inr (.inr false)):=by
    unfold RU;rw[show decide ((i:Int)<(a.length:Int))=true by grind,ABQ,RC,h2];simp only[ABP,nK,O1 h1 J];cases hg:P7 x with
    |false=>simp
    |true=>
     rw[lP x i a J hm n hn,<-h5];grind
   rw[e];cases hg:(P7 x&&p.all λu => !Pg x u)with
   |true=>exact .inl ⟨AAA,by simp[Rl,hg]⟩
   |false=>exact .inr (by simp[Rl,hg])
 unfold VV;rw[key];by_cases hl:a.length<=60
 ·rw[show decide ((a.length:Int)>60)=false by simp;omega];cases h:Rl [] a with
  |true=>simp[Rv,h,hl]
  |false=>simp[Rv,h]
 ·rw[show decide ((a.length:Int)>60)=true by simp;omega];simp[Rv,hl]
def AS:List (Nat->Int)->It->Int->Prop
 | [],_,x=>x=0
 |r::rs,S,x=>∃k∈S,∃y,AS rs (S.erase k) y/\x=r k+y
def qW(R:List (Nat->Int))(S:It)(x:Int):Prop:=AS R S x/\∀y,AS R S y->x<=y
theorem qW.uniq{R:List (Nat->Int)}{S:It}{x y:Int}(h1:qW R S x)(h2:qW R S y):x=y:=
 Int.le_antisymm (h1.2 y h2.1) (h2.2 x h1.1)
def Qv:By->Int
 | []=>0
 |x::l=>x+Qv l
theorem fV:∀a b:By,Qv (a++b)=Qv a+Qv b
 | [],b=>by simp[Qv]
 |x::a,b=>by simp only[ABG,Qv,fV a b];omega
theorem aU(v:Nat->Int):∀(S:It)(k:Nat),k∈S->Qv (S.map v)=v k+Qv ((S.erase k).map v)
 | [],k,h=>by cases h
 |a::S,k,h=>by
  by_cases e:a=k
  ·subst e;simp[Qv]
  ·have hk:k∈S:=by
    rcases AAi.1 h with h|h
    ·omega
    ·exact h
   have e2:(a==k)=false:=by simpa using e
   rw[List.erase_cons,e2];simp only[ABL,if_false,ABH,Qv,aU v S k hk];omega
theorem kJ(v:Nat->Int):∀(S:It),(∀k∈S,v k<=0)->Qv (S.map v)<=0
 | [],_=>by simp[Qv]
 |a::S,h=>by simp only[ABH,Qv];have:=kJ v S (λk hk=>h k (AAQ _ hk));grind
theorem AS.ge(v:Nat->Int):∀(R:List (Nat->Int)) (u:By) (S:It) (x:Int),u.length=R.length->(∀i (hi:i<R.length) (hu:i<u.length),∀k∈S,u[i]+v k<=R[i] k)->(∀k∈S,v k<=0)->AS R S x->Qv u+Qv (S.map v)<=x
 | [],u,S,x,hl,_,hv,hx=>by obtain rfl:u=[]:=AAU hl;have:=kJ v S hv;simp only[AS]at hx;simp only[Qv];omega
 |r::R,[],S,x,hl,_,_,_=>ADo
 |r::R,u0::u,S,x,hl,hc,hv,hx=>by
  obtain⟨k,hk,y,hy,rfl⟩:=hx
  have ih:=AS.ge v R u (S.erase k) y No (λi hi hu q hq=>by
   have:=hc (i+1) ADY ADY q (ABs hq);simpa using this) (λq hq=>hv q (ABs hq)) hy
  have h0:=hc 0 AAA AAA k hk;simp only[AB9]at h0;rw[aU v S k hk];simp only[Qv];omega
theorem iE(f:Nat->Int):∀(S:It),(∀k∈S,f k=0)->Qv (S.map f)=0
 | [],_=>rfl
 |a::S,h=>by simp only[ABH,Qv,iE f S (λk hk=>h k (AAQ _ hk)),h a AAo];omega
theorem lU(f:Nat->Int):∀(cs S:It),cs.Nodup->S.Nodup->(∀k∈cs,k∈S)->(∀k∈S,k∉cs->f k=0)->Qv (S.map f)=Qv (cs.map f)
 | [],S,_,_,_,h=>by rw[iE f S (λk hk=>h k hk AAA)];rfl
 |k::cs,S,hn,hS,hs,h=>by
  obtain⟨h1,h2⟩:=AAf.1 hn;rw[aU f S k (hs k AAo),lU f cs (S.erase k) h2 (hS.erase k) (λq hq=>?_) (λq hq hc=>?_)]
  ·rfl
  all_goals grind
theorem ar:∀(a b:It),a.Nodup->(∀x∈a,x∈b)->a.length<=b.length
 | [],_,_,_=>AAA
 |x::a,b,hn,hs=>by obtain⟨h1,h2⟩:=AAf.1 hn;have hx:=hs x AAo;have:=ar a (b.erase x) h2 (λq hq=>(List.mem_erase_of_ne (λe:q=x=>h1 (e▸hq))).2 (hs q (AAQ _ hq)));grind
def my:List (Nat->Int)->It->Int
 |r::rs,k::ks=>r k+my rs ks
 |_,_=>0
theorem AS.of:∀(R:List (Nat->Int)) (cs:It) (S:It),cs.length=R.length->cs.Nodup->(∀k∈cs,k∈S)->AS R S (my R cs)
 | [],[],S,_,_,_=>rfl
 | [],c::cs,S,hl,_,_=>ADo
 |r::R,[],S,hl,_,_=>ADo
 |r::R,k::cs,S,hl,hn,hs=>by obtain⟨h1,h2⟩:=AAf.1 hn;refine⟨k,hs k AAo,my R cs,AS.of R cs (S.erase k) ADw h2 (λq hq=>?_),rfl⟩;grind
def Zx:Option Int->Option Int->Option Int
 |none,b=>b
 |some x,none=>some x
 |some x,some y=>some (if y<x then y else x)
theorem lp{a b:Option Int}{x:Int}(h:Zx a b=some x):a=some x\/b=some x:=by
 cases a with
 |none=>exact .inr h
 |some y=>cases b with
  |none=>exact .inl h
  |some z=>
   simp only[Zx,Option.some.injEq]at h;grind
theorem rE{a b:Option Int}{y:Int}(h:a=some y):∃z,Zx a b=some z/\z<=y:=by
 subst h;cases b with
 |none=>exact⟨y,rfl,ACU _⟩
 |some z=>exact⟨_,rfl,J⟩
theorem rF{a b:Option Int}{y:Int}(h:b=some y):∃z,Zx a b=some z/\z<=y:=by
 subst h;cases a with
 |none=>exact⟨y,rfl,ACU _⟩
 |some z=>exact⟨_,rfl,J⟩
theorem bq(g:Nat->Option Int):∀(l:It)(b:Option Int),
  (∀x,l.foldl (λb k=>Zx b (g k)) b=some x->b=some x\/∃k∈l,g k=some x)/\
  (∀y,b=some y->∃x,l.foldl (λb k=>Zx b (g k)) b=some x/\x<=y)/\
  (∀k∈l,∀y,g k=some y->∃x,l.foldl (λb k=>Zx b (g k)) b=some x/\x<=y)
 | [],b=>⟨λx h=>.inl h,λy h=>⟨y,h,ACU _⟩,λk hk=>by cases hk⟩
 |k::l,b=>by
  obtain⟨i1,i2,i3⟩:=bq g l (Zx b (g k));simp only[List.foldl_cons];refine⟨λx hx=>?_,λy hy=>?_,λq hq y hy=>?_⟩
  ·rcases i1 x hx with h|⟨q,hq,e⟩
   ·rcases lp h with h|h
    ·exact .inl h
    ·exact .inr ⟨k,AAo,h⟩
   grind
  ·obtain⟨z,h1,h2⟩:=rE (b:=g k) hy;grind
  ·rcases AAi.1 hq with rfl|hq
   ·obtain⟨z,h1,h2⟩:=rF (a:=b) hy;obtain⟨x,h3,h4⟩:=i2 z h1;exact⟨x,h3,J⟩
   grind
def Yf:List (Nat->Int)->It->Option Int
 | [],_=>some 0
 |r::rs,S=>S.foldl (λb k=>Zx b ((Yf rs (S.erase k)).map λy=>r k+y)) none
theorem S8:∀(R:List (Nat->Int)) (S:It),(∀x,Yf R S=some x->qW R S x)/\(∀y,AS R S y->∃x,Yf R S=some x/\x<=y)
 | [],S=>⟨λx h=>by
   simp only[Yf,Option.some.injEq]at h;subst h;exact⟨rfl,λy hy=>by simp only[AS]at hy;omega⟩,λy hy=>⟨0,rfl,by simp only[AS]at hy;omega⟩⟩
 |r::R,S=>by
  obtain⟨f1,_,f3⟩:=bq (λk=>(Yf R (S.erase k)).map λy=>r k+y) S none
  have up:∀y,AS (r::R) S y->∃x,Yf (r::R) S=some x/\x<=y:=by
   rintro _ ⟨k,hk,y,hy,rfl⟩
   obtain⟨x,h1,h2⟩:=(S8 R (S.erase k)).2 y hy;obtain⟨z,h3,h4⟩:=f3 k hk (r k+x) (by rw[h1];rfl);exact⟨z,h3,J⟩
  refine⟨λx hx=>⟨?_,λy hy=>?_⟩,up⟩
  ·rcases f1 x hx with h|⟨k,hk,e⟩
   ·cases h
   ·cases hb:Yf R (S.erase k)with
    |none=>rw[hb]at e;cases e
    |some y=>
     rw[hb]at e;simp only[AA7,Option.some.injEq]at e;exact⟨k,hk,y,((S8 R (S.erase k)).1 y hb).1,e.symm⟩
  grind
theorem lY{R:List (Nat->Int)}{S:It}{x:Int}(h:qW R S x):Yf R S=some x:=by obtain⟨y,h1,h2⟩:=(S8 R S).2 x h.1;rw[h1,((S8 R S).1 y h1).uniq h]
theorem kZ(R:List (Nat->Int))(S:It)(hn:S.Nodup)(hl:R.length<=S.length):∃x,Yf R S=some x:=by obtain⟨x,h,_⟩:=(S8 R S).2 _ (AS.of R (S.take R.length) S ADY (hn.sublist (List.take_sublist _ _)) (λk hk=>ACP hk));grind
theorem dx{R:List (Nat->Int)}{S:It}{x:Int}(h:Yf R S=some x)(hc:∀r∈R,∀k∈S,0<=r k):0<=x:=by
 induction R generalizing S x with
 |nil=>simp only[Yf,Option.some.injEq]at h;omega
 |cons r R ih=>
  obtain⟨⟨k,hk,y,hy,rfl⟩,_⟩:=(S8 _ _).1 x h;obtain⟨z,h1,h2⟩:=(S8 R (S.erase k)).2 y hy;have:=ih h1 (λr hr q hq=>hc r (AAQ _ hr) q (ABs hq));have:=hc r AAo k hk;omega
theorem nr{R:List (Nat->Int)}{S:It}{x:Int}{M:Int}(h:Yf R S=some x)(hM:0<=M)(hc:∀r∈R,∀k∈S,r k<=M):x<=M*R.length:=by
 induction R generalizing S x with
 |nil=>simp only[Yf,Option.some.injEq]at h;simp;omega
 |cons r R ih=>
  obtain⟨⟨k,hk,y,hy,rfl⟩,_⟩:=(S8 _ _).1 x h;obtain⟨z,h1,h2⟩:=(S8 R (S.erase k)).2 y hy;have hl:=((S8 _ _).1 _ h).2 (r k+z) ⟨k,hk,z,((S8 _ _).1 z h1).1,rfl⟩;have i:=ih h1 (λr hr q hq=>hc r (AAQ _ hr) q (ABs hq));have:=hc r AAo k hk;rw[ABF,Int.natCast_add,Int.mul_add];omega
def pk:List (Nat->Int)->It->It
 | [],_=>[]
 |r::rs,S=>match S.find? λk=>(Yf rs (S.erase k)).map (λy=>r k+y)==Yf (r::rs) S with
  |some k=>k::pk rs (S.erase k)
  |none=>[]
theorem iy{r:Nat->Int}{R:List (Nat->Int)}{S:It}{x:Int}(h:Yf (r::R) S=some x):∃k∈S,(S.find? λk=>(Yf R (S.erase k)).map (λy=>r k+y)==Yf (r::R) S)=some k/\∃y,Yf R (S.erase k)=some y/\x=r k+y:=by
 obtain⟨f1,_,_⟩:=bq (λk=>(Yf R (S.erase k)).map λy=>r k+y) S none;rcases f1 x h with h2|⟨k,hk,e⟩
 ·cases h2
 cases hf:S.find? λk=>(Yf R (S.erase k)).map (λy=>r k+y)==Yf (r::R) S with
 |none=>
  grind
 |some q=>
  have hq:=ACJ hf;refine⟨q,ABm hf,rfl,?_⟩;rw[h]at hq;cases hb:Yf R (S.erase q)with
  |none=>grind
  |some y=>
   grind
theorem qT:∀(R:List (Nat->Int)) (S:It),S.Nodup->R.length<=S.length->(pk R S).length=R.length/\(pk R S).Nodup/\∀k∈pk R S,k∈S
 | [],S,_,_=>by simp[pk]
 |r::R,S,hn,hl=>by
  obtain⟨x,hx⟩:=kZ (r::R) S hn hl;obtain⟨k,hk,hf,_⟩:=iy hx;have hle:(S.erase k).length=S.length-1:=List.length_erase_of_mem hk;obtain⟨i1,i2,i3⟩:=qT R (S.erase k) (hn.erase k) (by simp at hl;omega);have e:pk (r::R) S=k::pk R (S.erase k):=by simp only[pk,hf]
  grind
structure HF(C:Nat->Nat->Int)(n m:Nat)(u v:Nat->Int):Prop where
 nu:∀r j,1<=r->r<=n->1<=j->j<=m->u r+v j<=C r j
 rL:∀j,1<=j->j<=m->v j<=0
 uX:∀r,1<=r->r<=n->0<=u r
structure HM(m i:Nat)(w:Nat->Int):Prop where
 gO:∀j,1<=j->j<=m->0<=w j/\w j<(i:Int)
 inj:∀j k,1<=j->j<=m->1<=k->k<=m->w j=w k->0<w j->j=k
 rR:∀r:Nat,1<=r->r<i->∃j,1<=j/\j<=m/\w j=(r:Int)
structure HT(C:Nat->Nat->Int)(m:Nat)(u v w:Nat->Int):Prop where
 tight:∀j (r:Nat),1<=j->j<=m->1<=r->w j=(r:Int)->u r+v j=C r j
 free:∀j,1<=j->j<=m->w j=0->v j=0
theorem HM.open{m i:Nat}{w:Nat->Int}(h:HM m i w)(h1:1<=i)(hi:i<=m):∃j,1<=j/\j<=m/\w j=0:=by
 refine AAp λhno=>?_
 have hp:∀j,1<=j->j<=m->0<w j:=λj a b=>by have:=(h.gO j a b).1;grind
 have:=ar ((List.range m).map λk=>(w (k+1)).toNat) (List.range' 1 (i-1)) ?_ ?_
 ·grind
 ·unfold List.Nodup;rw[ABk];refine AB6 (fun {a b} ha hb hab e=>?_) (List.pairwise_lt_range (n:=m));rw[AAb]at ha hb;have p1:=hp (a+1) J J;have p2:=hp (b+1) J J;have:=h.inj (a+1) (b+1) J J J J J p1;omega
 ·intro x hx;obtain⟨k,hk,rfl⟩:=AAw.1 hx;rw[AAb]at hk;have p1:=hp (k+1) J J;have p2:=(h.gO (k+1) J J).2;grind
theorem HF.Mc{C:Nat->Nat->Int}{n m i:Nat}{u v w:Nat->Int}(hf:HF C n m u v)(ht:HT C m u v w)(hm:HM m i w)(h1:1<=i)(hi:i<=m)(zg:i<=n){M:Int}(hC:∀r j,1<=r->r<=n->1<=j->j<=m->0<=C r j/\C r j<=M):
  (∀r,1<=r->r<=n->0<=u r/\u r<=M)/\∀j,1<=j->j<=m -> -M<=v j/\v j<=0:=by
 obtain⟨f,f1,f2,f3⟩:=hm.open h1 hi
 have hu:∀r,1<=r->r<=n->0<=u r/\u r<=M:=λr a b=>by have:=hf.nu r f a b f1 f2;rw[ht.free f f1 f2 f3]at this;have:=(hC r f a b f1 f2).2;exact⟨hf.uX r a b,J⟩
 refine⟨hu,λj a b=>⟨?_,hf.rL j a b⟩⟩;obtain⟨q1,q2⟩:=hm.gO j a b;by_cases h0:w j=0
 ·rw[ht.free j a b h0];grind
 ·have:=ht.tight j (w j).toNat a b J J;grind
def Ch(P:Nat->Nat->Prop):It->Prop
 | []=>True
 |a::l=>(a=0/\l=[])\/(1<=a/\(∃x∈l,P a x)/\Ch P l)
theorem Ch.mono{P Q:Nat->Nat->Prop}:∀ {l:It},(∀a x,a∈l->x∈l->P a x->Q a x)->Ch P l->Ch Q l
 | [],_,_=>trivial
 |a::l,h,hc=>by
  rcases hc with hc|⟨h1,⟨x,hx,hP⟩,h3⟩
  ·exact .inl hc
  ·exact .inr ⟨h1,⟨x,hx,h a x AAo (AAQ _ hx) hP⟩,Ch.mono (λa x ha hx=>h a x (AAQ _ ha) (AAQ _ hx)) h3⟩
theorem Ch.tail{P:Nat->Nat->Prop}{a:Nat}{l:It}(h:Ch P (a::l)):Ch P l:=by
 rcases h with⟨_,h⟩|⟨_,_,h⟩
 ·rw[h];trivial
 ·exact h
theorem Ch.drop{P:Nat->Nat->Prop}{l:It}:∀ {p:It},Ch P (p++l)->Ch P l
 | [],h=>h
 |a::p,h=>Ch.drop (p:=p) (Ch.tail h)
def Fr(C:Nat->Nat->Int)(u v w fr:Nat->Int)(a x:Nat):Prop:=fr a=(x:Int)/\∃r:Nat,1<=r/\w x=(r:Int)/\u r+v a=C r a
structure HG(C:Nat->Nat->Int)(n m:Nat)(u v w ls fr:Nat->Int)(Q:It)(j0:Nat):Prop where
 hf:HF C n m u v
 ht:HT C m u v w
 ub:j0<=m
 nd:(j0::Q).Nodup
 qm:∀j∈Q,j<=m
 qp:∀j∈Q,1<=w j
 ch:Ch (Fr C u v w fr) (j0::Q)
 l1:∀j,1<=j->j<=m->j∉Q->∀b∈Q,∀r:Nat,w b=(r:Int)->ls j<=C r j-u r-v j
 l2:Q=[]\/∀j,1<=j->j<=m->j∉Q->∃b∈Q,fr j=(b:Int)/\∃r:Nat,1<=r/\w b=(r:Int)/\ls j=C r j-u r-v j
structure HS(C:Nat->Nat->Int)(n m:Nat)(u v w ls fr:Nat->Int)(Q:It):Prop where
 hf:HF C n m u v
 ht:HT C m u v w
 nd:Q.Nodup
 qm:∀j∈Q,j<=m
 qp:∀j∈Q,1<=w j
 ch:Ch (Fr C u v w fr) Q
 l1:∀j,1<=j->j<=m->j∉Q->∀b∈Q,∀r:Nat,w b=(r:Int)->ls j<=C r j-u r-v j
 l2:∀j,1<=j->j<=m->j∉Q->∃b∈Q,fr j=(b:Int)/\∃r:Nat,1<=r/\w b=(r:Int)/\ls j=C r j-u r-v j
theorem HG.scan{C:Nat->Nat->Int}{n m:Nat}{u v w ls fr ls' fr':Nat->Int}{Q:It}{j0:Nat}(h:HG C n m u v w ls fr Q j0){i0:Nat}(hi:1<=i0)(hw:w j0=(i0:Int))
  (hfar:Q=[]->∀j,1<=j->j<=m->C i0 j-u i0-v j<ls j)
  (hused:∀j,j<=m->j∈j0::Q->fr' j=fr j)
  (hnew:∀j,1<=j->j<=m->j∉j0::Q->(C i0 j-u i0-v j<ls j/\ls' j=C i0 j-u i0-v j/\fr' j=(j0:Int))\/(¬C i0 j-u i0-v j<ls j/\ls' j=ls j/\fr' j=fr j)):
  HS C n m u v w ls' fr' (j0::Q):=by
 refine⟨h.hf,h.ht,h.nd,λj hj=>?_,λj hj=>?_,?_,λj a b hj x hx r hr=>?_,λj a b hj=>?_⟩
 ·rcases AAi.1 hj with rfl|hj
  ·exact h.ub
  ·exact h.qm j hj
 ·rcases AAi.1 hj with rfl|hj
  ·omega
  ·exact h.qp j hj
 ·refine h.ch.mono λa x ha hx hP=>⟨?_,hP.2⟩;rw[hused a ?_ ha]
  ·exact hP.1
  ·rcases AAi.1 ha with rfl|ha
   ·exact h.ub
   ·exact h.qm a ha
 ·have hjQ:j∉Q:=λe=>hj (AAQ _ e);rcases hnew j a b hj with⟨h1,h2,h3⟩|⟨h1,h2,h3⟩
  ·rcases AAi.1 hx with rfl|hx
   ·grind
   ·have:=h.l1 j a b hjQ x hx r hr;omega
  ·rcases AAi.1 hx with rfl|hx
   ·grind
   ·rw[h2];exact h.l1 j a b hjQ x hx r hr
 ·have hjQ:j∉Q:=λe=>hj (AAQ _ e);rcases hnew j a b hj with⟨h1,h2,h3⟩|⟨h1,h2,h3⟩
  ·grind
  ·rcases h.l2 with e|e
   all_goals grind
theorem HS.step{C:Nat->Nat->Int}{n m i:Nat}{u v w ls fr u' v' ls':Nat->Int}{Q:It}(h:HS C n m u v w ls fr Q)(hm:HM m i w)(hw0:w 0=(i:Int))(zg:i<=n){d:Int}{j1:Nat}
  (a1:1<=j1) (a2:j1<=m) (a3:j1∉Q) (hd:ls j1=d) (hmin:∀j,1<=j->j<=m->j∉Q->d<=ls j)
  (hu1:∀r:Nat,1<=r->r<=n->(∃b∈Q,w b=(r:Int))->u' r=u r+d)
  (hu2:∀r:Nat,1<=r->r<=n->¬(∃b∈Q,w b=(r:Int))->u' r=u r)
  (hv1:∀j,1<=j->j<=m->j∈Q->v' j=v j-d) (hv2:∀j,1<=j->j<=m->j∉Q->v' j=v j)
  (hl:∀j,1<=j->j<=m->j∉Q->ls' j=ls j-d):0<=d/\HG C n m u' v' w ls' fr Q j1:=by
 have rn:∀b∈Q,∀r:Nat,w b=(r:Int)->1<=r/\r<=n:=λb hb r hr=>by
  have h1:=h.qp b hb;refine⟨J,?_⟩;by_cases hb0:b=0
  ·grind
  ·have:=hm.gO b J (h.qm b hb);omega
 have hd0:0<=d:=by obtain⟨b,hb,_,r,p2,p3,p4⟩:=h.l2 j1 a1 a2 a3;obtain⟨r1,r2⟩:=rn b hb r p3;have:=h.hf.nu r j1 r1 r2 a1 a2;omega
 have inQ:∀j (r:Nat),1<=j->j<=m->j∉Q->1<=r->w j=(r:Int)->¬ ∃b∈Q,w b=(r:Int):=λj r c1 c2 c3 c4 c5=>by
  rintro ⟨b,hb,e⟩
  by_cases hb0:b=0
  ·subst hb0;have:=hm.gO j c1 c2;omega
  ·have:=hm.inj j b c1 c2 J (h.qm b hb) J J;grind
 have tq:∀a x,a∈Q->1<=a->x∈Q->Fr C u v w fr a x->Fr C u' v' w fr a x:=λa x ha ha1 hx hP=>by obtain⟨p1,r,p2,p3,p4⟩:=hP;obtain⟨r1,r2⟩:=rn x hx r p3;refine⟨p1,r,p2,p3,?_⟩;rw[hu1 r r1 r2 ⟨x,hx,p3⟩,hv1 a ha1 (h.qm a ha) ha];omega
 refine⟨hd0,⟨λr j r1 r2 j1 j2=>?_,λj c1 c2=>?_,λr c1 c2=>?_⟩,⟨λj r c1 c2 c3 c4=>?_,λj c1 c2 c3=>?_⟩,a2,AAf.2 ⟨a3,h.nd⟩,h.qm,h.qp,?_,λj c1 c2 hj b hb r hr=>?_,.inr λj c1 c2 hj=>?_⟩
 ·have hf:=h.hf.nu r j r1 r2 j1 j2;by_cases hr:∃b∈Q,w b=(r:Int)
  ·rw[hu1 r r1 r2 hr];by_cases hj:j∈Q
   ·grind
   ·obtain⟨b,hb,e⟩:=hr;have:=h.l1 j j1 j2 hj b hb r e;grind
  ·rw[hu2 r r1 r2 hr];by_cases hj:j∈Q
   all_goals grind
 ·have:=h.hf.rL j c1 c2;by_cases hj:j∈Q
  all_goals grind
 ·have:=h.hf.uX r c1 c2;by_cases hr:∃b∈Q,w b=(r:Int)
  ·grind
  ·rw[hu2 r c1 c2 hr];omega
 ·have ht:=h.ht.tight j r c1 c2 c3 c4;have:=hm.gO j c1 c2;have hrn:r<=n:=J
  by_cases hj:j∈Q
  ·grind
  ·rw[hv2 j c1 c2 hj,hu2 r c3 hrn (inQ j r c1 c2 hj c3 c4)];omega
 ·have hj:j∉Q:=λhj=>No
  rw[hv2 j c1 c2 hj,h.ht.free j c1 c2 c3]
 ·refine .inr ⟨a1,?_,?_⟩
  ·obtain⟨b,hb,p1,r,p2,p3,p4⟩:=h.l2 j1 a1 a2 a3;obtain⟨r1,r2⟩:=rn b hb r p3;refine⟨b,hb,p1,r,p2,p3,?_⟩;grind
  ·have key:∀(l:It),(∀a∈l,a∈Q)->Ch (Fr C u v w fr) l->Ch (Fr C u' v' w fr) l:=by
    intro l
    induction l with
    |nil=>intro _ _;trivial
    |cons a l ih=>
     intro hs hc;rcases hc with hc|⟨h1,⟨x,hx,hP⟩,h3⟩
     ·exact .inl hc
     ·exact .inr ⟨h1,⟨x,hx,tq a x (hs a AAo) h1 (hs x (AAQ _ hx)) hP⟩,ih (λb hb=>hs b (AAQ _ hb)) h3⟩
   exact key Q (λa ha=>ha) h.ch
 ·obtain⟨r1,r2⟩:=rn b hb r hr;have:=h.l1 j c1 c2 hj b hb r hr;rw[hl j c1 c2 hj,hu1 r r1 r2 ⟨b,hb,hr⟩,hv2 j c1 c2 hj];omega
 ·obtain⟨b,hb,p1,r,p2,p3,p4⟩:=h.l2 j c1 c2 hj;obtain⟨r1,r2⟩:=rn b hb r p3;refine⟨b,hb,p1,r,p2,p3,?_⟩;grind
structure HA(C:Nat->Nat->Int)(m i:Nat)(u v fr w:Nat->Int)(j0:Nat)(Q:It):Prop where
 nd:(j0::Q).Nodup
 lm:∀j∈j0::Q,j<=m
 ch:Ch (Fr C u v w fr) (j0::Q)
 inj:∀j k,j<=m->k<=m->j≠j0->k≠j0->w j=w k->0<w j->j=k
 rR:∀r:Nat,1<=r->r<=i->∃j,j<=m/\j≠j0/\w j=(r:Int)
 gO:∀j,j<=m->j≠j0->0<=w j/\w j<=(i:Int)
 tight:∀j (r:Nat),1<=j->j<=m->j≠j0->1<=r->w j=(r:Int)->u r+v j=C r j
 free:∀j,1<=j->j<=m->j≠j0->w j=0->v j=0
theorem HG.xh{C:Nat->Nat->Int}{n m i:Nat}{u v w ls fr:Nat->Int}{Q:It}{j0:Nat}(h:HG C n m u v w ls fr Q j0)(hm:HM m i w)(hw0:w 0=(i:Int))(h1:1<=i)(hj:w j0=0):HA C m i u v fr w j0 Q:=by
 have hj0:j0≠0:=λe=>No
 refine⟨h.nd,λj hj=>?_,h.ch,λj k a b c d e f=>?_,λr a b=>?_,λj a b=>?_,λj r a b _ c d=>h.ht.tight j r a b c d,λj a b _ c=>h.ht.free j a b c⟩
 ·rcases AAi.1 hj with rfl|hj
  ·exact h.ub
  ·exact h.qm j hj
 ·by_cases j00:j=0
  ·by_cases k00:k=0
   ·rw[j00,k00]
   ·subst j00;have:=hm.gO k J b;omega
  ·by_cases k00:k=0
   ·subst k00;have:=hm.gO j J a;omega
   ·exact hm.inj j k J a J b e f
 ·by_cases hr:r=i
  ·grind
  ·obtain⟨j,a1,a2,a3⟩:=hm.rR r a J;grind
 ·by_cases j00:j=0
  ·grind
  ·have:=hm.gO j J a;omega
theorem HA.next{C:Nat->Nat->Int}{m i:Nat}{u v fr w:Nat->Int}{j0:Nat}{Q:It}(h:HA C m i u v fr w j0 Q)(hj:1<=j0):∃x Q',fr j0=((x:Nat):Int)/\x<=m/\Q'.length<Q.length/\x≠j0/\
  ∀w':Nat->Int,(w' j0=w x)->(∀j,j<=m->j≠j0->w' j=w j)->HA C m i u v fr w' x Q':=by
 rcases h.ch with⟨h0,_⟩|⟨_,⟨x,hx,hP⟩,hc⟩
 ·omega
 obtain⟨p1,r,p2,p3,p4⟩:=hP;obtain⟨pre,Q',hQ⟩:=List.append_of_mem hx;obtain⟨n1,n2⟩:=AAf.1 h.nd;have hxj:x≠j0:=λe=>n1 (e▸hx);have hxm:x<=m:=h.lm x (AAQ _ hx);have sub:∀j∈x::Q',j∈Q:=λj hj=>No
 refine⟨x,Q',p1,hxm,No,hxj,λw' e1 e2=>⟨?_,λj hj=>h.lm j (AAQ _ (sub j hj)),?_,λj k a b c d e f=>?_,λs a b=>?_,λj a b=>?_,λj s a b c d e=>?_,λj a b c d=>?_⟩⟩
 ·grind
 ·have hc2:Ch (Fr C u v w fr) (x::Q'):=by rw[hQ]at hc;exact Ch.drop hc
  refine hc2.mono λa y ha hy hP=>?_;obtain⟨q1,s,q2,q3,q4⟩:=hP;have hyj:y≠j0:=λe=>n1 (e▸sub y hy);exact⟨q1,s,q2,by rw[e2 y (h.lm y (AAQ _ (sub y hy))) hyj,q3],q4⟩
 ·by_cases hj0:j=j0
  ·by_cases hk0:k=j0
   ·rw[hj0,hk0]
   ·rw[hj0,e1,e2 k b hk0]at e;rw[hj0,e1]at f;exact absurd (h.inj x k hxm b hxj hk0 e f).symm d
  ·by_cases hk0:k=j0
   ·rw[hk0,e1,e2 j a hj0]at e;rw[e2 j a hj0]at f;exact absurd (h.inj j x a hxm hj0 hxj e f) c
   ·rw[e2 j a hj0,e2 k b hk0]at e;rw[e2 j a hj0]at f;exact h.inj j k a b hj0 hk0 e f
 ·obtain⟨j,a1,a2,a3⟩:=h.rR s a b;by_cases hjx:j=x
  ·exact⟨j0,h.lm j0 AAo,λe=>hxj e.symm,by rw[e1,<-hjx,a3]⟩
  grind
 ·by_cases hj0:j=j0
  ·rw[hj0,e1];exact h.gO x hxm hxj
  ·rw[e2 j a hj0];exact h.gO j a hj0
 ·by_cases hj0:j=j0
  ·grind
  ·rw[e2 j b hj0]at e;exact h.tight j s a b hj0 d e
 ·by_cases hj0:j=j0
  ·grind
  ·rw[e2 j b hj0]at d;exact h.free j a b hj0 d
theorem HA.done{C:Nat->Nat->Int}{m i:Nat}{u v fr w:Nat->Int}{Q:It}(h:HA C m i u v fr w 0 Q):HM m (i+1) w/\HT C m u v w:=
 ⟨⟨λj a b=>by have:=h.gO j b J;omega,λj k a b c d e f=>h.inj j k b d J J e f,λr a b=>by
   obtain⟨j,a1,a2,a3⟩:=h.rR r a J;grind⟩,⟨λj r a b c d=>h.tight j r a b J c d,λj a b c=>h.free j a b J c⟩⟩
def ga(l:By)(i:Nat):Int:=l.getD i 0
theorem TA{l:By}{i:Nat}(h:i<l.length):l[i]?=some (ga l i):=by unfold ga;grind
theorem U3{l:By}{i:Nat}(h:i<l.length)(x:Int)(j:Nat):ga (l.set i x) j=if j=i then x else ga l j:=by unfold ga;grind
theorem Yi(m:Nat)(x:Int)(j:Nat)(h:j<m):ga (List.replicate m x) j=x:=by unfold ga;grind
structure CM(a0:List By)(m:Nat):Prop where
 row:∀r∈a0,r.length=m
 nm:a0.length<=m
 m10:m<=10
 Mc:∀r∈a0,∀x∈r,0<=x/\x<=100000
def cC(a0:List By)(r j:Nat):Int:=ga (a0.getD (r-1) []) (j-1)
theorem CM.at{a0:List By}{m:Nat}(h:CM a0 m){r j:Nat}(r1:1<=r)(r2:r<=a0.length)(j1:1<=j)(j2:j<=m):
  ∃l,Iv a0 (O5 ((r:Int)-1))=some l/\Iv l (O5 ((j:Int)-1))=some (cC a0 r j)/\0<=cC a0 r j/\cC a0 r j<=100000:=by
 have hm:=h.m10;have hn:=h.nm;have hr:r-1<a0.length:=J
 have e1:O5 ((r:Int)-1)=((r-1:Nat):Int):=by rw[PA J J];omega
 have e2:O5 ((j:Int)-1)=((j-1:Nat):Int):=by rw[PA J J];omega
 have hl:=h.row _ (ABR hr);have hj:j-1<a0[r-1].length:=J
 have e3:cC a0 r j=a0[r-1][j-1]:=by unfold cC ga;rw[List.getD,List.getD,AAM hr,ABA,AAM hj];rfl
 refine⟨a0[r-1],by rw[e1,O3 hr],by rw[e2,O3 hj,e3],?_⟩;rw[e3];exact h.Mc _ (ABR hr) _ (ABR hj)
theorem HM.congr{m i:Nat}{w w':Nat->Int}(h:HM m i w)(e:∀j,1<=j->j<=m->w' j=w j):HM m i w':=
 ⟨λj a b=>by rw[e j a b];exact h.gO j a b,λj k a b c d=>by rw[e j a b,e k c d];exact h.inj j k a b c d,λr a b=>by
  obtain⟨j,p,q,s⟩:=h.rR r a b;grind⟩
theorem HT.congr{C:Nat->Nat->Int}{m:Nat}{u v w w':Nat->Int}(h:HT C m u v w)(e:∀j,1<=j->j<=m->w' j=w j):HT C m u v w':=
 ⟨λj r a b c d=>h.tight j r a b c No,λj a b c=>h.free j a b No⟩
theorem lA(m:Nat)(hm:m<=10)(n:Nat)(hn:PE<=n):iter n (TV (m:Int)) (0,List.replicate (m+1) 0)=some (((m+1:Nat):Int),List.replicate (m+1) 1099511627776):=by
 have:=Pa (TV (m:Int)) (λi=>((i:Int),List.replicate i 1099511627776++List.replicate (m+1-i) 0)) (m+1) (((m+1:Nat):Int),List.replicate (m+1) 1099511627776) (λi hi=>by
  have hd:decide ((i:Int)<=(m:Int))=true:=by rw[AAj];omega
  have hl:i<(List.replicate i (1099511627776:Int)++List.replicate (m+1-i) 0).length:=ADY
  simp only[TV,hd,ABQ,O6 hl,ABT,Pz,O1 hi J];congr 3;rw[ACE _ _ AAA,List.length_replicate,ACR,show m+1-i=(m+1-(i+1))+1 by omega,List.replicate_succ,ACS,ACO (n:=i)];simp) (by
  have hd:decide (((m+1:Nat):Int)<=(m:Int))=false:=by rw[AAr];omega
  simp only[TV,hd,ABS];simp) n ADU
 grind
theorem jn{a0:List By}{m i:Nat}(hc:CM a0 m){u v ls fr w:By}{us:ADh}{Q:It}{j0 i0:Nat}(hj0:j0<=m)
  (lu:u.length=a0.length+1) (lv:v.length=m+1) (ll:ls.length=m+1) (lf:fr.length=m+1)
  (hus:∀k,k<=m->(us.set j0 true)[k]?=some (decide (k∈j0::Q))) (hlu:us.length=m+1)
  (hi1:1<=i0) (hi2:i0<=a0.length) (hub:0<=ga u i0/\ga u i0<=100000) (hvb:∀j,1<=j->j<=m -> -100000<=ga v j/\ga v j<=0)
  (n:Nat) (hn:PE<=n):
  ∃(d:Int) (j1:Nat) (ls' fr':By),iter n (QW a0 (m:Int) ((j0:Int),u,v,ls,fr,us) (i0:Int)) (1099511627776,0,1,ls,fr)=some (d,(j1:Int),((m+1:Nat):Int),ls',fr')/\
   ls'.length=m+1/\fr'.length=m+1/\(∀k,k<=m->k∈j0::Q->ga fr' k=ga fr k)/\
   (∀k,1<=k->k<=m->k∉j0::Q->(cC a0 i0 k-ga u i0-ga v k<ga ls k/\ga ls' k=cC a0 i0 k-ga u i0-ga v k/\ga fr' k=(j0:Int))\/(¬cC a0 i0 k-ga u i0-ga v k<ga ls k/\ga ls' k=ga ls k/\ga fr' k=ga fr k))/\
   (∀k,1<=k->k<=m->k∉j0::Q->d<=ga ls' k)/\((∀k,1<=k->k<=m->k∈j0::Q)\/(1<=j1/\j1<=m/\j1∉j0::Q/\ga ls' j1=d)):=by
 have hm:=hc.m10
 obtain⟨z,⟨d,j1,ls',fr',e,h1⟩,h2⟩:=Ya (f:=QW a0 (m:Int) ((j0:Int),u,v,ls,fr,us) (i0:Int))
  (λx=>∃(d:Int) (j1 j:Nat) (ls' fr':By),x=(d,(j1:Int),(j:Int),ls',fr')/\1<=j/\j<=m+1/\ls'.length=m+1/\fr'.length=m+1/\
   (∀k,j<=k->k<=m->ga ls' k=ga ls k/\ga fr' k=ga fr k)/\(∀k,k<=m->k∈j0::Q->ga fr' k=ga fr k)/\
   (∀k,1<=k->k<j->k∉j0::Q->(cC a0 i0 k-ga u i0-ga v k<ga ls k/\ga ls' k=cC a0 i0 k-ga u i0-ga v k/\ga fr' k=(j0:Int))\/(¬cC a0 i0 k-ga u i0-ga v k<ga ls k/\ga ls' k=ga ls k/\ga fr' k=ga fr k))/\
   (∀k,1<=k->k<j->k∉j0::Q->d<=ga ls' k)/\((d=1099511627776/\∀k,1<=k->k<j->k∈j0::Q)\/(1<=j1/\j1<j/\j1∉j0::Q/\ga ls' j1=d)))
  (λz=>∃(d:Int) (j1:Nat) (ls' fr':By),z=(d,(j1:Int),((m+1:Nat):Int),ls',fr')/\ls'.length=m+1/\fr'.length=m+1/\(∀k,k<=m->k∈j0::Q->ga fr' k=ga fr k)/\
   (∀k,1<=k->k<=m->k∉j0::Q->(cC a0 i0 k-ga u i0-ga v k<ga ls k/\ga ls' k=cC a0 i0 k-ga u i0-ga v k/\ga fr' k=(j0:Int))\/(¬cC a0 i0 k-ga u i0-ga v k<ga ls k/\ga ls' k=ga ls k/\ga fr' k=ga fr k))/\
   (∀k,1<=k->k<=m->k∉j0::Q->d<=ga ls' k)/\((∀k,1<=k->k<=m->k∈j0::Q)\/(1<=j1/\j1<=m/\j1∉j0::Q/\ga ls' j1=d)))
  (λx=>m+1-x.2.2.1.toNat) (λx hx=>by
   obtain⟨d,j1,j,ls',fr',rfl,b1,b2,l1,l2,g1,g2,g3,g4,g5⟩:=hx;by_cases hj:j=m+1
   ·left;have hd:decide ((j:Int)<=(m:Int))=false:=by rw[AAr];omega
    refine⟨(d,(j1:Int),(j:Int),ls',fr'),by simp only[QW,hd,ABS],d,j1,ls',fr',by rw[hj],l1,l2,g2,λk a b c=>g3 k a J c,λk a b c=>g4 k a J c,?_⟩;rcases g5 with⟨_,g5⟩|⟨p1,p2,p3,p4⟩
    ·exact .inl λk a b=>g5 k a J
    ·exact .inr ⟨p1,J,p3,p4⟩
   ·right;have hjm:j<=m:=J
    have hd:decide ((j:Int)<=(m:Int))=true:=by rw[AAj];omega
    have hu1:=hus j hjm;have hul:j<(us.set j0 true).length:=ADY
    have hw:O5 ((j:Int)+1)=((j+1:Nat):Int):=O1 (show j<m+1 by omega) J;have hmu:m+1-((j+1:Nat):Int).toNat<m+1-((j:Nat):Int).toNat:=J
    by_cases hQ:j∈j0::Q
    ·rw[ABV hQ]at hu1;refine⟨(d,(j1:Int),((j+1:Nat):Int),ls',fr'),?_,⟨d,j1,j+1,ls',fr',rfl,J,J,l1,l2,λk a b=>g1 k J b,g2,λk a b c=>g3 k a ?_ c,λk a b c=>g4 k a ?_ c,?_⟩,hmu⟩
     ·simp only[QW,hd,ABQ,ABT,Pz,O6 hul,hu1,ABP,hw]
     ·by_cases e:k=j
      ·exact absurd (e▸hQ) c
      ·omega
     ·by_cases e:k=j
      ·exact absurd (e▸hQ) c
      ·omega
     ·rcases g5 with⟨p1,p2⟩|⟨p1,p2,p3,p4⟩
      ·refine .inl ⟨p1,λk a b=>?_⟩;by_cases e:k=j
       ·rw[e];exact hQ
       ·exact p2 k a J
      ·exact .inr ⟨p1,J,p3,p4⟩
    ·rw[ABZ hQ]at hu1;obtain⟨l,c1,c2,c3,c4⟩:=hc.at hi1 hi2 b1 hjm;have hvj:=hvb j b1 hjm
     have hcur:O5 (O5 (cC a0 i0 j-ga u i0)-ga v j)=cC a0 i0 j-ga u i0-ga v j:=by rw[PA (n:=cC a0 i0 j-ga u i0) J J];exact PA J J
     have i1:ON u (i0:Int)=true:=O6 J;have i2:ON v (j:Int)=true:=O6 J;have i3:ON ls' (j:Int)=true:=O6 J;have i4:ON fr' (j:Int)=true:=O6 J;have e1:=TA (l:=u) (i:=i0) J;have e2:=TA (l:=v) (i:=j) J;have e3:=TA (l:=ls') (i:=j) J;obtain⟨g1a,g1b⟩:=g1 j (AAh _) hjm;generalize hcv:cC a0 i0 j-ga u i0-ga v j=cur at hcur;have hcb:cur<=200000:=J
     have key:∀(ls2 fr2:By),ls2.length=m+1->fr2.length=m+1->(∀k,k≠j->ga ls2 k=ga ls' k/\ga fr2 k=ga fr' k)->
       ((cur<ga ls j/\ga ls2 j=cur/\ga fr2 j=(j0:Int))\/(¬cur<ga ls j/\ga ls2 j=ga ls j/\ga fr2 j=ga fr j))->(∀d2 j2,(ga ls2 j<d/\d2=ga ls2 j/\j2=j\/¬ga ls2 j<d/\d2=d/\j2=j1)->
       ∃(d':Int) (j1' j':Nat) (ls' fr':By),(d2,((j2:Nat):Int),((j+1:Nat):Int),ls2,fr2)=(d',(j1':Int),(j':Int),ls',fr')/\1<=j'/\j'<=m+1/\ls'.length=m+1/\fr'.length=m+1/\
   (∀k,j'<=k->k<=m->ga ls' k=ga ls k/\ga fr' k=ga fr k)/\(∀k,k<=m->k∈j0::Q->ga fr' k=ga fr k)/\
   (∀k,1<=k->k<j'->k∉j0::Q->(cC a0 i0 k-ga u i0-ga v k<ga ls k/\ga ls' k=cC a0 i0 k-ga u i0-ga v k/\ga fr' k=(j0:Int))\/(¬cC a0 i0 k-ga u i0-ga v k<ga ls k/\ga ls' k=ga ls k/\ga fr' k=ga fr k))/\
   (∀k,1<=k->k<j'->k∉j0::Q->d'<=ga ls' k)/\((d'=1099511627776/\∀k,1<=k->k<j'->k∈j0::Q)\/(1<=j1'/\j1'<j'/\j1'∉j0::Q/\ga ls' j1'=d'))):=by
      intro ls2 fr2 q1 q2 q3 q4 d2 j2 q5;refine⟨d2,j2,j+1,ls2,fr2,rfl,J,J,q1,q2,λk a b=>?_,λk a b=>?_,λk a b c=>?_,λk a b c=>?_,?_⟩
      ·rw[(q3 k J).1,(q3 k J).2];exact g1 k J b
      ·have zp:k≠j:=λe=>hQ (e▸b);rw[(q3 k zp).2];exact g2 k a b
      ·by_cases e:k=j
       ·subst e;rw[hcv];exact q4
       ·rw[(q3 k e).1,(q3 k e).2];exact g3 k a J c
      ·by_cases e:k=j
       ·subst e;rcases q5 with⟨p1,p2,p3⟩|⟨p1,p2,p3⟩<;>omega
       ·rw[(q3 k e).1];have:=g4 k a J c;rcases q5 with⟨p1,p2,p3⟩|⟨p1,p2,p3⟩<;>omega
      ·have zj:ga ls2 j<=200000:=by rcases q4 with⟨p1,p2,_⟩|⟨p1,p2,_⟩<;>omega
       rcases q5 with⟨p1,p2,p3⟩|⟨p1,p2,p3⟩
       ·exact .inr ⟨J,J,by rw[p3];exact hQ,by rw[p3,p2]⟩
       ·rcases g5 with⟨r1,r2⟩|⟨r1,r2,r3,r4⟩
        ·omega
        ·exact .inr ⟨J,J,by rw[p3];exact r3,by rw[p3,p2,(q3 j1 J).1,r4]⟩
     by_cases hcl:cur<ga ls j
     ·have hcl':decide (cur<ga ls' j)=true:=by rw[AAj,g1a];exact hcl
      have il:ON (ls'.set j cur) (j:Int)=true:=O6 ADY;have el:(ls'.set j cur)[j]?=some cur:=by rw[List.getElem?_set_self J]
      have kk:=key (ls'.set j cur) (fr'.set j (j0:Int)) (by simp[l1]) (by simp[l2]) (λk hk=>⟨by rw[U3 J,AAT hk],by rw[U3 J,AAT hk]⟩) (.inl ⟨hcl,by rw[U3 J,AAS rfl],by rw[U3 J,AAS rfl]⟩);rw[U3 J,AAS rfl]at kk;by_cases hdl:cur<d
      ·refine⟨(cur,(j:Int),((j+1:Nat):Int),ls'.set j cur,fr'.set j (j0:Int)),?_,kk cur j (.inl ⟨hdl,rfl,rfl⟩),hmu⟩;simp only[QW,hd,ABQ,ABT,Pz,O6 hul,hu1,ABP,hw,ABS,c1,c2,i1,i2,i3,i4,e1,e2,e3,hcur,hcl',il,el,ABV hdl]
      ·refine⟨(d,(j1:Int),((j+1:Nat):Int),ls'.set j cur,fr'.set j (j0:Int)),?_,kk d j1 (.inr ⟨hdl,rfl,rfl⟩),hmu⟩;simp only[QW,hd,ABQ,ABT,Pz,O6 hul,hu1,ABP,hw,ABS,c1,c2,i1,i2,i3,i4,e1,e2,e3,hcur,hcl',il,el,ABZ hdl]
     ·have hcl':decide (cur<ga ls' j)=false:=by rw[AAr,g1a];exact hcl
      have kk:=key ls' fr' l1 l2 (λk hk=>⟨rfl,rfl⟩) (.inr ⟨hcl,g1a,g1b⟩);by_cases hdl:ga ls' j<d
      ·refine⟨(ga ls' j,(j:Int),((j+1:Nat):Int),ls',fr'),?_,kk (ga ls' j) j (.inl ⟨hdl,rfl,rfl⟩),hmu⟩;simp only[QW,hd,ABQ,ABT,Pz,O6 hul,hu1,ABP,hw,ABS,c1,c2,i1,i2,i3,i4,e1,e2,e3,hcur,hcl',ABV hdl]
      ·refine⟨(d,(j1:Int),((j+1:Nat):Int),ls',fr'),?_,kk d j1 (.inr ⟨hdl,rfl,rfl⟩),hmu⟩;simp only[QW,hd,ABQ,ABT,Pz,O6 hul,hu1,ABP,hw,ABS,c1,c2,i1,i2,i3,i4,e1,e2,e3,hcur,hcl',ABZ hdl])
  n (1099511627776,0,1,ls,fr) ⟨1099511627776,0,1,ls,fr,rfl,AAh _,J,ll,lf,λk _ _=>⟨rfl,rfl⟩,λk _ _=>rfl,λk a b=>J,λk a b=>J,.inl ⟨rfl,λk a b=>J⟩⟩ (by show m+1-(1:Int).toNat<n;unfold PE at hn;omega)
 grind
theorem lC{N m i:Nat}{u v ls w:By}{us:ADh}{Q:It}{j0:Nat}(hm:m<=10)(fr0:By)(x16:Int×Int×Int×By×By)
  (lu:u.length=N+1) (lv:v.length=m+1) (ll:ls.length=m+1) (lw:w.length=m+1)
  (hus:∀k,k<=m->(us.set j0 true)[k]?=some (decide (k∈j0::Q))) (hlu:us.length=m+1)
  (hw:∀k,k<=m->k∈j0::Q->1<=ga w k/\ga w k<=N) (hinj:∀k b,k<=m->b<=m->k∈j0::Q->b∈j0::Q->ga w k=ga w b->k=b)
  (hd:0<=x16.1/\x16.1<=200000) (hub:∀r,1<=r->r<=N->0<=ga u r/\ga u r<=100000) (hvb:∀j,1<=j->j<=m -> -100000<=ga v j/\ga v j<=0)
  (hlb:∀k,1<=k->k<=m->k∉j0::Q->0<=ga ls k/\ga ls k<=200000) (ls0:By) (h0:0∈j0::Q)
  (n:Nat) (hn:PE<=n):
  ∃(u' v' ls':By),iter n (SG w (m:Int) ((j0:Int),u,v,ls0,fr0,us) x16) (0,u,v,ls)=some (((m+1:Nat):Int),u',v',ls')/\
   u'.length=N+1/\v'.length=m+1/\ls'.length=m+1/\
   (∀r:Nat,1<=r->r<=N->(∃b∈j0::Q,b<=m/\ga w b=(r:Int))->ga u' r=ga u r+x16.1)/\
   (∀r:Nat,1<=r->r<=N->¬(∃b∈j0::Q,b<=m/\ga w b=(r:Int))->ga u' r=ga u r)/\
   (∀j,1<=j->j<=m->j∈j0::Q->ga v' j=ga v j-x16.1)/\(∀j,1<=j->j<=m->j∉j0::Q->ga v' j=ga v j)/\
   (∀j,1<=j->j<=m->j∉j0::Q->ga ls' j=ga ls j-x16.1):=by
 obtain⟨z,⟨j,u',v',ls',e,hje,h1⟩,h2⟩:=Ya (f:=SG w (m:Int) ((j0:Int),u,v,ls0,fr0,us) x16)
  (λx=>∃(j:Nat) (u' v' ls':By),x=((j:Int),u',v',ls')/\j<=m+1/\u'.length=N+1/\v'.length=m+1/\ls'.length=m+1/\
   (∀r:Nat,1<=r->r<=N->(∃b∈j0::Q,b<j/\ga w b=(r:Int))->ga u' r=ga u r+x16.1)/\
   (∀r:Nat,1<=r->r<=N->¬(∃b∈j0::Q,b<j/\ga w b=(r:Int))->ga u' r=ga u r)/\
   (∀k,1<=k->k<=m->k∈j0::Q->ga v' k=if k<j then ga v k-x16.1 else ga v k)/\(∀k,1<=k->k<=m->k∉j0::Q->ga v' k=ga v k)/\
   (∀k,1<=k->k<=m->k∉j0::Q->ga ls' k=if k<j then ga ls k-x16.1 else ga ls k))
  (λx=>∃(j:Nat) (u' v' ls':By),x=((j:Int),u',v',ls')/\j=m+1/\u'.length=N+1/\v'.length=m+1/\ls'.length=m+1/\
   (∀r:Nat,1<=r->r<=N->(∃b∈j0::Q,b<j/\ga w b=(r:Int))->ga u' r=ga u r+x16.1)/\
   (∀r:Nat,1<=r->r<=N->¬(∃b∈j0::Q,b<j/\ga w b=(r:Int))->ga u' r=ga u r)/\
   (∀k,1<=k->k<=m->k∈j0::Q->ga v' k=if k<j then ga v k-x16.1 else ga v k)/\(∀k,1<=k->k<=m->k∉j0::Q->ga v' k=ga v k)/\
   (∀k,1<=k->k<=m->k∉j0::Q->ga ls' k=if k<j then ga ls k-x16.1 else ga ls k))
  (λx=>m+1-x.1.toNat) (λx hx=>by
   obtain⟨j,u',v',ls',rfl,b,l1,l2,l3,g1,g2,g3,g4,g5⟩:=hx;by_cases hj:j=m+1
   ·left;have hdd:decide ((j:Int)<=(m:Int))=false:=by rw[AAr];omega
    exact⟨((j:Int),u',v',ls'),by simp only[SG,hdd,ABS],j,u',v',ls',rfl,hj,l1,l2,l3,g1,g2,g3,g4,g5⟩
   ·right;have hjm:j<=m:=J
    have hdd:decide ((j:Int)<=(m:Int))=true:=by rw[AAj];omega
    have hu1:=hus j hjm;have hul:j<(us.set j0 true).length:=ADY
    have hw1:O5 ((j:Int)+1)=((j+1:Nat):Int):=O1 (show j<m+1 by omega) J;have hmu:m+1-((j+1:Nat):Int).toNat<m+1-((j:Nat):Int).toNat:=J
    by_cases hQ:j∈j0::Q
    ·rw[ABV hQ]at hu1;obtain⟨w1,w2⟩:=hw j hjm hQ;obtain⟨r,hr⟩:∃r:Nat,ga w j=(r:Int):=⟨(ga w j).toNat,J⟩;have i1:ON w (j:Int)=true:=O6 J;have i2:ON u' (r:Int)=true:=O6 J;have i3:ON v' (j:Int)=true:=O6 J;have e1:=TA (l:=w) (i:=j) J;rw[hr]at e1;have e2:=TA (l:=u') (i:=r) J;have e3:=TA (l:=v') (i:=j) J
     have hnb:¬ ∃b∈j0::Q,b<j/\ga w b=(r:Int):=by
      rintro ⟨b,hb,zj,e⟩
      have:=hinj b j J hjm hb hQ J;omega
     have zq:=g2 r J J hnb;have hub':=hub r J J;refine⟨(((j+1:Nat):Int),u'.set r (O5 (ga u' r+x16.1)),v'.set j (O5 (ga v' j-x16.1)),ls'),?_,⟨j+1,u'.set r (O5 (ga u' r+x16.1)),v'.set j (O5 (ga v' j-x16.1)),ls',rfl,J,by simp[l1],by simp[l2],l3,λs s1 s2 hs=>?_,λs s1 s2 hs=>?_,λk k1 k2 hk=>?_,λk k1 k2 hk=>?_,λk k1 k2 hk=>?_⟩,hmu⟩
     ·simp only[SG,hdd,ABQ,ABT,Pz,O6 hul,hu1,ABP,hw1,i1,i2,i3,e1,e2,e3]
     ·rw[U3 J];by_cases e:s=r
      ·rw[AAS e,e,PA J J];omega
      ·rw[AAT e];obtain⟨b,hb,zj,eb⟩:=hs;have hbj:b≠j:=λe2=>by rw[e2,hr]at eb;omega
       exact g1 s s1 s2 ⟨b,hb,J,eb⟩
     ·have e:s≠r:=λe=>hs ⟨j,hQ,J,by rw[hr,e]⟩;rw[U3 J,AAT e];exact g2 s s1 s2 λ⟨b,hb,zj,eb⟩=>hs ⟨b,hb,J,eb⟩
     ·rw[U3 J];by_cases e:k=j
      ·have h3:=g3 k k1 k2 hk;rw[AAT J]at h3;have:=hvb k k1 k2;rw[AAS e,AAS J,<-e,h3,PA J J]
      ·rw[AAT e,g3 k k1 k2 hk];by_cases e2:k<j
       ·rw[AAS e2,AAS J]
       ·rw[AAT e2,AAT J]
     ·have e:k≠j:=λe=>hk (e▸hQ);rw[U3 J,AAT e];exact g4 k k1 k2 hk
     ·have e:k≠j:=λe=>hk (e▸hQ);rw[g5 k k1 k2 hk];by_cases e2:k<j
      ·rw[AAS e2,AAS J]
      ·rw[AAT e2,AAT J]
    ·rw[ABZ hQ]at hu1
     have hj1:1<=j:=by
      rcases Nat.eq_zero_or_pos j with e|e
      ·exact absurd (e▸h0) hQ
      ·exact e
     have i3:ON ls' (j:Int)=true:=O6 J;have e3:=TA (l:=ls') (i:=j) J;have h5:=g5 j hj1 hjm hQ;rw[AAT J]at h5;have hlb':=hlb j hj1 hjm hQ
     have sm:∀r:Nat,(∃b∈j0::Q,b<j+1/\ga w b=(r:Int))↔∃b∈j0::Q,b<j/\ga w b=(r:Int):=λr=>
      ⟨λ⟨b,hb,h1,h2⟩=>⟨b,hb,by
       have:b≠j:=λe=>hQ (e▸hb);omega,h2⟩,λ⟨b,hb,h1,h2⟩=>⟨b,hb,J,h2⟩⟩
     refine⟨(((j+1:Nat):Int),u',v',ls'.set j (O5 (ga ls' j-x16.1))),?_,⟨j+1,u',v',ls'.set j (O5 (ga ls' j-x16.1)),rfl,J,l1,l2,by simp[l3],λs s1 s2 hs=>g1 s s1 s2 ((sm s).1 hs),λs s1 s2 hs=>g2 s s1 s2 λh=>hs ((sm s).2 h),λk k1 k2 hk=>?_,g4,λk k1 k2 hk=>?_⟩,hmu⟩
     ·simp only[SG,hdd,ABQ,ABS,ABT,Pz,O6 hul,hu1,ABP,hw1,i3,e3]
     ·have e:k≠j:=λe=>hQ (e▸hk);rw[g3 k k1 k2 hk];by_cases e2:k<j
      ·rw[AAS e2,AAS J]
      ·rw[AAT e2,AAT J]
     ·rw[U3 J];by_cases e:k=j
      ·rw[AAS e,AAS J,e,h5,PA J J]
      ·rw[AAT e,g5 k k1 k2 hk];by_cases e2:k<j
       ·rw[AAS e2,AAS J]
       ·rw[AAT e2,AAT J])
  n (0,u,v,ls) ⟨0,u,v,ls,rfl,J,lu,lv,ll,λr _ _ h=>by obtain⟨b,_,hb,_⟩:=h;omega,λr _ _ _=>rfl,λk _ _ _=>by rw[AAT J],λk _ _ _=>rfl,λk _ _ _=>by rw[AAT J]⟩ (by show m+1-(0:Int).toNat<n;unfold PE at hn;omega)
 obtain⟨l1,l2,l3,g1,g2,g3,g4,g5⟩:=h1;subst hje;refine⟨u',v',ls',by rw[h2,e],l1,l2,l3,λr r1 r2 ⟨b,hb,hbm,eb⟩=>g1 r r1 r2 ⟨b,hb,J,eb⟩,λr r1 r2 h=>g2 r r1 r2 λ⟨b,hb,hbm,eb⟩=>h ⟨b,hb,J,eb⟩,λj j1 j2 hj=>?_,g4,λj j1 j2 hj=>?_⟩
 all_goals grind
theorem Tl{α γ:Type}{f:α->Option (α⊕γ)}(R:Nat->α->Prop)(S:γ->Prop)
  (h:∀k x,R k x->(∃z,f x=some (.inr z)/\S z)\/(∃x' k',f x=some (.inl x')/\R k' x'/\k'<k)):
  ∀n k x,R k x->k<n->∃z,S z/\iter n f x=some z:=by
 intro n
 induction n with
 |zero=>omega
 |succ n ih=>
  intro k x hR hn;rcases h k x hR with⟨z,h1,h3⟩|⟨x',k',h1,h3,h4⟩
  ·exact⟨z,h3,Po h1 n⟩
  ·obtain⟨z,h5,h6⟩:=ih k' x' h3 J;exact⟨z,h5,(SR h1 n).trans h6⟩
theorem Ch.zero{P:Nat->Nat->Prop}:∀ {a:Nat} {l:It},Ch P (a::l)->0∈a::l
 |a,[],h=>by
  rcases h with⟨h,_⟩|⟨_,⟨x,hx,_⟩,_⟩
  all_goals grind
 |a,b::l,h=>by
  rcases h with⟨_,h⟩|⟨_,_,h⟩
  ·cases h
  ·exact AAQ _ (Ch.zero h)
theorem jo{a0:List By}{m i:Nat}(hc:CM a0 m){w:By}(lw:w.length=m+1)(hm:HM m i (ga w))(hw0:ga w 0=(i:Int))(h1i:1<=i)(hiN:i<=a0.length)(n:Nat)(hn:PE<=n)
  {u v ls fr:By} {us:ADh} {j0:Nat} {Q:It} (lu:u.length=a0.length+1) (lv:v.length=m+1) (ll:ls.length=m+1) (lf:fr.length=m+1) (qE:us.length=m+1)
  (hG:HG (cC a0) a0.length m (ga u) (ga v) (ga w) (ga ls) (ga fr) Q j0) (hu:∀k,k<=m->us[k]?=some (decide (k∈Q))) (qo:1<=ga w j0) (hfar:Q=[]->∀k,k<=m->ga ls k=1099511627776):
  ∃(j1:Nat) (u' v' ls' fr':By),u'.length=a0.length+1/\v'.length=m+1/\ls'.length=m+1/\fr'.length=m+1/\HG (cC a0) a0.length m (ga u') (ga v') (ga w) (ga ls') (ga fr') (j0::Q) j1/\
   (∀k,k<=m->(us.set j0 true)[k]?=some (decide (k∈j0::Q)))/\0<=ga w j1/\(j0::Q).length<=m+1/\
   SF n a0 w (m:Int) ((j0:Int),u,v,ls,fr,us)=bif ga w j1==0 then some (.inr ((j1:Int),u',v',ls',fr',us.set j0 true))else some (.inl ((j1:Int),u',v',ls',fr',us.set j0 true)):=by
 have hm10:=hc.m10;have hnm:=hc.nm;have hj0:=hG.ub
 obtain⟨bu,bv⟩:=hG.hf.Mc hG.ht hm h1i J hiN (M:=100000) (λr j r1 r2 j1 j2=>by
  obtain⟨_,_,_,p,q⟩:=hc.at r1 r2 j1 j2;omega)
 have wle:∀k,k<=m->ga w k<=(a0.length:Int):=λk hk=>by
  by_cases e:k=0
  ·grind
  ·have:=hm.gO k ADS hk;omega
 obtain⟨i0,hi0⟩:∃i0:Nat,ga w j0=(i0:Int):=⟨(ga w j0).toNat,J⟩;have hi01:1<=i0:=ADS
 have hi02:i0<=a0.length:=by have:=wle j0 hj0;clear hn;omega
 have hset:∀k,k<=m->(us.set j0 true)[k]?=some (decide (k∈j0::Q)):=λk hk=>No
 obtain⟨d,j1,ls',fr',s1,l1,l2,s2,s3,s4,s5⟩:=jn (i:=i) hc (w:=w) hj0 lu lv ll lf hset qE hi01 hi02 (bu i0 hi01 hi02) bv n hn
 have hfar2:Q=[]->∀j,1<=j->j<=m->cC a0 i0 j-ga u i0-ga v j<ga ls j:=λe j a b=>by rw[hfar e j b];obtain⟨_,_,_,p,q⟩:=hc.at hi01 hi02 a b;grind
 have hS:HS (cC a0) a0.length m (ga u) (ga v) (ga w) (ga ls') (ga fr') (j0::Q):=hG.scan hi01 hi0 hfar2 s2 s3
 have rN:∀b∈j0::Q,∀r:Nat,ga w b=(r:Int)->1<=r/\r<=a0.length:=λb hb r hr=>by have:=hS.qp b hb;have:=wle b (hS.qm b hb);omega
 have hlb:∀k,1<=k->k<=m->k∉j0::Q->0<=ga ls' k/\ga ls' k<=200000:=λk a b c=>by obtain⟨q,hq,_,r,r1,r2,r3⟩:=hS.l2 k a b c;obtain⟨p1,p2⟩:=rN q hq r r2;have:=hS.hf.nu r k p1 p2 a b;obtain⟨_,_,_,p,q⟩:=hc.at p1 p2 a b;have:=bu r p1 p2;have:=bv k a b;omega
 rcases s5 with s5|⟨a1,a2,a3,a4⟩
 ·obtain⟨f,f1,f2,f3⟩:=hm.open h1i ADS;grind
 have hdb:=hlb j1 a1 a2 a3;rw[a4]at hdb
 have hinj:∀k b,k<=m->b<=m->k∈j0::Q->b∈j0::Q->ga w k=ga w b->k=b:=λk b c1 c2 c3 c4 c5=>by
  have p1:=hS.qp k c3;by_cases k0:k=0
  ·by_cases b0:b=0
   ·omega
   ·have:=hm.gO b ADS c2;grind
  ·by_cases b0:b=0
   ·have:=hm.gO k ADS c1;grind
   ·exact hm.inj k b J c1 J c2 c5 J
 have h00:0∈j0::Q:=Ch.zero hG.ch;obtain⟨u',v',ls'',t1,t2,t3,t4,t5,t6,t7,t8,t9⟩:=lC (m:=m) (i:=i) (u:=u) (v:=v) (ls:=ls') (w:=w) hm10 fr (d,(j1:Int),((m+1:Nat):Int),ls',fr') lu lv l1 lw hset qE (λk a b=>⟨hS.qp k b,wle k a⟩) hinj hdb bu bv hlb ls h00 n hn;obtain⟨hd0,hG'⟩:=hS.step (u':=ga u') (v':=ga v') (ls':=ga ls'') hm hw0 hiN a1 a2 a3 a4 s4 (λr r1 r2 ⟨b,hb,eb⟩=>t5 r r1 r2 ⟨b,hb,hS.qm b hb,eb⟩) (λr r1 r2 h=>t6 r r1 r2 λ⟨b,hb,_,eb⟩=>h ⟨b,hb,eb⟩) t7 t8 t9;have i1:ON us (j0:Int)=true:=O6 J;have i2:ON w (j0:Int)=true:=O6 J;have i3:ON w (j1:Int)=true:=O6 J;have e2:=TA (l:=w) (i:=j0) J;have e3:=TA (l:=w) (i:=j1) J;rw[hi0]at e2
 have hlen:(j0::Q).length<=m+1:=by have:=ar (j0::Q) (List.range (m+1)) hS.nd (λx hx=>by rw[AAb];have:=hS.qm x hx;omega);simpa using this
 refine⟨j1,u',v',ls'',fr',t2,t3,t4,l2,hG',hset,(hm.gO j1 a1 a2).1,hlen,?_⟩;simp only[SF,i1,i2,i3,ABQ,ABT,e2,e3,ABP,s1,t1,Pz]
abbrev GT:=Int×By×By×By×By×ADh
structure GS(a0:List By)(m:Nat)(w:By)(k:Nat)(x:GT)(j0:Nat)(Q:It):Prop where
 j:x.1=(j0:Int)
 lu:x.2.1.length=a0.length+1
 lv:x.2.2.1.length=m+1
 ll:x.2.2.2.1.length=m+1
 lf:x.2.2.2.2.1.length=m+1
 qE:x.2.2.2.2.2.length=m+1
 hG:HG (cC a0) a0.length m (ga x.2.1) (ga x.2.2.1) (ga w) (ga x.2.2.2.1) (ga x.2.2.2.2.1) Q j0
 hu:∀k,k<=m->x.2.2.2.2.2[k]?=some (decide (k∈Q))
 qo:1<=ga w j0
 hfar:Q=[]->∀k,k<=m->ga x.2.2.2.1 k=1099511627776
 hk:k+Q.length=m+1
structure GE(a0:List By)(m:Nat)(w:By)(x:GT)(j0:Nat)(Q:It):Prop where
 j:x.1=(j0:Int)
 lu:x.2.1.length=a0.length+1
 lv:x.2.2.1.length=m+1
 lf:x.2.2.2.2.1.length=m+1
 hG:HG (cC a0) a0.length m (ga x.2.1) (ga x.2.2.1) (ga w) (ga x.2.2.2.1) (ga x.2.2.2.2.1) Q j0
 hz:ga w j0=0
theorem lB{a0:List By}{m i:Nat}(hc:CM a0 m){w:By}(lw:w.length=m+1)(hm:HM m i (ga w))(hw0:ga w 0=(i:Int))(h1i:1<=i)(hiN:i<=a0.length)(n:Nat)(hn:PE<=n)(k:Nat)(x:GT)(hx:∃j0 Q,GS a0 m w k x j0 Q):
  (∃z,SF n a0 w (m:Int) x=some (.inr z)/\∃j0 Q,GE a0 m w z j0 Q)\/(∃x' k',SF n a0 w (m:Int) x=some (.inl x')/\(∃j0 Q,GS a0 m w k' x' j0 Q)/\k'<k):=by
 obtain⟨x1,u,v,ls,fr,us⟩:=x;obtain⟨j0,Q,⟨j,lu,lv,ll,lf,qE,hG,hu,qo,hfar,hk⟩⟩:=hx;dsimp only at j lu lv ll lf qE hG hu hfar;subst j;obtain⟨j1,u',v',ls',fr',t2,t3,t4,l2,hG',hset,hw1,hlen,hstep⟩:=jo hc lw hm hw0 h1i hiN n hn lu lv ll lf qE hG hu qo hfar;clear hG hu hfar hn;rw[ABF]at hlen;by_cases hz:ga w j1=0
 ·rw[show(ga w j1==0)=true by grind,ABQ]at hstep;exact .inl ⟨_,hstep,j1,j0::Q,⟨rfl,t2,t3,l2,hG',hz⟩⟩
 ·rw[show(ga w j1==0)=false by grind,ABS]at hstep;have h1:1<=ga w j1:=by clear hstep hG' hset;omega
  exact .inr ⟨_,k-1,hstep,⟨j1,j0::Q,⟨rfl,t2,t3,t4,l2,No,hG',hset,h1,(λh=>nomatch h),No⟩⟩,J⟩
theorem jm{a0:List By}{m i:Nat}(hc:CM a0 m){w:By}(lw:w.length=m+1)(hm:HM m i (ga w))(hw0:ga w 0=(i:Int))(h1i:1<=i)(hiN:i<=a0.length)(n:Nat)(hn:PE<=n)
  {u v ls fr:By} {us:ADh} (lu:u.length=a0.length+1) (lv:v.length=m+1) (ll:ls.length=m+1) (lf:fr.length=m+1) (qE:us.length=m+1)
  (hf:HF (cC a0) a0.length m (ga u) (ga v)) (ht:HT (cC a0) m (ga u) (ga v) (ga w)) (hls:∀k,k<=m->ga ls k=1099511627776) (hus:∀k,k<=m->us[k]?=some false):
  ∃z,(∃j0 Q,GE a0 m w z j0 Q)/\iter n (SF n a0 w (m:Int)) (0,u,v,ls,fr,us)=some z:=by
 have hm10:=hc.m10
 have h0:GS a0 m w (m+1) (0,u,v,ls,fr,us) 0 []:=
  ⟨rfl,lu,lv,ll,lf,qE,⟨hf,ht,J,AAA,AAA,AAA,.inl ⟨rfl,rfl⟩,λ_ _ _ _ b hb=>(nomatch hb),.inl rfl⟩,λk hk=>No,J,λ_=>hls,AAA⟩
 exact Tl (λk x=>∃j0 Q,GS a0 m w k x j0 Q) (λz=>∃j0 Q,GE a0 m w z j0 Q) (lB hc lw hm hw0 h1i hiN n hn) n (m+1) _ ⟨0,[],h0⟩ ADU
theorem kz{C:Nat->Nat->Int}{m i:Nat}{u v fr:By}(x27:Int×By×By×By×By×ADh)(hx:x27.2.2.2.2.1=fr)(lf:fr.length=m+1)(n:Nat)(hn:PE<=n){w:By}(lw:w.length=m+1){j0:Nat}{Q:It}(hm:m<=10)
  (h:HA C m i (ga u) (ga v) (ga fr) (ga w) j0 Q):∃z,(∃w' Q',z=((0:Int),w')/\w'.length=m+1/\HA C m i (ga u) (ga v) (ga fr) (ga w') 0 Q')/\iter n (VZ x27) ((j0:Int),w)=some z:=by
 refine Tl (λk x=>∃(j0:Nat) (Q:It) (w:By),x=((j0:Int),w)/\w.length=m+1/\HA C m i (ga u) (ga v) (ga fr) (ga w) j0 Q/\k=Q.length) _ (λk x hx'=>?_) n Q.length ((j0:Int),w) ⟨j0,Q,w,rfl,lw,h,rfl⟩ ?_
 ·obtain⟨j0,Q,w,rfl,lw,h,rfl⟩:=hx';by_cases hj:j0=0
  ·left;subst hj;exact⟨((0:Int),w),by simp[VZ],w,Q,rfl,lw,h⟩
  ·right;have hjm:j0<=m:=h.lm j0 AAo;obtain⟨x,Q',p1,p2,p3,p4,p5⟩:=h.next J;have zp:((j0:Int) != 0)=true:=ADY
   have i1:ON fr (j0:Int)=true:=O6 J;have i2:ON w (x:Int)=true:=O6 J;have i3:ON w (j0:Int)=true:=O6 J;have e1:=TA (l:=fr) (i:=j0) J;have e2:=TA (l:=w) (i:=x) J;rw[p1]at e1;refine⟨((x:Int),w.set j0 (ga w x)),Q'.length,?_,⟨x,Q',w.set j0 (ga w x),rfl,by simp[lw],p5 _ ?_ (λj a b=>?_),rfl⟩,p3⟩
   ·simp only[VZ,zp,ABQ,hx,i1,i2,i3,ABT,e1,e2,ABP,Pz]
   ·rw[U3 J,AAS rfl]
   ·rw[U3 J,AAT b]
 ·have:=ar Q (List.range (m+1)) (AAf.1 h.nd).2 (λx hx=>by rw[AAb];have:=h.lm x (AAQ _ hx);omega);simp at this;unfold PE at hn;omega
theorem mf{a0:List By}{m i:Nat}(hc:CM a0 m){u v w:By}(lu:u.length=a0.length+1)(lv:v.length=m+1)(lw:w.length=m+1)(h1i:1<=i)(hiN:i<=a0.length)
  (hf:HF (cC a0) a0.length m (ga u) (ga v)) (ht:HT (cC a0) m (ga u) (ga v) (ga w)) (hm:HM m i (ga w)) (hw0:ga w 0=(i:Int)) (n:Nat) (hn:PE<=n):
  ∃u' v' w',YD n a0 u v w (m:Int)=some (u',v',w')/\u'.length=a0.length+1/\v'.length=m+1/\w'.length=m+1/\HF (cC a0) a0.length m (ga u') (ga v')/\HT (cC a0) m (ga u') (ga v') (ga w')/\HM m (i+1) (ga w'):=by
 have hm10:=hc.m10;have e0:O5 ((m:Int)+1)=((m+1:Nat):Int):=O1 (show m<m+1 by omega) J
 have g0:(decide (0<=((m+1:Nat):Int))&&decide (((m+1:Nat):Int)<=(E7:Int))&&decide (((m+1:Nat):Int)=((m+1:Nat):Int)))=true:=by rw[ABV (show 0<=((m+1:Nat):Int) by omega),ABV (show((m+1:Nat):Int)<=(E7:Int) by unfold E7;omega)];simp
 obtain⟨⟨x1,u',v',ls,fr,us⟩,⟨j0,Q,⟨j,lu',lv',lf',hG,hz⟩⟩,h2⟩:=jm hc lw hm hw0 h1i hiN n hn (ls:=List.replicate (m+1) 1099511627776) (fr:=List.replicate (m+1) 0) (us:=List.replicate (m+1) false) lu lv AAA AAA AAA hf ht (λk hk=>Yi _ _ _ J) (λk hk=>by grind);dsimp only at j lu' lv' lf' hG;subst j;obtain⟨z2,⟨w',Q',rfl,lw',hA⟩,h3⟩:=kz (fr:=fr) ((j0:Int),u',v',ls,fr,us) rfl lf' n hn lw hm10 (hG.xh hm hw0 h1i hz);obtain⟨d1,d2⟩:=hA.done;refine⟨u',v',w',?_,lu',lv',lw',hG.hf,d2,d1⟩;unfold YD;rw[e0,g0];simp only[ABQ,ABT,lA m hm10 n hn,ABP,h2,h3]
def PJ(a0:List By):List (Nat->Int):=a0.map ga
theorem iC(a0:List By){r:Nat}(h:r<a0.length)(k:Nat):((PJ a0)[r]'(by simp only[PJ,ABl];exact h)) k=cC a0 (r+1) (k+1):=by have e:(a0.map ga)[r]'(by simpa using h)=ga a0[r]:=ABh ..;show((a0.map ga)[r]'(by simpa using h)) k=_;rw[e];unfold cC;grind
theorem lk{P:Nat->Nat->Prop}:∀N:Nat,(∀r,r<N->∃k,P r k)->∃cs:It,cs.length=N/\∀r (h:r<cs.length),P r cs[r]
 |0,_=>⟨[],rfl,λr h=>ADd⟩
 |N+1,h=>by obtain⟨cs,h1,h2⟩:=lk N (λr hr=>h r J);obtain⟨k,hk⟩:=h N J;refine⟨cs++[k],by simp[h1],λr hr=>?_⟩;grind
theorem j6(f:Nat->Int):∀(R:List (Nat->Int)) (cs:It),cs.length=R.length->(∀r (h1:r<R.length) (h2:r<cs.length),R[r] cs[r]=f cs[r])->my R cs=Qv (cs.map f)
 | [],[],_,_=>rfl
 | [],c::cs,h,_=>ADd
 |r::R,[],h,_=>ADd
 |r::R,c::cs,h,he=>by
  have h0:=he 0 AAA AAA;simp only[AB9]at h0;simp only[my,ABH,Qv]
  rw[h0,j6 f R cs ADg (λr h1 h2=>by
   have:=he (r+1) ADY ADY;simpa only[List.getElem_cons_succ]using this)]
theorem mG(f h:Nat->Int):∀(cs:It)(u:By),u.length=cs.length->(∀r (h1:r<cs.length) (h2:r<u.length),f cs[r]=u[r]+h cs[r])->Qv (cs.map f)=Qv u+Qv (cs.map h)
 | [],[],_,_=>rfl
 | [],c::cs,h,_=>ADd
 |r::R,[],h,_=>ADd
 |c::cs,x::u,hl,he=>by
  have h0:=he 0 AAA AAA;simp only[AB9]at h0
  have:=mG f h cs u No (λr h1 h2=>by
   have:=he (r+1) ADY ADY;grind)
  simp only[ABH,Qv];omega
theorem eZ{a0:List By}{m:Nat}(hc:CM a0 m)(n:Nat)(hn:PE<=n):∃s,SV n a0=some s/\qW (PJ a0) (List.range m) s:=by
 have hm10:=hc.m10;have hnm:=hc.nm;by_cases h0:a0.length=0
 ·have:a0=[]:=AAU h0;subst this;exact⟨0,by simp[SV],rfl,λy hy=>by simp only[PJ,List.map_nil,AS]at hy;omega⟩
 have hg0:Iv a0 0=some a0[0]:=O3 (show 0<a0.length by omega);have hl0:a0[0].length=m:=hc.row _ (ABR (show 0<a0.length by omega));have zp:((a0.length:Int)==0)=false:=by simp;intro h;exact h0 (by simp[h])
 have e0:∀k:Nat,k<=10->O5 ((k:Int)+1)=((k+1:Nat):Int)/\(decide (0<=((k+1:Nat):Int))&&decide (((k+1:Nat):Int)<=(E7:Int))&&decide (((k+1:Nat):Int)=((k+1:Nat):Int)))=true:=λk hk=>by refine⟨O1 (show k<k+1 by omega) J,?_⟩;rw[ABV (show 0<=((k+1:Nat):Int) by omega),ABV (show((k+1:Nat):Int)<=(E7:Int) by unfold E7;omega)];simp
 obtain⟨z,⟨u,v,w,rfl,lu,lv,lw,hf,ht,hm⟩,hz⟩:=Tl (f:=Ue n a0 a0[0])
  (λk x=>∃(i:Nat) (u v w:By),x=((i:Int),u,v,w)/\1<=i/\k+i=a0.length+1/\u.length=a0.length+1/\v.length=m+1/\w.length=m+1/\HF (cC a0) a0.length m (ga u) (ga v)/\HT (cC a0) m (ga u) (ga v) (ga w)/\HM m i (ga w))
  (λz=>∃(u v w:By),z=(((a0.length+1:Nat):Int),u,v,w)/\u.length=a0.length+1/\v.length=m+1/\w.length=m+1/\HF (cC a0) a0.length m (ga u) (ga v)/\HT (cC a0) m (ga u) (ga v) (ga w)/\HM m (a0.length+1) (ga w))
  (λk x hx=>by
   obtain⟨i,u,v,w,rfl,h1,hk,lu,lv,lw,hf,ht,hm⟩:=hx;by_cases hi:i=a0.length+1
   ·left;subst hi;have hd:decide (((a0.length+1:Nat):Int)<=(a0.length:Int))=false:=by rw[AAr];omega
    exact⟨_,by simp only[Ue,hd,ABS],u,v,w,rfl,lu,lv,lw,hf,ht,hm⟩
   ·right;have hd:decide ((i:Int)<=(a0.length:Int))=true:=by rw[AAj];omega
    have i0:ON w 0=true:=O6 (show 0<w.length by omega);have hs:∀j,1<=j->j<=m->ga (w.set 0 (i:Int)) j=ga w j:=λj a b=>by rw[U3 J,AAT J]
    obtain⟨u',v',w',g1,g2,g3,g4,g5,g6,g7⟩:=mf hc lu lv (w:=w.set 0 (i:Int)) (by simp[lw]) h1 J hf (ht.congr hs) (hm.congr hs) (by rw[U3 J,AAS rfl]) n hn;refine⟨(((i+1:Nat):Int),u',v',w'),k-1,?_,⟨i+1,u',v',w',rfl,J,J,g2,g3,g4,g5,g6,g7⟩,J⟩;simp only[Ue,hd,ABQ,i0,Pz,hl0,g1,ABP,O1 (show i<a0.length+1 by omega) J,ACT])
  n a0.length (1,List.replicate (a0.length+1) 0,List.replicate (m+1) 0,List.replicate (m+1) 0) ⟨1,_,_,_,rfl,J,rfl,AAA,AAA,AAA,⟨λr j r1 r2 j1 j2=>by
   rw[Yi _ _ _ J,Yi _ _ _ J];obtain⟨_,_,_,p,_⟩:=hc.at r1 r2 j1 j2;omega,λj a b=>by rw[Yi _ _ _ J];omega,λr a b=>by rw[Yi _ _ _ J];omega⟩,⟨λj r a b c d=>by rw[Yi _ _ _ J]at d;omega,λj a b c=>Yi _ _ _ J⟩,⟨λj a b=>by rw[Yi _ _ _ J];omega,λj k a b c d e f=>by rw[Yi _ _ _ J]at f;omega,λr a b=>J⟩⟩ ADU
 let f:Nat->Int:=λk=>if 0<ga w (k+1)then cC a0 (ga w (k+1)).toNat (k+1)else 0
 have fdef:∀k,f k=if 0<ga w (k+1)then cC a0 (ga w (k+1)).toNat (k+1)else 0:=λk=>rfl
 clear_value f
 have fb:∀k,k<m->0<=f k/\f k<=100000:=λk hk=>by
  rw[fdef];by_cases h:0<ga w (k+1)
  ·rw[AAS h];have:=hm.gO (k+1) J J;obtain⟨_,_,_,p,q⟩:=hc.at (r:=(ga w (k+1)).toNat) (j:=k+1) J J J J;exact⟨p,q⟩
  omega
 have sb:∀k:Nat,k<=m->0<=Qv ((List.range k).map f)/\Qv ((List.range k).map f)<=100000*(k:Int):=by
  intro k
  induction k with
  |zero=>intro _;simp[Qv]
  |succ k ih=>
   intro hk;obtain⟨p,q⟩:=ih J;have:=fb k J;rw[AB1,List.map_append,fV];simp only[ABH,List.map_nil,Qv];omega
 have hsum:iter n (RY a0 a0[0] (((a0.length+1:Nat):Int),u,v,w)) (0,1)=some (Qv ((List.range m).map f),((m+1:Nat):Int)):=by
  have:=Pa (RY a0 a0[0] (((a0.length+1:Nat):Int),u,v,w)) (λk=>(Qv ((List.range k).map f),((k+1:Nat):Int))) m (Qv ((List.range m).map f),((m+1:Nat):Int)) (λk hk=>by
   have hd:decide (((k+1:Nat):Int)<=(a0[0].length:Int))=true:=by rw[AAj];omega
   have i1:ON w ((k+1:Nat):Int)=true:=O6 J;have e1:=TA (l:=w) (i:=k+1) J;have hw1:O5 (((k+1:Nat):Int)+1)=((k+1+1:Nat):Int):=O1 (show k+1<m+1 by omega) J
   have hS:Qv ((List.range (k+1)).map f)=Qv ((List.range k).map f)+f k:=by rw[AB1,List.map_append,fV];simp[Qv]
   by_cases h:0<ga w (k+1)
   ·have hdw:decide (ga w (k+1)>0)=true:=ABV h;have hfk:f k=cC a0 (ga w (k+1)).toNat (k+1):=No
    have:=hm.gO (k+1) J J;obtain⟨l,c1,c2,_,_⟩:=hc.at (r:=(ga w (k+1)).toNat) (j:=k+1) J J J J;have hcast:(((ga w (k+1)).toNat:Nat):Int)=ga w (k+1):=J
    rw[hcast]at c1;have b1:=sb k J;have b2:=fb k hk
    have hw2:O5 (Qv ((List.range k).map f)+cC a0 (ga w (k+1)).toNat (k+1))=Qv ((List.range (k+1)).map f):=by rw[hS,hfk];exact PA J J
    simp only[RY,hd,ABQ,i1,ABT,e1,ABP,hdw,c1,c2,hw1,hw2]
   ·have hdw:decide (ga w (k+1)>0)=false:=ABZ h;have hfk:f k=0:=No
    have hw2:Qv ((List.range k).map f)=Qv ((List.range (k+1)).map f):=by rw[hS,hfk];omega
    simp only[RY,hd,ABQ,ABS,i1,ABT,e1,ABP,hdw,hw1];rw[hw2]) (by
   have hd:decide (((m+1:Nat):Int)<=(a0[0].length:Int))=false:=by rw[AAr];omega
   simp only[RY,hd,ABS]) n ADU
  simpa[Qv]using this
 obtain⟨cs,cl,cp⟩:=lk (P:=λr k=>k<m/\ga w (k+1)=((r+1:Nat):Int)) a0.length (λr hr=>by
  obtain⟨j,j1,j2,e⟩:=hm.rR (r+1) J J;exact⟨j-1,J,No⟩)
 have cnd:cs.Nodup:=by unfold List.Nodup;rw[ABM];intro a b ha hb hab e;have p1:=(cp a ha).2;have p2:=(cp b hb).2;rw[e,p2]at p1;omega
 have cin:∀k∈cs,k∈List.range m:=λk hk=>by obtain⟨a,ha,rfl⟩:=ABU.1 hk;grind
 have coff:∀k∈List.range m,k∉cs->ga w (k+1)=0:=λk hk hn=>by
  rw[AAb]at hk;have hr:=hm.gO (k+1) J J;refine AAp λzp=>hn ?_;have zj:(ga w (k+1)).toNat-1<cs.length:=J
  obtain⟨p1,p2⟩:=cp _ zj;have:=hm.inj (cs[(ga w (k+1)).toNat-1]+1) (k+1) J J J J J J;grind
 have hR:(PJ a0).length=a0.length:=by simp[PJ]
 have fc:∀r (h:r<cs.length),f cs[r]=cC a0 (r+1) (cs[r]+1):=λr h=>by have p2:=(cp r h).2;rw[fdef,p2,AAS J,ABT]
 have hs1:Qv ((List.range m).map f)=Qv (cs.map f):=lU f cs (List.range m) cnd AB2 cin (λk hk hn=>by
  grind)
 have hs2:my (PJ a0) cs=Qv (cs.map f):=j6 f (PJ a0) cs (by rw[hR,cl]) (λr h1 h2=>by
  rw[fc r h2,iC _ J])
 have hs3:Qv (cs.map f)=Qv ((List.range a0.length).map λr=>ga u (r+1))+Qv (cs.map λk=>ga v (k+1)):=mG f (λk=>ga v (k+1)) cs _ (by simp[cl]) (λr h1 h2=>by
  rw[fc r h1,ABh,List.getElem_range];obtain⟨p1,p2⟩:=cp r h1;exact(ht.tight (cs[r]+1) (r+1) J J J p2).symm)
 have hs4:Qv ((List.range m).map λk=>ga v (k+1))=Qv (cs.map λk=>ga v (k+1)):=lU _ cs (List.range m) cnd AB2 cin (λk hk hn=>by
  have hw:=coff k hk hn;rw[AAb]at hk;exact ht.free (k+1) J J hw)
 refine⟨Qv ((List.range m).map f),?_,?_,λy hy=>?_⟩
 ·unfold SV;rw[zp,ABS,hg0,ABP,hl0,(e0 a0.length J).1,(e0 m hm10).1,(e0 a0.length J).2,(e0 m hm10).2];simp only[ABQ,ABT,hz,ABP,hsum]
 ·rw[hs1,<-hs2];exact AS.of (PJ a0) cs (List.range m) (by rw[hR,cl]) cnd cin
 ·have:=AS.ge (λk=>ga v (k+1)) (PJ a0) ((List.range a0.length).map λr=>ga u (r+1)) (List.range m) y (by simp[PJ]) (λr hr hu k hk=>by
   rw[AAb]at hk;have hra:r<a0.length:=by rw[hR]at hr;exact hr
   have:=hf.nu (r+1) (k+1) J J J J;rw[ABh,List.getElem_range];have e:(PJ a0)[r] k=cC a0 (r+1) (k+1):=iC _ hra k;rw[e];exact this) (λk hk=>by
   rw[AAb]at hk;exact hf.rL (k+1) J J) hy
  omega
theorem rI{k:Nat}(h:k<=10):Ns .i64 1 (k:Int)=((2 ^ k:Nat):Int):=by
 have h2:2 ^ k<=2 ^ 10:=Nat.pow_le_pow_right J h;unfold Ns;rw[show min ((k:Int)).toNat (IntKind.bits .i64)=k by simp[IntKind.bits];omega,Int.one_mul];have e:(2:Int) ^ k=((2 ^ k:Nat):Int):=by rw[Int.natCast_pow];rfl
 rw[e];generalize 2 ^ k=p at h2 ⊢;exact PA J J
theorem bp{s:Nat}(h:s<1024):(BitVec.ofInt (IntKind.bits .i64) (s:Int)).toNat=s:=by have:(BitVec.ofInt (IntKind.bits .i64) (s:Int)).toNat=((s:Int)%(2 ^ 64:Nat)).toNat:=BitVec.toNat_ofInt ..;omega
theorem xY{s t:Nat}(hs:s<1024)(ht:t<1024):Om .i64 (s:Int) (t:Int)=((s ||| t:Nat):Int):=by
 have h:s ||| t<1024:=Nat.or_lt_two_pow (n:=10) hs ht
 unfold Om;rw[BitVec.toNat_or,bp hs,bp ht];exact PA J J
theorem rW{s k:Nat}(hs:s<1024)(hk:k<=10):(N3 .i64 (Nt .i64 (s:Int) (k:Int)) 1==1)=s.testBit k:=by
 have e1:Nt .i64 (s:Int) (k:Int)=((s >>> k:Nat):Int):=by
  unfold Nt;rw[show min ((k:Int)).toNat (IntKind.bits .i64)=k by simp[IntKind.bits];omega,Nat.shiftRight_eq_div_pow];have e:(2:Int) ^ k=((2 ^ k:Nat):Int):=by rw[Int.natCast_pow];rfl
  rw[e];exact(Int.ofNat_fdiv s (2 ^ k)).symm
 have h1:s >>> k<1024:=Nat.lt_of_le_of_lt (Nat.shiftRight_le s k) hs
 have e2:N3 .i64 ((s >>> k:Nat):Int) 1=((1 &&& (s >>> k):Nat):Int):=by unfold N3;rw[BitVec.toNat_and,bp h1,show(BitVec.ofInt (IntKind.bits .i64) 1).toNat=1 by decide,Nat.and_comm];have:1 &&& (s >>> k)<=1:=Nat.and_le_left;exact PA J J
 rw[e1,e2,Nat.testBit];grind
def bO(m s:Nat):It:=(List.range m).filter λk => !s.testBit k
theorem ni(m s:Nat):(bO m s).Nodup:=AB2.filter _
theorem iQ{m s k:Nat}:k∈bO m s↔k<m/\s.testBit k=false:=by simp[bO]
theorem XP{m s k:Nat}(h:s.testBit k=false):(bO m s).erase k=bO m (s ||| 2 ^ k):=by rw[(ni m s).erase_eq_filter];unfold bO;rw[List.filter_filter];grind
theorem iP{m s k:Nat}(hs:s<2 ^ m)(hk:k<m):s ||| 2 ^ k<2 ^ m:=Nat.or_lt_two_pow hs (Nat.pow_lt_pow_right J hk)
theorem jB{m:Nat}(h:m<=10):2 ^ m<=1024:=Nat.pow_le_pow_right J h
def Ta:Option Int->Int
 |none => -1
 |some x=>x
def Nq(R:List (Nat->Int))(m i:Nat):By:=(List.range (2 ^ m)).map λs=>Ta (Yf (R.drop i) (bO m s))
theorem Xj(R:List (Nat->Int))(m i:Nat):(Nq R m i).length=2 ^ m:=by simp[Nq]
theorem Xi{R:List (Nat->Int)}{m i s:Nat}(h:s<2 ^ m):(Nq R m i)[s]?=some (Ta (Yf (R.drop i) (bO m s))):=by unfold Nq;grind
structure RB(R:List (Nat->Int))(m:Nat):Prop where
 b:∀r∈R,∀k,k<m->0<=r k/\r k<=100000
 l:R.length<=10
theorem RB.val{R:List (Nat->Int)}{m i s:Nat}(h:RB R m){x:Int}(hx:Yf (R.drop i) (bO m s)=some x):0<=x/\x<=1000000:=by have h1:=dx hx (λr hr k hk=>(h.b r (ACG hr) k (iQ.1 hk).1).1);have h2:=nr hx (M:=100000) J (λr hr k hk=>(h.b r (ACG hr) k (iQ.1 hk).1).2);have:=h.l;grind
theorem CM.rb{a0:List By}{m:Nat}(h:CM a0 m):RB (PJ a0) m:=by
 refine⟨λr hr k hk=>?_,?_⟩
 ·obtain⟨l,hl,rfl⟩:=AAw.1 hr;have:=h.row l hl;have hg:l[k]?=some (ga l k):=TA J;exact h.Mc l hl _ (AAR hg)
 ·have:=h.nm;have:=h.m10;simp only[PJ,ABl];omega
theorem mh{a0:List By}{m:Nat}(hc:CM a0 m){i:Nat}(hi:i<a0.length){s:Nat}(hs:s<2 ^ m)(T0:List By)(hT:i+1<T0.length)(hnext:T0[i+1]?=some (Nq (PJ a0) m (i+1)))(y:By)(hy:y.length=2 ^ m)(c7:Int×(List (By)))(hc7:c7.1=(s:Int))(c3:Int×(List (By)))(hc3:c3.1=(i:Int))(n:Nat)(hn:PE<=n):
  iter n (Qn a0 (m:Int) c3 c7) (0,T0.set i (y.set s (-1)))=some ((m:Int),T0.set i (y.set s (Ta (Yf ((PJ a0).drop i) (bO m s))))):=by
 have hm10:=hc.m10;have hnm:=hc.nm;have hp:=jB hm10;have hR:(PJ a0).length=a0.length:=by simp[PJ]
 have hdrop:(PJ a0).drop i=ga a0[i]::(PJ a0).drop (i+1):=by rw[ABi J];congr 1;exact ABh ..
 let acc:Nat->Option Int:=λk=>((List.range k).filter λk => !s.testBit k).foldl (λb k=>Zx b ((Yf ((PJ a0).drop (i+1)) ((bO m s).erase k)).map λy=>ga a0[i] k+y)) none
 have acc0:acc 0=none:=rfl;have accm:acc m=Yf ((PJ a0).drop i) (bO m s):=by rw[hdrop];rfl
 have accS:∀k,acc (k+1)=bif s.testBit k then acc k else Zx (acc k) ((Yf ((PJ a0).drop (i+1)) ((bO m s).erase k)).map λy=>ga a0[i] k+y):=λk=>by show((List.range (k+1)).filter _).foldl _ none=_;rw[AB1,ACB,List.foldl_append];grind
 clear_value acc
 have accP:∀k,k<=m->∀z,acc k=some z->0<=z:=by
  intro k
  induction k with
  |zero=>grind
  |succ k ih=>
   intro hk z h;rw[accS k]at h;cases hb:s.testBit k with
   |true=>grind
   |false=>
    rw[hb,ABS]at h;rcases lp h with h|h
    ·grind
    ·rw[XP hb]at h;cases hB:Yf ((PJ a0).drop (i+1)) (bO m (s ||| 2 ^ k))with
     |none=>grind
     |some x=>
      rw[hB]at h;simp only[AA7,Option.some.injEq]at h;have:=hc.rb.val hB;have:=hc.rb.b (ga a0[i]) (ACQ (ABR hi)) k J;omega
 have hi3:O5 ((i:Int)+1)=((i+1:Nat):Int):=O1 (show i<i+1 by omega) J;have zo:Iv a0 (i:Int)=some a0[i]:=O3 hi;have hrl:a0[i].length=m:=hc.row _ (ABR hi);have rb:=hc.rb
 have:=Pa (Qn a0 (m:Int) c3 c7) (λk=>((k:Int),T0.set i (y.set s (Ta (acc k))))) m ((m:Int),T0.set i (y.set s (Ta (acc m)))) (λk hk=>by
  have hd:decide ((k:Int)<(m:Int))=true:=by rw[AAj];omega
  have hd0:decide (0<=(k:Int))=true:=by rw[AAj];omega
  have FV:=rW (s:=s) (k:=k) J J;have hsh:=rI (k:=k) J;have hk10:2 ^ k<1024:=AA6 (Nat.pow_lt_pow_right J hk) hp;have hor:=xY (s:=s) (t:=2 ^ k) J hk10;have hw:O5 ((k:Int)+1)=((k+1:Nat):Int):=O1 hk J;have zj:=iP hs hk;have i1:ON (T0.set i (y.set s (Ta (acc k)))) ((i+1:Nat):Int)=true:=O6 ADY;have e1:(T0.set i (y.set s (Ta (acc k))))[i+1]?=some (Nq (PJ a0) m (i+1)):=by rw[List.getElem?_set_ne J];exact hnext
  have i2:ON (Nq (PJ a0) m (i+1)) ((s ||| 2 ^ k:Nat):Int)=true:=O6 (by rw[Xj];exact zj);have e2:=Xi (R:=PJ a0) (i:=i+1) zj;have i3:ON (T0.set i (y.set s (Ta (acc k)))) (i:Int)=true:=O6 ADY;have e3:(T0.set i (y.set s (Ta (acc k))))[i]?=some (y.set s (Ta (acc k))):=No
  have i4:ON (y.set s (Ta (acc k))) (s:Int)=true:=O6 ADY;have e4:(y.set s (Ta (acc k)))[s]?=some (Ta (acc k)):=No
  have e5:Iv a0[i] (k:Int)=some (ga a0[i] k):=by rw[RC];exact TA J
  have hb0:=rb.b (ga a0[i]) (ACQ (ABR hi)) k hk;rw[accS k];cases hb:s.testBit k with
  |true=>
   rw[hb]at FV;simp only[Qn,hd,hd0,ABQ,hc7,hc3,FV,ABP,hw]
  |false=>
   rw[hb]at FV;rw[ABS,XP hb];have hv:∀x,Yf ((PJ a0).drop (i+1)) (bO m (s ||| 2 ^ k))=some x->0<=x/\x<=1000000:=λx hx=>rb.val hx;cases hB:Yf ((PJ a0).drop (i+1)) (bO m (s ||| 2 ^ k))with
   |none=>
    rw[hB]at e2;have hneg:decide (Ta none<0)=true:=by simp[Ta]
    have ho:Zx (acc k) (Option.map (λy=>ga a0[i] k+y) none)=acc k:=by cases acc k<;>rfl
    rw[ho];simp only[Qn,hd,hd0,ABQ,ABS,hc7,hc3,FV,ABP,hw,hi3,i1,e1,ABT,hsh,hor,i2,e2,hneg]
   |some x=>
    rw[hB]at e2;obtain⟨x0,x1⟩:=hv x hB;have hneg:decide (Ta (some x)<0)=false:=ABZ (show ¬x<0 by omega);have hww:O5 (ga a0[i] k+Ta (some x))=ga a0[i] k+x:=PA (n:=ga a0[i] k+x) J J
    have hmod:∀v:Int,List.modify (T0.set i (y.set s (Ta (acc k)))) i (λy2=>DL y2 s v)=T0.set i (y.set s v):=λv=>by
     apply ABt;intro j;rw[ABd,ACF,ACF];by_cases e:i=j
     ·subst e;simp[show i<T0.length by omega,Pz]
     ·simp[e]
    cases hA:acc k with
    |none=>
     rw[hA]at e4 i3 i4 e3 i1 e1 hmod;have hneg2:decide (Ta none<0)=true:=by simp[Ta]
     simp only[Qn,hd,hd0,ABQ,ABS,hc7,hc3,FV,ABP,hw,hi3,i1,e1,ABT,hsh,hor,i2,e2,hneg,zo,e5,i3,e3,i4,e4,hneg2,hww,hmod];rfl
    |some z=>
     rw[hA]at e4 i3 i4 e3 i1 e1 hmod;have hz0:=accP k J z hA
     ·have hneg2:decide (Ta (some z)<0)=false:=ABZ (show ¬z<0 by omega);by_cases hlt2:ga a0[i] k+x<z
      ·have hd2:decide (ga a0[i] k+x<Ta (some z))=true:=ABV hlt2;have ho:Zx (some z) (Option.map (λy=>ga a0[i] k+y) (some x))=some (ga a0[i] k+x):=by simp only[AA7,Zx,AAS hlt2]
       rw[ho];simp only[Qn,hd,hd0,ABQ,ABS,hc7,hc3,FV,ABP,hw,hi3,i1,e1,ABT,hsh,hor,i2,e2,hneg,zo,e5,i3,e3,i4,e4,hneg2,hww,hmod,hd2];rfl
      ·have hd2:decide (ga a0[i] k+x<Ta (some z))=false:=ABZ hlt2;have ho:Zx (some z) (Option.map (λy=>ga a0[i] k+y) (some x))=some z:=by simp only[AA7,Zx,AAT hlt2]
       rw[ho];simp only[Qn,hd,hd0,ABQ,ABS,hc7,hc3,FV,ABP,hw,hi3,i1,e1,ABT,hsh,hor,i2,e2,hneg,zo,e5,i3,e3,i4,e4,hneg2,hww,hmod,hd2]) (by
  have hd:decide ((m:Int)<(m:Int))=false:=AAA
  simp only[Qn,hd,ABS]) n ADU
 rw[acc0,accm]at this;exact this
theorem lF{a0:List By}{m:Nat}(hc:CM a0 m){i:Nat}(hi:i<a0.length)(T0:List By)(hT:i+1<T0.length)(hnext:T0[i+1]?=some (Nq (PJ a0) m (i+1)))(x5:By)(h5:x5.length=2 ^ m)(c3:Int×(List (By)))(hc3:c3.1=(i:Int))(n:Nat)(hn:PE<=n):
  iter n (UB n a0 (m:Int) c3 x5) (0,T0.set i (List.replicate (2 ^ m) 0))=some (((2 ^ m:Nat):Int),T0.set i (Nq (PJ a0) m i)):=by
 have hp:=jB hc.m10;have hrl:=Xj (PJ a0) m i
 have:=Pa (UB n a0 (m:Int) c3 x5) (λs=>((s:Int),T0.set i ((Nq (PJ a0) m i).take s++List.replicate (2 ^ m-s) 0))) (2 ^ m) (((2 ^ m:Nat):Int),T0.set i (Nq (PJ a0) m i)) (λs hs=>by
  have hd:decide ((s:Int)<(x5.length:Int))=true:=by rw[AAj];omega
  generalize hy:(Nq (PJ a0) m i).take s++List.replicate (2 ^ m-s) 0=y;have hyl:y.length=2 ^ m:=by rw[<-hy];simp[hrl];omega
  have i3:ON (T0.set i y) (i:Int)=true:=O6 ADY;have e3:(T0.set i y)[i]?=some y:=by rw[List.getElem?_set_self J]
  have i4:ON y (s:Int)=true:=O6 J
  have hmod:List.modify (T0.set i y) i (λy2=>DL y2 s (-1))=T0.set i (y.set s (-1)):=by
   apply ABt;intro j;rw[ABd,ACF,ACF];by_cases e:i=j
   ·subst e;simp[show i<T0.length by omega,Pz]
   ·simp[e]
  have hr:=mh hc hi hs T0 hT hnext y hyl ((s:Int),T0.set i y) rfl c3 hc3 n hn;have hw:O5 ((s:Int)+1)=((s+1:Nat):Int):=O1 hs J;simp only[UB,hd,ABQ,hc3,i3,e3,i4,ABT,ABP,hmod,hr,hw];congr 5;rw[<-hy,ACE _ _ (by simp[hrl];omega),List.length_take,hrl,Nat.min_eq_left J,ACR,show 2 ^ m-s=(2 ^ m-(s+1))+1 by omega,List.replicate_succ,ACS,List.take_add_one,Xi hs];simp) (by
  have hd:decide (((2 ^ m:Nat):Int)<(x5.length:Int))=false:=by rw[h5];simp
  simp only[UB,hd,ABS,ACR,List.replicate_zero,ABf];rw[ABx (by rw[hrl];exact AAh _)]) n ADU
 grind
theorem gE{a0:List By}{m:Nat}(hc:CM a0 m)(h0:a0=[]->m=0)(n:Nat)(hn:PE<=n):∃T,Yp n a0=some T/\T.length=a0.length+1/\∀j,j<=a0.length->T[j]?=some (Nq (PJ a0) m j):=by
 have hm10:=hc.m10;have hnm:=hc.nm;have hp:=jB hm10;have hsh:=rI hm10
 have hg1:decide (0<=((2 ^ m:Nat):Int))=true:=by generalize 2 ^ m=q;rw[AAj];omega
 have hg2:decide (((2 ^ m:Nat):Int)<=(E7:Int))=true:=by generalize 2 ^ m=q at hp;rw[AAj];unfold E7;omega
 have e0:O5 ((a0.length:Int)+1)=((a0.length+1:Nat):Int):=O1 (show a0.length<a0.length+1 by omega) J
 have g0:(decide (0<=((a0.length+1:Nat):Int))&&decide (((a0.length+1:Nat):Int)<=(E7:Int))&&decide (((a0.length+1:Nat):Int)=((a0.length+1:Nat):Int)))=true:=by rw[ABV (show 0<=((a0.length+1:Nat):Int) by omega),ABV (show((a0.length+1:Nat):Int)<=(E7:Int) by unfold E7;omega)];simp
 have hd0:decide (0<=(m:Int))=true:=by rw[AAj];omega
 have hcol:(show Option Int from bif decide ((a0.length:Int)>0)then(Iv a0 0).bind λx2=>some (x2.length:Int)else some 0)=some (m:Int):=by
  by_cases e:a0=[]
  ·grind
  ·have hl:0<a0.length:=List.length_pos_iff.2 e;rw[show decide ((a0.length:Int)>0)=true by grind,ABQ,show Iv a0 0=some a0[0]from O3 hl,ABP,hc.row _ (ABR hl)]
 have iN:ON (List.replicate (a0.length+1) ([]:By)) (a0.length:Int)=true:=O6 AAA
 obtain⟨z,⟨T,hz1,hz2,hz3⟩,hz⟩:=Tl (f:=V7 n a0 (m:Int))
  (λk x=>∃T:List By,x=((k:Int)-1,T)/\k<=a0.length/\T.length=a0.length+1/\∀j,k<=j->j<=a0.length->T[j]?=some (Nq (PJ a0) m j))
  (λz=>∃T:List By,z=(((0:Nat):Int)-1,T)/\T.length=a0.length+1/\∀j,j<=a0.length->T[j]?=some (Nq (PJ a0) m j))
  (λk x hx=>by
   obtain⟨T,rfl,hk,hl,hT⟩:=hx;cases k with
   |zero=>
    left;exact⟨(((0:Nat):Int)-1,T),by simp[V7],T,rfl,hl,λj hj=>hT j J hj⟩
   |succ i=>
    right;have hi1:((i+1:Nat):Int)-1=(i:Int):=J
    have hd:decide ((i:Int)>=0)=true:=by rw[AAj];omega
    have i3:ON T (i:Int)=true:=O6 J;have i4:ON (T.set i (List.replicate (2 ^ m) 0)) (i:Int)=true:=O6 ADY;have e4:(T.set i (List.replicate (2 ^ m) 0))[i]?=some (List.replicate (2 ^ m) 0):=by rw[List.getElem?_set_self J]
    have hs:=lF hc (i:=i) J T J (hT (i+1) J J) (List.replicate (2 ^ m) 0) AAA ((i:Int),T) rfl n hn;have hw:O5 ((i:Int)-1)=(i:Int)-1:=PA J J;refine⟨((i:Int)-1,T.set i (Nq (PJ a0) m i)),i,?_,⟨T.set i (Nq (PJ a0) m i),rfl,J,by simp[hl],λj h1 h2=>?_⟩,J⟩
    ·rw[hi1];simp only[V7,hd,ABQ,hd0,hsh,hg1,hg2,decide_true,AB7,ACC,i3,ABT,Pz,i4,e4,ABP,hs,hw]
    grind)
  n a0.length ((a0.length:Int)-1,(List.replicate (a0.length+1) ([]:By)).set a0.length (List.replicate (2 ^ m) 0)) ⟨_,rfl,AAh _,AAA,λj h1 h2=>by
   have:j=a0.length:=J
   subst this;rw[List.getElem?_set_self AAA];refine congrArg some (ABt λs=>?_);by_cases hs:s<2 ^ m
   ·rw[Xi hs,ACW,AAS hs,List.drop_of_length_le (by simp[PJ])];rfl
   ·rw[List.getElem?_eq_none No,List.getElem?_eq_none (by rw[Xj];omega)]⟩ ADU
 refine⟨T,?_,hz2,hz3⟩;have hw:O5 ((a0.length:Int)-1)=(a0.length:Int)-1:=PA J J;unfold Yp;rw[hcol,ABP,e0,g0,hd0,hsh];simp only[hg1,hg2,decide_true,AB7,ACC,ABQ,ABT,iN,Pz,hw,hz,hz1,ABP]
theorem bX{a0:List By}{m:Nat}(hc:CM a0 m)(n:Nat)(hn:PE<=n):Wu n a0=some true:=by
 have hm10:=hc.m10;have hnm:=hc.nm
 have h1:=RZ (UP n a0) a0 (λ_=>true) (λi x hi hx=>by
  obtain⟨_,rfl⟩:=AAO.1 hx;have hl:=hc.row _ (ABR hi);have h0:0<a0.length:=J
  have hl0:=hc.row _ (ABR h0)
  have h2:=RZ (UQ a0[i]) a0[i] (λ_=>true) (λk y hk hy=>by
   obtain⟨_,rfl⟩:=AAO.1 hy;have hb:=hc.Mc _ (ABR hi) _ (ABR hk);have hd:decide ((k:Int)<(a0[i].length:Int))=true:=by rw[AAj];omega
   have zg:PU a0[i][k] 0 100000=some true:=by unfold PU;rw[show decide (a0[i][k]>=0)=true from ABV hb.1,show decide (a0[i][k]<=100000)=true from ABV hb.2];rfl
   simp only[UQ,hd,ABQ,O3 hk,ABP,zg,ABX,ABS,O1 hk J]) (by
   have hd:decide ((a0[i].length:Int)<(a0[i].length:Int))=false:=AAA
   simp only[UQ,hd,ABS]) n ADU
  have hd:decide ((i:Int)<(a0.length:Int))=true:=by rw[AAj];omega
  have hall:a0[i].all (λ_=>true)=true:=AAA
  rw[hall,ABQ]at h2
  have zg:PU (m:Int) (a0.length:Int) 10=some true:=by unfold PU;rw[show decide ((m:Int)>=(a0.length:Int))=true by rw[AAj];omega,show decide ((m:Int)<=10)=true by rw[AAj];omega];rfl
  have hg0:Iv a0 0=some a0[0]:=O3 h0;have zp:((m:Int) != (m:Int))=false:=AAA
  simp only[UP,hd,ABQ,O3 hi,hg0,ABP,hl0,hl,zp,ABS,zg,ABX,h2,O1 hi J]
  ) (by
  have hd:decide ((a0.length:Int)<(a0.length:Int))=false:=AAA
  simp only[UP,hd,ABS]) n ADU
 have hall:a0.all (λ_=>true)=true:=AAA
 rw[hall,ABQ]at h1;unfold Wu;grind
theorem cG{a0:List By}{m:Nat}(hc:CM a0 m)(n:Nat)(hn:PE<=n):W8 n a0=some true:=by
 have hm10:=hc.m10;have hnm:=hc.nm
 have h1:=RZ (UX n a0) a0 (λ_=>true) (λi x hi hx=>by
  obtain⟨_,rfl⟩:=AAO.1 hx;have hl:=hc.row _ (ABR hi);have h0:0<a0.length:=J
  have hl0:=hc.row _ (ABR h0)
  have h2:=RZ (UY a0 (i:Int)) a0[i] (λ_=>true) (λk y hk hy=>by
   obtain⟨_,rfl⟩:=AAO.1 hy;have hb:=hc.Mc _ (ABR hi) _ (ABR hk);have hd:decide ((k:Int)<(a0[i].length:Int))=true:=by rw[AAj];omega
   have zg:PK a0[i][k] 0 100000=some true:=by rw[QO];unfold P5;rw[ABV hb.1,ABV hb.2];rfl
   simp only[UY,hd,ABQ,O3 hi,O3 hk,ABP,zg,ABX,ABS,O1 hk J]) (by
   have hd:decide ((a0[i].length:Int)<(a0[i].length:Int))=false:=AAA
   simp only[UY,O3 hi,ABP,hd,ABS]) n ADU
  have hd:decide ((i:Int)<(a0.length:Int))=true:=by rw[AAj];omega
  have hall:a0[i].all (λ_=>true)=true:=AAA
  rw[hall,ABQ]at h2;have hg0:Iv a0 0=some a0[0]:=O3 h0;have zp:((m:Int) != (m:Int))=false:=AAA
  have h10:decide ((m:Int)>10)=false:=by rw[AAr];omega
  have zj:decide ((m:Int)<(a0.length:Int))=false:=by rw[AAr];omega
  simp only[UX,hd,ABQ,O3 hi,hg0,ABP,hl0,hl,zp,h10,zj,ABS,h2,O1 hi J]
  ) (by
  have hd:decide ((a0.length:Int)<(a0.length:Int))=false:=AAA
  simp only[UX,hd,ABS]) n ADU
 have hall:a0.all (λ_=>true)=true:=AAA
 rw[hall,ABQ]at h1;unfold W8;grind
theorem kh{m s k:Nat}{p:Nat->Bool}(h:(bO m s).find? p=some k):∀j,j<k->s.testBit j=false->p j=false:=by unfold bO at h;rw[List.find?_filter,List.find?_range_eq_some]at h;grind
def O7(l:It):By:=l.map λk:Nat=>(k:Int)
theorem Z2{a0:List By}{m:Nat}(hc:CM a0 m)(h0:a0=[]->m=0)(n:Nat)(hn:PE<=n):∃s,XX n a0=some (O7 (pk (PJ a0) (List.range m)),s)/\Yf (PJ a0) (List.range m)=some s:=by
 have hm10:=hc.m10;have hnm:=hc.nm;have hp:=jB hm10;have rb:=hc.rb;have hR:(PJ a0).length=a0.length:=by simp[PJ]
 obtain⟨T,t1,t2,t3⟩:=gE hc h0 n hn;have hS0:bO m 0=List.range m:=by unfold bO;simp
 obtain⟨z,⟨s',hz1⟩,hz⟩:=Tl (f:=V1 n a0 T)
  (λk x=>∃(i s:Nat) (out:By),x=(out,(s:Int),(i:Int))/\i+k=a0.length/\s<2 ^ m/\a0.length-i<=(bO m s).length/\out++O7 (pk ((PJ a0).drop i) (bO m s))=O7 (pk (PJ a0) (List.range m))/\out.length=i)
  (λz=>∃s:Int,z=(O7 (pk (PJ a0) (List.range m)),s,(a0.length:Int)))
  (λk x hx=>by
   obtain⟨i,s,out,rfl,hk,hs,hl,hout,hol⟩:=hx;by_cases hi:i=a0.length
   ·left;subst hi;have hd:decide ((a0.length:Int)<(a0.length:Int))=false:=AAA
    refine⟨(out,(s:Int),(a0.length:Int)),by simp only[V1,hd,ABS],(s:Int),?_⟩;rw[List.drop_of_length_le J]at hout;simp only[pk,O7,List.map_nil,ABf]at hout;rw[hout];rfl
   ·right;have hi':i<a0.length:=J
    have hd:decide ((i:Int)<(a0.length:Int))=true:=by rw[AAj];omega
    have hrl:=hc.row _ (ABR hi')
    have hdrop:(PJ a0).drop i=ga a0[i]::(PJ a0).drop (i+1):=by rw[ABi J];congr 1;exact ABh ..
    obtain⟨x,hx⟩:=kZ ((PJ a0).drop i) (bO m s) (ni m s) No;have hx':=hx;rw[hdrop]at hx';obtain⟨q,hq,hf,y,hy,hxy⟩:=iy hx';obtain⟨qm,qb⟩:=iQ.1 hq;have hcont:=kh hf;have hw3:O5 ((i:Int)+1)=((i+1:Nat):Int):=O1 hi' J;have i1:ON T ((i+1:Nat):Int)=true:=O6 J;have e1:=t3 (i+1) J;have i2:ON T (i:Int)=true:=O6 J;have e2:=t3 i J;have i3:ON (Nq (PJ a0) m i) (s:Int)=true:=O6 (by rw[Xj];exact hs);have e3:=Xi (R:=PJ a0) (i:=i) hs;rw[hx]at e3;have bit:∀k,k<m->(N3 .i64 (Nt .i64 (s:Int) (k:Int)) 1==1)=s.testBit k:=λk hk=>rW J J
    have pow:∀k,k<m->Ns .i64 1 (k:Int)=((2 ^ k:Nat):Int)/\Om .i64 (s:Int) ((2 ^ k:Nat):Int)=((s ||| 2 ^ k:Nat):Int):=λk hk=>by have hk10:2 ^ k<1024:=AA6 (Nat.pow_lt_pow_right J hk) hp;exact⟨rI J,xY J hk10⟩
    have zg:iter n (Rm T (out,(s:Int),(i:Int)) a0[i]) (out,(s:Int),0)=some (out++[(q:Int)],((s ||| 2 ^ q:Nat):Int),(q:Int)):=by
     have common:∀k,k<m->s.testBit k=false->∀v,Yf ((PJ a0).drop (i+1)) (bO m (s ||| 2 ^ k))=some v->0<=ga a0[i] k+v/\ga a0[i] k+v<=2000000/\0<=v:=λk hk hb v hv=>by have:=rb.val hv;have:=rb.b (ga a0[i]) (ACQ (ABR hi')) k hk;omega
     have:=Pa (Rm T (out,(s:Int),(i:Int)) a0[i]) (λk=>(out,(s:Int),(k:Int))) q (out++[(q:Int)],((s ||| 2 ^ q:Nat):Int),(q:Int)) (λk hk=>by
      have hkm:k<m:=J
      have hdk:decide ((k:Int)<(a0[i].length:Int))=true:=by rw[AAj];omega
      have hd0:decide (0<=(k:Int))=true:=by rw[AAj];omega
      have hb:=bit k hkm;obtain⟨p1,p2⟩:=pow k hkm;have hwk:O5 ((k:Int)+1)=((k+1:Nat):Int):=O1 hkm J;cases hbt:s.testBit k with
      |true=>
       rw[hbt]at hb;simp only[Rm,hdk,hd0,ABQ,hb,ABP,hwk]
      |false=>
       rw[hbt]at hb;have zj:=iP hs hkm;have i4:ON (Nq (PJ a0) m (i+1)) ((s ||| 2 ^ k:Nat):Int)=true:=O6 (by rw[Xj];exact zj);have e4:=Xi (R:=PJ a0) (i:=i+1) zj;have e5:Iv a0[i] (k:Int)=some (ga a0[i] k):=by rw[RC];exact TA J
       have hpk:=hcont k hk hbt;rw[XP hbt]at hpk;cases hB:Yf ((PJ a0).drop (i+1)) (bO m (s ||| 2 ^ k))with
       |none=>
        rw[hB]at e4;have hneg:decide (Ta none<0)=true:=by simp[Ta]
        simp only[Rm,hdk,hd0,ABQ,ABS,hb,ABP,hwk,hw3,i1,e1,p1,p2,ABT,i4,e4,hneg]
       |some v=>
        rw[hB]at e4 hpk;obtain⟨v1,v2,v3⟩:=common k hkm hbt v hB;have hneg:decide (Ta (some v)<0)=false:=ABZ (show ¬v<0 by omega);have hww:O5 (ga a0[i] k+Ta (some v))=ga a0[i] k+v:=PA (n:=ga a0[i] k+v) J J;rw[hx']at hpk
        have hneq:(ga a0[i] k+v != Ta (some x))=true:=by
         have:ga a0[i] k+v≠x:=λe=>No
         simp only[Ta,AB5];exact this
        simp only[Rm,hdk,hd0,ABQ,ABS,hb,ABP,hwk,hw3,i1,e1,p1,p2,ABT,i4,e4,hneg,e5,hww,i2,e2,i3,e3,hneq]) (by
      have hdk:decide ((q:Int)<(a0[i].length:Int))=true:=by rw[AAj];omega
      have hd0:decide (0<=(q:Int))=true:=by rw[AAj];omega
      have hb:=bit q qm;rw[qb]at hb;obtain⟨p1,p2⟩:=pow q qm;have zj:=iP hs qm;have i4:ON (Nq (PJ a0) m (i+1)) ((s ||| 2 ^ q:Nat):Int)=true:=O6 (by rw[Xj];exact zj);have e4:=Xi (R:=PJ a0) (i:=i+1) zj;have e5:Iv a0[i] (q:Int)=some (ga a0[i] q):=by rw[RC];exact TA J
      rw[XP qb]at hy;rw[hy]at e4;obtain⟨v1,v2,v3⟩:=common q qm qb y hy;have hneg:decide (Ta (some y)<0)=false:=ABZ (show ¬y<0 by omega);have hww:O5 (ga a0[i] q+Ta (some y))=ga a0[i] q+y:=PA (n:=ga a0[i] q+y) J J
      have hneq:(ga a0[i] q+y != Ta (some x))=false:=by simp only[Ta,bne_eq_false_iff_eq];exact hxy.symm
      have zo:decide (out.length+[(q:Int)].length<=E7)=true:=Rr J;simp only[Rm,hdk,hd0,ABQ,ABS,hb,ABP,hw3,i1,e1,p1,p2,ABT,i4,e4,hneg,e5,hww,i2,e2,i3,e3,hneq,zo]) n ADU
     simpa using this
    have hpk:pk ((PJ a0).drop i) (bO m s)=q::pk ((PJ a0).drop (i+1)) (bO m (s ||| 2 ^ q)):=by rw[hdrop];simp only[pk,hf];rw[XP qb]
    refine⟨(out++[(q:Int)],((s ||| 2 ^ q:Nat):Int),((i+1:Nat):Int)),k-1,?_,⟨i+1,s ||| 2 ^ q,out++[(q:Int)],rfl,J,iP hs qm,?_,?_,by simp[hol]⟩,J⟩
    ·simp only[V1,hd,ABQ,O3 hi',ABP,zg,hw3]
    ·rw[<-XP qb,List.length_erase_of_mem hq];omega
    ·rw[<-hout,hpk];simp[O7])
  n a0.length (([]:By),0,0) ⟨0,0,[],rfl,J,Nat.pow_pos J,No,by rw[hS0];rfl,rfl⟩ ADU
 obtain⟨x,hx⟩:=kZ (PJ a0) (List.range m) AB2 No;refine⟨x,?_,hx⟩;have i1:ON T 0=true:=O6 (show 0<T.length by omega);have e1:=t3 0 J;have i2:ON (Nq (PJ a0) m 0) 0=true:=O6 (show 0<_ by rw[Xj];grind);have e2:=Xi (R:=PJ a0) (m:=m) (i:=0) (s:=0) (Nat.pow_pos J);rw[hS0,List.drop_zero,hx]at e2;unfold XX;rw[bX hc n hn];simp only[ABP,ABX,ABS,t1,hz,hz1,i1,e1,ABQ,ACT,i2,e2,Ta]
theorem bS{S:It}(h:S.Nodup){j:Nat}(hj:j<S.length):S.erase S[j]=S.eraseIdx j:=by
 have hs:S=S.take j++S[j]::S.drop (j+1):=by rw[<-ABi hj,ACD]
 grind
theorem eu{S:It}(h:S.Nodup){i j:Nat}(hi:i<S.length)(hj:j<S.length)(e:S[i]=S[j]):i=j:=by
 rcases ABe i j with h1|h1|h1
 ·exact absurd e (ABM.1 h i j hi hj h1)
 ·exact h1
 ·exact absurd e.symm (ABM.1 h j i hj hi h1)
theorem mU(g:Nat->Nat){S:It}(hn:S.Nodup)(hg:∀a∈S,∀b∈S,g a=g b->a=b){k:Nat}(hk:k∈S):(S.map g).erase (g k)=(S.erase k).map g:=by
 have hm:(S.map g).Nodup:=by unfold List.Nodup;rw[ABk];exact AB6 (fun {a b} ha hb hab e=>hab (hg a ha b hb e)) hn
 rw[hm.erase_eq_filter,hn.erase_eq_filter,List.filter_map];congr 1;refine List.filter_congr λx hx=>?_;grind
theorem AS.rename(g:Nat->Nat):∀(R:List (Nat->Int)) (S:It) (x:Int),S.Nodup->(∀a∈S,∀b∈S,g a=g b->a=b)->(AS (R.map λr k=>r (g k)) S x↔AS R (S.map g) x)
 | [],S,x,_,_=>Iff.rfl
 |r::R,S,x,hn,hg=>by
  have ih:∀k∈S,∀y,AS (R.map λr k=>r (g k)) (S.erase k) y↔AS R ((S.map g).erase (g k)) y:=λk hk y=>by rw[mU g hn hg hk];exact AS.rename g R (S.erase k) y (hn.erase k) (λa ha b hb=>hg a (ABs ha) b (ABs hb))
  refine⟨λ⟨k,hk,y,hy,e⟩=>⟨g k,ACQ hk,y,(ih k hk y).1 hy,e⟩,λ⟨q,hq,y,hy,e⟩=>?_⟩;obtain⟨k,hk,rfl⟩:=AAw.1 hq;exact⟨k,hk,y,(ih k hk y).2 hy,e⟩
theorem AS.qc:∀(R R2:List (Nat->Int)) (S:It) (x:Int),R.length=R2.length->(∀i (h1:i<R.length) (h2:i<R2.length),∀k∈S,R[i] k=R2[i] k)->AS R S x->AS R2 S x
 | [],[],S,x,_,_,h=>h
 | [],r::R2,S,x,hl,_,_=>ADo
 |r::R,[],S,x,hl,_,_=>ADo
 |r::R,r2::R2,S,x,hl,hc,⟨k,hk,y,hy,e⟩=>by have h0:=hc 0 AAA AAA k hk;simp only[AB9]at h0;refine⟨k,hk,y,AS.qc R R2 (S.erase k) y No (λi h1 h2 q hq=>?_) hy,by rw[e,h0]⟩;have:=hc (i+1) ADY ADY q (ABs hq);simpa only[List.getElem_cons_succ]using this
def RL(rows:List By)(S:It):List By:=rows.map λr=>S.map (ga r)
theorem mD(rows:List By){S:It}(hn:S.Nodup)(x:Int):AS (PJ (RL rows S)) (List.range S.length) x↔AS (PJ rows) S x:=by
 have hS:(List.range S.length).map (λk=>S.getD k 0)=S:=by apply AB0 AAA;intro i h1 h2;simp[AAM h2]
 have e:AS ((PJ rows).map λ(r:Nat->Int) k=>r (S.getD k 0)) (List.range S.length) x↔AS (PJ rows) S x:=by
  have:=AS.rename (λk=>S.getD k 0) (PJ rows) (List.range S.length) x AB2 (λa ha b hb h=>by
   rw[AAb]at ha hb;simp only[List.getD,AAM ha,AAM hb,ABA]at h;exact eu hn ha hb h)
  rw[hS]at this;exact this
 have same:∀i (h1:i<(PJ (RL rows S)).length) (h2:i<((PJ rows).map λ(r:Nat->Int) k=>r (S.getD k 0)).length),∀k∈List.range S.length,(PJ (RL rows S))[i] k=((PJ rows).map λ(r:Nat->Int) k=>r (S.getD k 0))[i] k:=λi h1 h2 k hk=>by
  rw[AAb]at hk;have hi:i<rows.length:=by simpa[PJ,RL]using h1
  have e1:(PJ (RL rows S))[i]=ga (S.map (ga rows[i])):=by simp[PJ,RL]
  have e2:((PJ rows).map λ(r:Nat->Int) k=>r (S.getD k 0))[i]=λk=>ga rows[i] (S.getD k 0):=by simp[PJ]
  rw[e1,e2];show ga (S.map (ga rows[i])) k=ga rows[i] (S.getD k 0);rw[List.getD,AAM hk,ABA];generalize ga rows[i]=f;unfold ga;grind
 have hl:(PJ (RL rows S)).length=((PJ rows).map λ(r:Nat->Int) k=>r (S.getD k 0)).length:=by simp[PJ,RL]
 exact⟨λh=>e.1 (AS.qc _ _ _ x hl same h),λh=>AS.qc _ _ _ x hl.symm (λi h1 h2 k hk=>(same i h2 h1 k hk).symm) (e.2 h)⟩
theorem pn{a0:List By}{m:Nat}(hc:CM a0 m)(i:Nat){S:It}(hs:∀k∈S,k<m)(hl:a0.length-i<=S.length)(h10:S.length<=10):CM (RL (a0.drop i) S) S.length:=by
 refine⟨λr hr=>?_,by simp[RL];omega,h10,λr hr x hx=>?_⟩
 ·obtain⟨q,_,rfl⟩:=AAw.1 hr;simp
 ·obtain⟨q,hq,rfl⟩:=AAw.1 hr;obtain⟨k,hk,rfl⟩:=AAw.1 hx;have hq2:=ACG hq;have:=hc.row q hq2;have hg:q[k]?=some (ga q k):=TA No;exact hc.Mc q hq2 _ (AAR hg)
theorem Yc{α:Type}(x:List α)(j:Nat):sub x 0 j=x.take j:=by simp[sub]
theorem bH{α:Type}(x:List α)(j:Nat):sub x j x.length=x.drop j:=by unfold sub;exact ABx AAA
theorem bD(rows:List By){S:It}(hl:rows.length<=10)(h10:S.length<=10){j:Nat}(hj:j<S.length)(n:Nat)(hn:PE<=n):SH n (RL rows S) (j:Int)=some (RL (rows.drop 1) (S.eraseIdx j)):=by
 have hL:(RL rows S).length=rows.length:=by simp[RL]
 by_cases h0:rows.length=0
 ·have:rows=[]:=AAU h0;subst this;obtain⟨k,rfl⟩:∃k,n=k+1:=⟨n-1,ADU⟩;unfold SH;rw[Po (z:=(([]:List By),(1:Int))) (by simp[Rh,RL])];rfl
 have hw:O5 ((j:Int)+1)=((j+1:Nat):Int):=O1 hj J
 have:=Pa (Rh (RL rows S) (j:Int)) (λi=>((RL (rows.drop 1) (S.eraseIdx j)).take i,((i+1:Nat):Int))) (rows.length-1) (RL (rows.drop 1) (S.eraseIdx j),(rows.length:Int)) (λi hi=>by
  have hi1:i+1<(RL rows S).length:=by rw[hL];omega
  have hd:decide (((i+1:Nat):Int)<((RL rows S).length:Int))=true:=by rw[AAj];omega
  have hg:Iv (RL rows S) ((i+1:Nat):Int)=some (S.map (ga (rows[i+1]'(by omega)))):=by rw[O3 hi1];simp[RL]
  generalize hr:rows[i+1]'(by omega)=r at hg;have hlen:(S.map (ga r)).length=S.length:=AAA
  have c1:decide (0<=(0:Int))=true:=rfl;have c2:decide ((0:Int)<=(j:Int))=true:=by rw[AAj];omega
  have c3:decide ((j:Int)<=((S.map (ga r)).length:Int))=true:=by rw[AAj,hlen];omega
  have c4:decide ((0:Int)<=((j+1:Nat):Int))=true:=by rw[AAj];omega
  have c5:decide (((j+1:Nat):Int)<=((S.map (ga r)).length:Int))=true:=by rw[AAj,hlen];omega
  have c6:decide (((S.map (ga r)).length:Int)<=((S.map (ga r)).length:Int))=true:=AAA
  have c7:decide (([]:By).length+(sub (S.map (ga r)) 0 j).length<=E7)=true:=by rw[Yc,AAj];simp[E7];omega
  have c8:decide ((([]:By)++sub (S.map (ga r)) 0 j).length+(sub (S.map (ga r)) (j+1) (S.map (ga r)).length).length<=E7)=true:=by rw[Yc,bH,AAj];simp[E7];omega
  have c9:∀q:By,decide (((RL (rows.drop 1) (S.eraseIdx j)).take i).length+[q].length<=E7)=true:=λq=>by rw[AAj];simp[E7,RL];omega
  have hw2:O5 (((i+1:Nat):Int)+1)=((i+1+1:Nat):Int):=O1 (show i+1<rows.length by omega) J
  have hval:([]:By)++sub (S.map (ga r)) 0 j++sub (S.map (ga r)) (j+1) (S.map (ga r)).length=(S.eraseIdx j).map (ga r):=by rw[Yc,bH,AA1,List.eraseIdx_eq_take_drop_succ,List.map_append,List.map_take,List.map_drop]
  simp only[Rh,hd,ABQ,hg,ABP,c1,c2,c3,hw,c4,c5,c6,ACC,ACT,ABT,c7,c8,c9,hw2,hval];congr 4;have hi2:i<(RL (rows.drop 1) (S.eraseIdx j)).length:=by simp[RL];omega
  rw[ABc hi2];congr 2;simp only[RL,ABh,List.getElem_drop];rw[<-hr];congr 3;omega) (by
  have hd:decide (((rows.length-1+1:Nat):Int)<((RL rows S).length:Int))=false:=by rw[AAr,hL];omega
  simp only[Rh,hd,ABS];rw[ABx (by simp[RL]),show rows.length-1+1=rows.length by omega]) n ADU
 unfold SH;grind
theorem WD{a0:List By}{m:Nat}(hc:CM a0 m)(h0:a0=[]->m=0)(n:Nat)(hn:PE<=n):∃s,Vt n a0=some (O7 (pk (PJ a0) (List.range m)),s)/\Yf (PJ a0) (List.range m)=some s:=by
 have hm10:=hc.m10;have hnm:=hc.nm;have rb:=hc.rb;have hR:(PJ a0).length=a0.length:=by simp[PJ]
 obtain⟨s0,hs0,hL0⟩:=eZ hc n hn;have hb0:=lY hL0
 have hnames:iter n (UE a0) (([]:By),0)=some (O7 (List.range m),(m:Int)):=by
  have:=Pa (UE a0) (λi=>(O7 (List.range i),(i:Int))) m (O7 (List.range m),(m:Int)) (λi hi=>by
   have hl:0<a0.length:=by
    rcases Nat.eq_zero_or_pos a0.length with e|e
    ·have:=h0 (AAU e);omega
    ·exact e
   have hd:decide ((a0.length:Int)>0)=true:=by rw[AAj];omega
   have hg:Iv a0 0=some a0[0]:=O3 hl;have hd2:decide ((i:Int)<(a0[0].length:Int))=true:=by rw[AAj,hc.row _ (ABR hl)];omega
   have hr:decide ((O7 (List.range i)).length+[(i:Int)].length<=E7)=true:=Rr (by simp[O7];omega);simp only[UE,hd,ABQ,hg,ABP,hd2,hr,O1 hi J];congr 3;simp[O7,AB1]) (by
   by_cases e:a0=[]
   ·subst e;rw[h0 rfl];rfl
   ·have hl:0<a0.length:=List.length_pos_iff.2 e;have hd:decide ((a0.length:Int)>0)=true:=by rw[AAj];omega
    have hg:Iv a0 0=some a0[0]:=O3 hl;have hd2:decide ((m:Int)<(a0[0].length:Int))=false:=by rw[AAr,hc.row _ (ABR hl)];omega
    simp only[UE,hd,ABQ,hg,ABP,hd2,ABS]) n ADU
  simpa[O7]using this
 obtain⟨z,hz1,hz⟩:=Tl (f:=WC n)
  (λk x=>∃(i:Nat) (S:It) (out:By) (left:Int),x=(out,left,RL (a0.drop i) S,O7 S)/\i+k=a0.length/\S.Nodup/\(∀k∈S,k<m)/\a0.length-i<=S.length/\S.length<=10/\Yf ((PJ a0).drop i) S=some left/\out++O7 (pk ((PJ a0).drop i) S)=O7 (pk (PJ a0) (List.range m))/\out.length=i)
  (λz=>z.1=O7 (pk (PJ a0) (List.range m)))
  (λk x hx=>by
   obtain⟨i,S,out,left,rfl,hk,hnd,hsm,hl,h10,hb,hout,hol⟩:=hx;have hLen:(RL (a0.drop i) S).length=a0.length-i:=by simp[RL]
   by_cases hi:i=a0.length
   ·left;subst hi;have hd:decide (((RL (a0.drop a0.length) S).length:Int)>0)=false:=by rw[AAr,hLen];omega
    refine⟨(out,left,RL (a0.drop a0.length) S,O7 S),by simp only[WC,hd,ABS],?_⟩;rw[List.drop_of_length_le (by rw[hR];exact AAh _)]at hout;simpa only[pk,O7,List.map_nil,ABf]using hout
   ·right;have hi':i<a0.length:=J
    have hd:decide (((RL (a0.drop i) S).length:Int)>0)=true:=by rw[AAj,hLen];omega
    have hdrop:(PJ a0).drop i=ga a0[i]::(PJ a0).drop (i+1):=by rw[ABi J];congr 1;exact ABh ..
    have zr:=hb;rw[hdrop]at zr;obtain⟨q,hq,hf,y,hy,hxy⟩:=iy zr;obtain⟨hpq,pre,bs,hSab,hfail⟩:=List.find?_eq_some_iff_append.1 hf;have hj:pre.length<S.length:=by rw[hSab];simp
    have hSj:S[pre.length]=q:=by simp[hSab]
    have hg0:Iv (RL (a0.drop i) S) 0=some (S.map (ga a0[i])):=by rw[show(0:Int)=((0:Nat):Int)from rfl,O3 (by rw[hLen];omega)];simp[RL]
    have hRd:∀i,PJ (a0.drop i)=(PJ a0).drop i:=λi=>by simp[PJ,List.map_drop]
    have lst:∀j (hj:j<S.length),∃v,SV n (RL (a0.drop (i+1)) (S.eraseIdx j))=some v/\Yf ((PJ a0).drop (i+1)) (S.erase S[j])=some v/\0<=v/\v<=1000000:=λj hj=>by
     have hnd2:(S.eraseIdx j).Nodup:=hnd.sublist (List.eraseIdx_sublist ..);have hel:(S.eraseIdx j).length=S.length-1:=by rw[List.length_eraseIdx,AAS hj]
     have hsm2:∀k∈S.eraseIdx j,k<m:=λk hk=>hsm k (List.mem_of_mem_eraseIdx hk);obtain⟨v,v1,v2⟩:=eZ (pn hc (i+1) hsm2 J J) n hn
     have v3:qW ((PJ a0).drop (i+1)) (S.erase S[j]) v:=by rw[bS hnd hj,<-hRd];exact⟨(mD _ hnd2 v).1 v2.1,λy hy=>v2.2 y ((mD _ hnd2 y).2 hy)⟩
     have v4:=lY v3;refine⟨v,v1,v4,dx v4 (λr hr k hk=>(rb.b r (ACG hr) k (hsm k (ABs hk))).1),?_⟩;have:=nr v4 (M:=100000) J (λr hr k hk=>(rb.b r (ACG hr) k (hsm k (ABs hk))).2);rw[List.length_drop,hR]at this;omega
    have wo:∀j,j<S.length->SH n (RL (a0.drop i) S) (j:Int)=some (RL (a0.drop (i+1)) (S.eraseIdx j)):=λj hj=>by
     rw[bD (a0.drop i) ADY h10 hj n hn,List.drop_drop]
    have cost:∀j (hj:j<S.length),Iv (S.map (ga a0[i])) (j:Int)=some (ga a0[i] S[j])/\0<=ga a0[i] S[j]/\ga a0[i] S[j]<=100000:=λj hj=>by refine⟨?_,rb.b (ga a0[i]) (ACQ (ABR hi')) _ (hsm _ (ABR hj))⟩;rw[O3 ADq];simp
    have zg:iter n (UF n) (out,left,RL (a0.drop i) S,O7 S,0)=some (out++[(q:Int)],y,RL (a0.drop (i+1)) (S.erase q),O7 (S.erase q),(pre.length:Int)):=by
     have:=Pa (UF n) (λj=>(out,left,RL (a0.drop i) S,O7 S,(j:Int))) pre.length (out++[(q:Int)],y,RL (a0.drop (i+1)) (S.erase q),O7 (S.erase q),(pre.length:Int)) (λj hja=>by
      have hjS:j<S.length:=J
      have hdj:decide ((j:Int)<((S.map (ga a0[i])).length:Int))=true:=by rw[AAj];simp;omega
      obtain⟨v,v1,v2,v3,v4⟩:=lst j hjS;obtain⟨c1,c2,c3⟩:=cost j hjS;have hww:O5 (ga a0[i] S[j]+v)=ga a0[i] S[j]+v:=PA J J
      have zp:(ga a0[i] S[j]+v==left)=false:=by
       have hmem:S[j]∈pre:=by
        have:S[j]=pre[j]:=by simp[hSab,hja]
        rw[this];exact ABR hja
       have:=hfail S[j] hmem;rw[v2,zr]at this;simpa using this
      simp only[UF,hg0,ABP,hdj,ABQ,wo j hjS,c1,v1,hww,zp,ABS,O1 hja J]) (by
      have hdj:decide ((pre.length:Int)<((S.map (ga a0[i])).length:Int))=true:=by rw[AAj];simp;omega
      obtain⟨v,v1,v2,v3,v4⟩:=lst pre.length hj;obtain⟨c1,c2,c3⟩:=cost pre.length hj;rw[hSj]at v2 c1 c2 c3;rw[hy]at v2;injection v2 with v2
      subst v2;have hww:O5 (ga a0[i] q+y)=ga a0[i] q+y:=PA J J;have he:(ga a0[i] q+y==left)=true:=by rw[<-hxy];simp
      have hcl:(O7 S).length=S.length:=by simp[O7]
      have i1:ON (O7 S) (pre.length:Int)=true:=O6 J
      have e1:(O7 S)[pre.length]?=some (q:Int):=by unfold O7;rw[AAe,AAM hj,hSj];rfl
      have r1:decide (out.length+[(q:Int)].length<=E7)=true:=Rr J;have qo:O5 ((pre.length:Int)+1)=((pre.length+1:Nat):Int):=O1 hj J;have hwl:O5 (left-ga a0[i] q)=y:=by rw[hxy,PA J J];omega
      have d1:decide (0<=(0:Int))=true:=rfl;have d2:decide ((0:Int)<=(pre.length:Int))=true:=by rw[AAj];omega
      have d3:decide ((pre.length:Int)<=((O7 S).length:Int))=true:=by rw[AAj,hcl];omega
      have d4:decide ((0:Int)<=((pre.length+1:Nat):Int))=true:=by rw[AAj];omega
      have d5:decide (((pre.length+1:Nat):Int)<=((O7 S).length:Int))=true:=by rw[AAj,hcl];omega
      have d6:decide (((O7 S).length:Int)<=((O7 S).length:Int))=true:=AAA
      have c7:decide (([]:By).length+(sub (O7 S) 0 pre.length).length<=E7)=true:=by rw[Yc,AAj];simp[E7,O7];omega
      have c8:decide ((([]:By)++sub (O7 S) 0 pre.length).length+(sub (O7 S) (pre.length+1) (O7 S).length).length<=E7)=true:=by rw[Yc,bH,AAj];simp[E7,O7];omega
      have hval:([]:By)++sub (O7 S) 0 pre.length++sub (O7 S) (pre.length+1) (O7 S).length=O7 (S.erase q):=by rw[Yc,bH,AA1,<-hSj,bS hnd hj,List.eraseIdx_eq_take_drop_succ];simp[O7]
      have hnext:S.eraseIdx pre.length=S.erase q:=by rw[<-bS hnd hj,hSj]
      simp only[UF,hg0,ABP,hdj,ABQ,wo pre.length hj,c1,v1,hww,he,i1,e1,r1,d1,d2,d3,d4,d5,d6,qo,hwl,ACC,ACT,ABT,c7,c8,hval];rw[hnext]) n ADU
     simpa using this
    have hpk:pk ((PJ a0).drop i) S=q::pk ((PJ a0).drop (i+1)) (S.erase q):=by rw[hdrop];simp only[pk,hf]
    have hel:(S.erase q).length=S.length-1:=List.length_erase_of_mem hq;refine⟨(out++[(q:Int)],y,RL (a0.drop (i+1)) (S.erase q),O7 (S.erase q)),k-1,?_,⟨i+1,S.erase q,out++[(q:Int)],y,rfl,J,hnd.erase q,λk hk=>hsm k (ABs hk),J,J,hy,?_,by simp[hol]⟩,J⟩
    ·simp only[WC,hd,ABQ,zg,ABP]
    ·rw[<-hout,hpk];simp[O7])
  n a0.length (([]:By),s0,a0,O7 (List.range m)) ⟨0,List.range m,[],s0,by
   congr 3;rw[List.drop_zero];unfold RL;apply AB0 AAA;intro r h1 h2;rw[ABh];have hl:=hc.row _ (ABR h1);apply AB0 (by simp[hl]);intro k k1 k2;rw[ABh,List.getElem_range];unfold ga;rw[List.getD,AAM k1,ABA],J,AB2,λk hk=>AAb.1 hk,ADY,ADY,hb0,rfl,rfl⟩ ADU
 refine⟨s0,?_,hb0⟩;unfold Vt;rw[cG hc n hn];grind
theorem Yg{β:Type}(L:List β×Int->Option ((List β×Int)⊕(List β×Int)))(f:Nat->β)(m:Nat)
  (hL:∀i,i<m->L ((List.range i).map f,(i:Int))=some (.inl ((List.range i).map f++[f i],((i+1:Nat):Int)))) (he:L ((List.range m).map f,(m:Int))=some (.inr ((List.range m).map f,(m:Int)))) (n:Nat) (hn:m<n):
  iter n L ([],0)=some ((List.range m).map f,(m:Int)):=by
 have:=Pa L (λi=>((List.range i).map f,(i:Int))) m ((List.range m).map f,(m:Int)) (λi hi=>by
  rw[hL i hi,AB1,List.map_append];rfl) he n hn
 grind
def T3(w h:Int)(c:By)(a b:Int):Int:=(TO PE w h c a b).getD (-1)
theorem bG{w h:Int}{c:By}(hc:c.length<=1048576)(hf:PW w h c=true)(a b:Int)(n:Nat)(hn:PE<=n):
  TO n w h c a b=some (T3 w h c a b)/\TF n w h c a b=some (T3 w h c a b) /\ -1<=T3 w h c a b/\T3 w h c a b<100:=by
 have f:=Tz hf;have hN:=f.le
 have hcell:∀(n:Nat),PE<=n->∀i,TS n w h c i=some (P5 i 0 ((c.length:Int)-1)):=λn hn i=>by unfold TS;rw[Pr w h c hc n hn,hf,show O5 ((c.length:Int)-1)=(c.length:Int)-1 from PA ADS ADS];simp only[ABP,ABQ,QO]
 have hic:∀i,TH w h c i=some (P5 i 0 ((c.length:Int)-1)):=λi=>by unfold TH;rw[show O5 ((c.length:Int)-1)=(c.length:Int)-1 from PA ADS ADS];simp only[ABP,eR];rfl
 have key:∃s, -1<=s/\s<100/\∀n,PE<=n->TO n w h c a b=some s/\TF n w h c a b=some s:=by
  cases hb:QN c b with
  |false=>
   refine⟨-1,J,J,λn hn=>⟨?_,?_⟩⟩
   ·unfold TO Xl;rw[hcell n hn b];cases hi:P5 b 0 ((c.length:Int)-1)with
    |false=>rfl
    |true=>
     obtain⟨m,rfl,hm⟩:=ZS hi;unfold QN at hb;rw[hi,ABw]at hb;have hg:(c[m]==0)=true:=by simpa[hm]using hb
     simp only[ABP,ABX,ABS,O3 hm,hg,ABQ];rfl
   ·obtain⟨k,k1,k2⟩:=TD w h c hc hf b n hn;rw[hb]at k2;have k3:(k==0)=true:=by simpa using k2
    unfold TF;rw[k1];simp only[ABP,k3,ABQ]
  |true=>
   have hbr:0<=b/\b<(c.length:Int):=by unfold QN P5 at hb;simp only[AAN,AAj]at hb;omega
   have hib:P5 b 0 ((c.length:Int)-1)=true:=by unfold P5;simp only[AAN,AAj];omega
   obtain⟨m,rfl,hm⟩:=ZS hib
   have hg:(c[m]==0)=false:=by unfold QN at hb;rw[hib,ABw]at hb;simpa[hm]using hb
   obtain⟨F,hF,hl,hbd⟩:=jc f hbr false;have zp:((F.length:Int)==0)=false:=by simp;intro e;rw[e]at hl;simp at hl;omega
   have hsf:∀n,PE<=n->Xl n w h c (m:Int) false=some F:=λn hn=>by unfold Xl;simp only[hcell n hn,hib,ABP,ABX,ABS,O3 hm,hg,(hF n hn).1]
   have hkk:∀n,PE<=n->∃k,Q5 n w h c (m:Int)=some k/\(k==0)=false:=λn hn=>by obtain⟨k,k1,k2⟩:=TD w h c hc hf (m:Int) n hn;rw[hb]at k2;exact⟨k,k1,by simpa using k2⟩
   cases hia:P5 a 0 ((c.length:Int)-1)with
   |false=>
    refine⟨-1,J,J,λn hn=>⟨?_,?_⟩⟩
    ·unfold TO;simp only[hsf n hn,ABP,zp,ABS,hcell n hn,hia,ABp,ABQ]
    ·obtain⟨k,k1,k2⟩:=hkk n hn;unfold TF;simp only[k1,ABP,k2,ABS,hic,hia,ABp,ABQ]
   |true=>
    obtain⟨q,rfl,hq⟩:=ZS hia;have hqF:q<F.length:=J
    have hb2:=hbd _ (ABR hqF);refine⟨F[q],hb2.1,J,λn hn=>⟨?_,?_⟩⟩
    ·unfold TO;simp only[hsf n hn,ABP,zp,ABS,hcell n hn,hia,ABX,O6 hqF,ABT,AAM hqF,ABQ]
    ·obtain⟨k,k1,k2⟩:=hkk n hn;unfold TF;simp only[k1,ABP,k2,ABS,hic,hia,ABX,(hF n hn).2,O6 hqF,ABT,AAM hqF,ABQ]
 obtain⟨s,s1,s2,s3⟩:=key;have e:T3 w h c a b=s:=by unfold T3;rw[(s3 PE (AAh _)).1];rfl
 grind
def Ra(w h:Int)(c:By)(a b:Int):Int:=if T3 w h c a b<0 then 100000 else T3 w h c a b
def Rq(a:Is)(id:Int):Int:=(QX PE a id).getD (-1)
theorem Qf(a:Is)(hl:a.length<=1048576)(id:Int)(n:Nat)(hn:PE<=n):QX n a id=some (Rq a id)/\(Rq a id = -1/\(∀p∈a,p.1≠id)\/∃i,∃h:i<a.length,Rq a id=(i:Int)/\a[i].1=id):=by
 have hs:∀(i:Nat)(x:PD),i<a.length->a[i]?=some x->Ro a id (i:Int)=some (bif x.1==id then .inr (.inr (i:Int))else .inl ((i+1:Nat):Int)):=λi x h1 h2=>by
  have hx:a[i]=x:=by rw[AAM h1]at h2;exact Option.some.inj h2
  simp only[Ro,O3 h1,hx,ABP,O1 h1 (show a.length<=9223372036854775807 by clear hn;omega)];rw[show decide ((i:Int)<(a.length:Int))=true by simpa using h1];cases hq:(x.1==id)<;>rfl
 have he:Ro a id (a.length:Int)=some (.inr (.inl (a.length:Int))):=by simp[Ro]
 have key:∃v:Int,(∀n,PE<=n->QX n a id=some v)/\(v = -1/\(∀p∈a,p.1≠id)\/∃i,∃h:i<a.length,v=(i:Int)/\a[i].1=id):=by
  cases hf:a.findIdx? λp=>p.1==id with
  |none=>
   have hno:∀p∈a,p.1≠id:=λp hp=>by have:=List.findIdx?_eq_none_iff.1 hf p hp;simpa using this
   refine⟨-1,λn hn=>?_,.inl ⟨rfl,hno⟩⟩
   have:=Pa (Ro a id) (λi=>(i:Int)) a.length (.inl (a.length:Int)) (λi hi=>by
    rw[hs i a[i] hi (AAM hi),show(a[i].1==id)=false by simpa using hno _ (ABR hi),ABS]) he n ADU
   unfold QX;rw[show((0:Nat):Int)=0 from rfl]at this;rw[this];rfl
  |some i=>
   obtain⟨hi,hp,hb⟩:=List.findIdx?_eq_some_iff_getElem.1 hf;have hp':a[i].1=id:=by simpa using hp
   refine⟨(i:Int),λn hn=>?_,.inr ⟨i,hi,rfl,hp'⟩⟩
   have:=Pa (Ro a id) (λi=>(i:Int)) i (.inr (i:Int)) (λj hj=>by
    have zr:=hb j hj;rw[hs j a[j] J (AAM J),show(a[j].1==id)=false by simpa using zr,ABS]) (by
    rw[hs i a[i] hi (AAM hi),show(a[i].1==id)=true by simpa using hp',ABQ]) n ADU
   unfold QX;rw[show((0:Nat):Int)=0 from rfl]at this;rw[this];rfl
 obtain⟨v,v1,v2⟩:=key;have e:Rq a id=v:=by unfold Rq;rw[v1 PE (AAh _)];rfl
 grind
theorem WY:SQ=QX:=rfl
abbrev PR:=Int×Int×Int×Bool×Int
abbrev ADQ:=List PR
abbrev PH:=Int×Int×Int×Int
abbrev AAL:=List PH
def eW(l:AAL)(r:PR):Bool:=r.2.2.1 == -1 && !r.2.2.2.1&&l.all λt => !(t.2.2.1==r.1)
def Qt(crew:ADQ)(l:AAL)(i:Nat):Bool:=match crew[i]? with
 |some r=>eW l r
 |none=>false
def PO(crew:ADQ)(l:AAL):It:=((List.range crew.length).filter (Qt crew l)).take 10
theorem Yl{crew:ADQ}{l:AAL}{k:Nat}(h:k∈PO crew l):∃hk:k<crew.length,eW l crew[k]=true:=by have:=ACP h;obtain⟨h1,h2⟩:=ABb.1 this;rw[AAb]at h1;refine⟨h1,?_⟩;unfold Qt at h2;grind
theorem XV(crew:ADQ)(l:AAL):(PO crew l).length<=10:=by unfold PO;grind
theorem mY(crew:ADQ)(l:AAL):(PO crew l).Nodup:=(AB2.filter _).sublist (List.take_sublist _ _)
theorem iG(xs:It)(k m:Nat):(xs++[k]).take m=if xs.length<m then xs.take m++[k]else xs.take m:=by
 by_cases h:xs.length<m
 ·rw[AAS h,ABx ADY,ABx J]
 grind
theorem jF(crew:ADQ)(hc:crew.length<=1048576)(l:AAL)(hl:l.length<=1048576)(n:Nat)(hn:PE<=n):XH n crew l=some (O7 (PO crew l)):=by
 have zg:∀(i:Nat)(hi:i<crew.length)(out:By)(b:Bool),iter n (Sj crew l (out,(i:Int))) (b,0)=some (b||l.any λt=>t.2.2.1==crew[i].1,(l.length:Int)):=λi hi out b=>by
  have:=Pa (Sj crew l (out,(i:Int))) (λk=>(b||(l.take k).any λt=>t.2.2.1==crew[i].1,(k:Int))) l.length (b||l.any λt=>t.2.2.1==crew[i].1,(l.length:Int)) (λk hk=>by
   rw[ABc hk,List.any_append];simp only[Sj,O3 hk,O3 hi,ABP,O1 hk (show l.length<=9223372036854775807 by clear hn;omega),ACV,List.any_nil,Bool.or_false];rw[show decide ((k:Int)<(l.length:Int))=true by simpa using hk];cases b<;>cases(l.take k).any (λt=>t.2.2.1==crew[i].1)<;>rfl) (by simp[Sj]) n ADU
  simpa using this
 obtain⟨z,hz1,hz⟩:=Tl (f:=Si n crew l)
  (λk x=>∃i:Nat,x=(O7 (((List.range i).filter (Qt crew l)).take 10),(i:Int))/\i+k=crew.length)
  (λz=>z.1=O7 (PO crew l)) (λk x hx=>by
   obtain⟨i,rfl,hk⟩:=hx;have hlen:(O7 (((List.range i).filter (Qt crew l)).take 10)).length=min 10 ((List.range i).filter (Qt crew l)).length:=by simp[O7]
   by_cases hi:i<crew.length
   ·by_cases h10:((List.range i).filter (Qt crew l)).length<10
    ·right;have hd:decide ((i:Int)<(crew.length:Int))=true:=ADf
     have hd2:decide (((O7 (((List.range i).filter (Qt crew l)).take 10)).length:Int)<10)=true:=by rw[AAj,hlen];clear hn;omega
     have zo:decide ((O7 (((List.range i).filter (Qt crew l)).take 10)).length+[(i:Int)].length<=E7)=true:=Rr (by rw[hlen];clear hn;omega);have hidle:Qt crew l i=eW l crew[i]:=by unfold Qt;rw[AAM hi]
     refine⟨(O7 (((List.range (i+1)).filter (Qt crew l)).take 10),((i+1:Nat):Int)),k-1,?_,⟨i+1,rfl,ADS⟩,ADS⟩;rw[AB1,ACB];simp only[Si,hd,ABQ,hd2,ABP,O3 hi,zg i hi,zo,O1 hi (show crew.length<=9223372036854775807 by clear hn;omega)]
     have hany:(l.any λt=>t.2.2.1==crew[i].1) = !(l.all λt => !(t.2.2.1==crew[i].1)):=by rw[List.not_all_eq_any_not];simp
     rw[hany];generalize hA:(l.all λt => !(t.2.2.1==crew[i].1))=A;have h2:Qt crew l i=(crew[i].2.2.1 == -1 && !crew[i].2.2.2.1&&A):=by rw[hidle,<-hA];rfl
     rw[show(crew[i].2.2.1 != -1) = !(crew[i].2.2.1 == -1)from rfl];cases q1:(crew[i].2.2.1 == -1)<;>cases q2:crew[i].2.2.2.1<;>cases A<;>rw[q1,q2]at h2<;>simp[h2,iG,h10,O7]
    ·left;refine⟨(O7 (((List.range i).filter (Qt crew l)).take 10),(i:Int)),?_,?_⟩
     ·have hd:decide ((i:Int)<(crew.length:Int))=true:=ADf
      have hd2:decide (((O7 (((List.range i).filter (Qt crew l)).take 10)).length:Int)<10)=false:=by rw[AAr,hlen];clear hn;omega
      simp only[Si,hd,ABQ,hd2,ABP,ABS]
     ·show O7 _=O7 _;unfold PO;congr 1
      have:List.range crew.length=List.range i++(List.range (crew.length-i)).map (i + ·):=by rw[<-List.range_add];congr 1;clear hn;omega
      rw[this,ACB,List.take_append_of_le_length ADS]
   ·left;have hie:i=crew.length:=ADS
    refine⟨(O7 (((List.range i).filter (Qt crew l)).take 10),(i:Int)),?_,by rw[hie];rfl⟩;have hd:decide ((i:Int)<(crew.length:Int))=false:=ADf
    simp only[Si,hd,ABS,ABP])
  n crew.length ([],0) ⟨0,rfl,ADS⟩ ADU
 unfold XH;grind
theorem ij(crew:ADQ)(hc:crew.length<=1048576)(l:AAL)(hl:l.length<=1048576)(n:Nat)(hn:PE<=n):Zq n crew l=some (O7 (PO crew l)):=by
 have zg:∀(r:PR)(b:Bool),iter n (VI l r) (b,0)=some (b&&l.all λt => !(t.2.2.1==r.1),(l.length:Int)):=λr b=>by
  have:=Pa (VI l r) (λk=>(b&&(l.take k).all λt => !(t.2.2.1==r.1),(k:Int))) l.length (b&&l.all λt => !(t.2.2.1==r.1),(l.length:Int)) (λk hk=>by
   rw[ABc hk,List.all_append];simp only[VI,O3 hk,ABP,O1 hk (show l.length<=9223372036854775807 by clear hn;omega),List.all_cons,List.all_nil,AB7];rw[show decide ((k:Int)<(l.length:Int))=true by simpa using hk,show(l[k].2.2.1 != r.1) = !(l[k].2.2.1==r.1)from rfl];cases b<;>cases(l.take k).all (λt => !(t.2.2.1==r.1))<;>rfl) (by simp[VI]) n ADU
  grind
 have:=Pa (VH n crew l) (λi=>(O7 (((List.range i).filter (Qt crew l)).take 10),(i:Int))) crew.length (O7 (PO crew l),(crew.length:Int)) (λi hi=>by
  have hlen:(O7 (((List.range i).filter (Qt crew l)).take 10)).length=min 10 ((List.range i).filter (Qt crew l)).length:=by simp[O7]
  have hd:decide ((i:Int)<(crew.length:Int))=true:=ADf
  have zo:decide ((O7 (((List.range i).filter (Qt crew l)).take 10)).length+[(i:Int)].length<=E7)=true:=Rr (by rw[hlen];clear hn;omega);have hidle:Qt crew l i=eW l crew[i]:=by unfold Qt;rw[AAM hi]
  have h10:decide (((O7 (((List.range i).filter (Qt crew l)).take 10)).length:Int)<10)=decide (((List.range i).filter (Qt crew l)).length<10):=by rw[decide_eq_decide,hlen];clear hn;omega
  rw[AB1,ACB];simp only[VH,hd,ABQ,ABP,O3 hi,zg,zo,O1 hi (show crew.length<=9223372036854775807 by clear hn;omega),h10];generalize hA:(l.all λt => !(t.2.2.1==crew[i].1))=A;have h2:Qt crew l i=(crew[i].2.2.1 == -1 && !crew[i].2.2.2.1&&A):=by rw[hidle,<-hA];rfl
  by_cases hq:((List.range i).filter (Qt crew l)).length<10
  ·rw[ABV hq];cases q1:(crew[i].2.2.1 == -1)<;>cases q2:crew[i].2.2.2.1<;>cases A<;>rw[q1,q2]at h2<;>simp[h2,iG,hq,O7]
  grind) (by
  have hd:decide ((crew.length:Int)<(crew.length:Int))=false:=AAA
  simp only[VH,hd,ABS];rfl) n ADU
 unfold Zq;have h2:iter n (VH n crew l) ([],0)=some (O7 (PO crew l),(crew.length:Int)):=by simpa[O7]using this
 rw[h2];rfl
theorem nq{β:Type}(f:Int->Option (Int⊕(Int⊕Bool)))(xs:List β)(P:β->Bool)(hs:∀(i:Nat)(x:β),i<xs.length->xs[i]?=some x->f (i:Int)=some (bif P x then .inr (.inr true)else .inl ((i+1:Nat):Int)))
  (he:f (xs.length:Int)=some (.inr (.inl (xs.length:Int)))):∀n,xs.length<n->iter n f 0=some (bif xs.any P then .inr true else .inl (xs.length:Int)):=by
 intro n hn;refine XR f xs (λp l=>bif l.any P then .inr true else .inl (xs.length:Int)) ?_ ?_ n hn
 all_goals grind
theorem Ps(a:By)(h:a.length<=1048576)(c:Int)(n:Nat)(hn:PE<=n):QK n a c=some (a.any λx=>x==c):=by
 unfold QK
 rw[nq (Uf a c) a (λx=>x==c) (λi x h1 h2=>by
  have hx:a[i]=x:=by rw[AAM h1]at h2;exact Option.some.inj h2
  simp only[Uf,O3 h1,hx];rw[show decide ((i:Int)<(a.length:Int))=true by simpa using h1];cases hq:(x==c)<;>simp[hq,O1 h1 J]) (by simp[Uf]) n ADU]
 grind
theorem Ur:QZ=QK:=rfl
def WZ(s:By)(x:O0):By:=bif s.any (λy=>y==x.1)then s else s++[x.1]
theorem b9(s:By)(x:O0):(WZ s x).length<=s.length+1:=by unfold WZ;grind
def RM(a:OF):By:=a.foldl WZ []
theorem Yb:∀(a:OF)(s:By),(a.foldl WZ s).length<=s.length+a.length
 | [],s=>AAA
 |x::a,s=>by have h1:=Yb a (WZ s x);have h2:=b9 s x;grind
theorem Xm(a:OF)(h:a.length<=1048576)(n:Nat)(hn:PE<=n):Ux n a=some (RM a):=by
 have hc:=PV (σ:=By) (VU n a) (λi s=>(s,(i:Int))) a (λl s=>(l.foldl WZ s,(a.length:Int))) (λi s=>s.length<=i)
  (λs hs=>by simp[VU])
  (λi x l s h1 h2 h3 h4 h5=>by
   left;have hx:a[i]=x:=by rw[AAM h1]at h2;exact Option.some.inj h2
   have hr:decide (s.length+1<=E7)=true:=Rr J;have ha:=Ps s J x.1 n hn;refine⟨WZ s x,?_,by have:=b9 s x;omega,AAA⟩;simp only[VU,O3 h1,hx,ABP,ha,O1 h1 J];rw[show decide ((i:Int)<(a.length:Int))=true by simpa using h1];unfold WZ;grind)
  n ADU [] (AAh _)
 unfold Ux;rw[show((0:Nat):Int)=0 from rfl]at hc;rw[hc];rfl
theorem ZN(a:OF)(h:a.length<=1048576)(n:Nat)(hn:PE<=n):WV n a=some (RM a):=by
 have hc:=PV (σ:=By) (VC n a) (λi s=>(s,(i:Int))) a (λl s=>(l.foldl WZ s,(a.length:Int))) (λi s=>s.length<=i)
  (λs hs=>by simp[VC])
  (λi x l s h1 h2 h3 h4 h5=>by
   left;have hx:a[i]=x:=by rw[AAM h1]at h2;exact Option.some.inj h2
   have hr:decide (s.length+1<=E7)=true:=Rr J;have ha:=Ps s J x.1 n hn;refine⟨WZ s x,?_,by have:=b9 s x;omega,AAA⟩;simp only[VC,O3 h1,hx,ABP,Ur,ha,O1 h1 J];rw[show decide ((i:Int)<(a.length:Int))=true by simpa using h1];unfold WZ;grind)
  n ADU [] (AAh _)
 unfold WV;rw[show((0:Nat):Int)=0 from rfl]at hc;rw[hc];rfl
theorem X8(c:Int)(p:By)(h:p.length<=1048576)(n:Nat)(hn:PE<=n):iter n (RT c p) (([]:ADW),0)=some (p.map λx=>(c,x,(0:Int),(1:Int)),(p.length:Int)):=by
 have hc:=PV (σ:=ADW) (RT c p) (λi s=>(s,(i:Int))) p (λl s=>(s++l.map λx=>(c,x,(0:Int),(1:Int)),(p.length:Int))) (λi s=>s.length<=i)
  (λs hs=>by simp[RT])
  (λi x l s h1 h2 h3 h4 h5=>by
   left;have hx:p[i]=x:=by rw[AAM h1]at h2;exact Option.some.inj h2
   have hr:decide (s.length+1<=E7)=true:=Rr J;exact⟨s++[(c,x,0,1)],by simp[RT,h1,O6 h1,hx,O1 h1 J,hr],ADY,AAA⟩)
  n ADU [] (AAh _)
 grind
theorem dT(a:Ox)(h:a.2.2.2.1.length<=1048576)(n:Nat)(hn:PE<=n):XF n a.1 a.2.1 a.2.2.1 a.2.2.2.1 a.2.2.2.2=some ((RM a.2.2.2.1).map λx=>(a.1,x,(0:Int),(1:Int))):=by
 have hp:(RM a.2.2.2.1).length<=1048576:=by have:=Yb a.2.2.2.1 [];simp at this;exact AA2 this h
 unfold XF;rw[Xm _ h n hn,ABP,X8 a.1 _ hp n hn];rfl
theorem jL:Y8=RT:=rfl
theorem dJ(a:Ox)(h:a.2.2.2.1.length<=1048576)(n:Nat)(hn:PE<=n):Yo n a.1 a.2.1 a.2.2.1 a.2.2.2.1 a.2.2.2.2=some ((RM a.2.2.2.1).map λx=>(a.1,x,(0:Int),(1:Int))):=by
 have hp:(RM a.2.2.2.1).length<=1048576:=by have:=Yb a.2.2.2.1 [];simp at this;exact AA2 this h
 unfold Yo;rw[ZN _ h n hn,ABP,jL,X8 a.1 _ hp n hn];rfl
def Z6(a:Is)(tk:By)(t:PH):Bool:=t.2.2.2==1&&decide (Rq a t.2.1>=0) && !(tk.any λy=>y==t.2.1)
def ax(a:Is):Nat->By->Nat->AAL->It
 |0,_,_,_=>[]
 |_+1,_,_,[]=>[]
 |m+1,tk,i,t::ts=>bif Z6 a tk t then i::ax a m (tk++[t.2.1]) (i+1) ts else ax a (m+1) tk (i+1) ts
theorem oq(a:Is)(m:Nat)(tk:By)(i:Nat)(t:PH)(ts:AAL):ax a (m+1) tk i (t::ts)=bif Z6 a tk t then i::ax a m (tk++[t.2.1]) (i+1) ts else ax a (m+1) tk (i+1) ts:=rfl
theorem dr(a:Is)(m:Nat)(tk:By)(i:Nat):ax a m tk i []=[]:=by cases m<;>rfl
theorem Yx(a:Is):∀(ts:AAL)(m:Nat)(tk:By)(i:Nat),(ax a m tk i ts).length<=m
 | [],m,tk,i=>by rw[dr];simp
 |t::ts,0,tk,i=>by simp[ax]
 |t::ts,m+1,tk,i=>by
  unfold ax;cases Z6 a tk t with
  |true=>have:=Yx a ts m (tk++[t.2.1]) (i+1);grind
  |false=>simpa only[ABS]using Yx a ts (m+1) tk (i+1)
theorem fF(a:Is):∀(ts:AAL)(m:Nat)(tk:By)(i:Nat),∀x∈ax a m tk i ts,i<=x/\∃h:x-i<ts.length,ts[x-i].2.2.2=1/\Rq a ts[x-i].2.1>=0/\ts[x-i].2.1∉tk
 | [],m,tk,i=>by rw[dr];simp
 |t::ts,0,tk,i=>by simp[ax]
 |t::ts,m+1,tk,i=>by
  intro x hx
  have up:∀(h:i+1<=x) (h2:x-(i+1)<ts.length),∃h:x-i<(t::ts).length,(t::ts)[x-i]=ts[x-(i+1)]:=λh h2=>No
  unfold ax at hx;cases hr:Z6 a tk t with
  |true=>
   rw[hr,ABQ]at hx;rcases AAi.1 hx with rfl|hx
   ·unfold Z6 at hr;grind
   ·obtain⟨h1,h2,h3,h4,h5⟩:=fF a ts m (tk++[t.2.1]) (i+1) x hx;grind
  |false=>
   rw[hr,ABS]at hx;obtain⟨h1,h2,h3,h4,h5⟩:=fF a ts (m+1) tk (i+1) x hx;grind
theorem fG(a:Is):∀(ts:AAL)(m:Nat)(tk:By)(i:Nat),(ax a m tk i ts).Pairwise λx y=>x<y/\∀(hx:x-i<ts.length)(hy:y-i<ts.length),ts[x-i].2.1≠ts[y-i].2.1
 | [],m,tk,i=>by rw[dr];exact List.Pairwise.nil
 |t::ts,0,tk,i=>by simp[ax]
 |t::ts,m+1,tk,i=>by
  have up:∀(m:Nat)(tk:By),(ax a m tk (i+1) ts).Pairwise λx y=>x<y/\∀(hx:x-i<(t::ts).length) (hy:y-i<(t::ts).length),(t::ts)[x-i].2.1≠(t::ts)[y-i].2.1:=λm tk=>by refine AB6 (fun {x y} hx hy hxy=>⟨hxy.1,λh1 h2=>?_⟩) (fG a ts m tk (i+1));obtain⟨x1,x2,_⟩:=fF a ts m tk (i+1) x hx;grind
  unfold ax;cases hr:Z6 a tk t with
  |true=>
   rw[ABQ];refine ABn.2 ⟨λy hy=>?_,up m (tk++[t.2.1])⟩;obtain⟨y1,y2,y3,y4,y5⟩:=fF a ts m (tk++[t.2.1]) (i+1) y hy;grind
  |false=>grind
def Tx(l:AAL):By:=(l.filter λt => !(t.2.2.2==1)).map (·.2.1)
def Pv(a:Is)(l:AAL)(m:Nat):It:=ax a m (Tx l) 0 l
theorem gY(L:By×Int->Option ((By×Int)⊕(By×Int)))(l:AAL)(hl:l.length<=1048576)
  (hL:∀(i:Nat)(out:By)(hi:i<l.length),out.length<=i->L (out,(i:Int))=some (.inl (bif l[i].2.2.2==1 then out else out++[l[i].2.1],((i+1:Nat):Int)))) (he:∀out,L (out,(l.length:Int))=some (.inr (out,(l.length:Int)))) (n:Nat) (hn:PE<=n):
  iter n L ([],0)=some (Tx l,(l.length:Int)):=by
 have:=Pa L (λi=>(Tx (l.take i),(i:Int))) l.length (Tx l,(l.length:Int)) (λi hi=>by
  rw[hL i _ hi (by unfold Tx;rw[ABl];exact AA2 (ABo _ _) ADY),ABc hi];unfold Tx;grind) No n ADU
 simpa[Tx]using this
theorem kA(L:By×By×Int->Option ((By×By×Int)⊕(By×By×Int)))(a:Is)(l:AAL)(M:Nat)(tk0:By)
  (hgo:∀(i:Nat)(out tk:By)(hi:i<l.length),out.length<M->out.length<=i->tk.length<=tk0.length+i->L (out,tk,(i:Int))=some (.inl (bif Z6 a tk l[i]then(out++[(i:Int)],tk++[l[i].2.1],((i+1:Nat):Int))else(out,tk,((i+1:Nat):Int)))))
  (hfull:∀(i:Nat)(out tk:By)(hi:i<l.length),out.length=M->tk.length<=tk0.length+i->L (out,tk,(i:Int))=some (.inl (out,tk,((i+1:Nat):Int)))\/L (out,tk,(i:Int))=some (.inr (out,tk,(i:Int))))
  (hend:∀(out tk:By),L (out,tk,(l.length:Int))=some (.inr (out,tk,(l.length:Int)))) (n:Nat) (hn:l.length<n):
  ∃z,z.1=O7 (ax a M tk0 0 l)/\iter n L ([],tk0,0)=some z:=by
 refine Tl (f:=L) (λk x=>∃(i:Nat) (out:It) (tk:By),x=(O7 out,tk,(i:Int))/\i+k=l.length/\out.length<=M/\out.length<=i/\tk.length<=tk0.length+i/\out++ax a (M-out.length) tk i (l.drop i)=ax a M tk0 0 l)
  (λz=>z.1=O7 (ax a M tk0 0 l)) (λk x hx=>?_) n l.length ([],tk0,0) ⟨0,[],tk0,rfl,J,AAA,AAA,AAA,AAA⟩ hn
 obtain⟨i,out,tk,rfl,hk,h1,h2,h3,h4⟩:=hx;have hcl:(O7 out).length=out.length:=by simp[O7]
 by_cases hi:i<l.length
 ·by_cases hM:out.length=M
  ·rcases hfull i (O7 out) tk hi J h3 with e|e
   ·refine .inr ⟨_,k-1,e,⟨i+1,out,tk,rfl,J,h1,J,J,?_⟩,J⟩;rw[<-h4,hM,ACR];simp[ax]
   ·refine .inl ⟨_,e,?_⟩;show O7 out=_;rw[<-h4,hM,ACR];simp[ax]
  ·have e:=hgo i (O7 out) tk hi J J h3;have hd:l.drop i=l[i]::l.drop (i+1):=ABi hi;obtain⟨m,hm⟩:∃m,M-out.length=m+1:=⟨M-out.length-1,J⟩;rw[hd,hm,oq]at h4;cases hr:Z6 a tk l[i]with
   |true=>
    rw[hr,ABQ]at e h4;refine .inr ⟨_,k-1,e,⟨i+1,out++[i],tk++[l[i].2.1],by simp[O7],J,ADY,ADY,ADY,?_⟩,J⟩;rw[<-h4,ABj];congr 1;rw[show M-(out++[i]).length=m by simp;omega];rfl
   |false=>
    rw[hr,ABS]at e h4;refine .inr ⟨_,k-1,e,⟨i+1,out,tk,rfl,J,h1,J,J,?_⟩,J⟩;grind
 ·have hie:i=l.length:=J
  subst hie;refine .inl ⟨_,hend _ _,?_⟩;show O7 out=_;rw[<-h4,List.drop_length,dr,ABf]
theorem gV(a:Is)(ha:a.length<=1048576)(l:AAL)(hl60:l.length<=60)(M:Nat)(n:Nat)(hn:PE<=n):WL n a l (M:Int)=some (O7 (Pv a l M)):=by
 have hl:l.length<=1048576:=ADS
 have h1:=gY (Tq l) l hl (λi out hi ho=>by
  have hd:decide ((i:Int)<(l.length:Int))=true:=ADf
  have hr:decide (out.length+[l[i].2.1].length<=E7)=true:=Rr ADS;simp only[Tq,hd,ABQ,O3 hi,ABP,hr,O1 hi (show l.length<=9223372036854775807 by clear hn;omega),bne];grind) (λout=>by simp[Tq]) n hn
 have hbl:(Tx l).length<=60:=by unfold Tx;rw[ABl];exact AA2 (ABo _ _) hl60
 obtain⟨z,z1,z2⟩:=kA (SD n a l (M:Int)) a l M (Tx l) (λi out tk hi h1 h2 h3=>by
  have hd:decide ((i:Int)<(l.length:Int))=true:=ADf
  have hd2:decide ((out.length:Int)<(M:Int))=true:=by rw[AAj];clear hn;omega
  have hr:decide (out.length+[(i:Int)].length<=E7)=true:=Rr ADS
  have hr2:decide (tk.length+[l[i].2.1].length<=E7)=true:=by rw[AAj];simp[E7];clear hn;omega
  simp only[SD,hd,hd2,ABQ,O3 hi,ABP,hr,hr2,O1 hi (show l.length<=9223372036854775807 by clear hn;omega),(Qf a ha l[i].2.1 n hn).1];have ham:QK n tk l[i].2.1=some (tk.any λy=>y==l[i].2.1):=Ps tk ADS _ n hn;simp only[ham,ABP];unfold Z6;grind) (λi out tk hi h1 h3=>by
  right;have hd:decide ((i:Int)<(l.length:Int))=true:=ADf
  have hd2:decide ((out.length:Int)<(M:Int))=false:=by rw[AAr];clear hn;omega
  simp only[SD,hd,hd2,ABQ,ABS,ABP]) (λout tk=>by
  have hd:decide ((l.length:Int)<(l.length:Int))=false:=AAA
  simp only[SD,hd,ABS,ABP]) n ADU
 unfold WL;rw[h1];simp only[ABP,z2,z1];rfl
theorem gI(a:Is)(ha:a.length<=1048576)(l:AAL)(hl60:l.length<=60)(M:Nat)(n:Nat)(hn:PE<=n):Ys n a l (M:Int)=some (O7 (Pv a l M)):=by
 have hl:l.length<=1048576:=ADS
 have h1:=gY (V9 l) l hl (λi out hi ho=>by
  have hd:decide ((i:Int)<(l.length:Int))=true:=ADf
  have hr:decide (out.length+[l[i].2.1].length<=E7)=true:=Rr ADS;simp only[V9,hd,ABQ,O3 hi,ABP,hr,O1 hi (show l.length<=9223372036854775807 by clear hn;omega),bne];grind) (λout=>by simp[V9]) n hn
 have hbl:(Tx l).length<=60:=by unfold Tx;rw[ABl];exact AA2 (ABo _ _) hl60
 obtain⟨z,z1,z2⟩:=kA (UC n a l (M:Int)) a l M (Tx l) (λi out tk hi h1 h2 h3=>by
  have hd:decide ((i:Int)<(l.length:Int))=true:=ADf
  have hd2:decide ((out.length:Int)<(M:Int))=true:=by rw[AAj];clear hn;omega
  have hr:decide (out.length+[(i:Int)].length<=E7)=true:=Rr ADS
  have hr2:decide (tk.length+[l[i].2.1].length<=E7)=true:=by rw[AAj];simp[E7];clear hn;omega
  simp only[UC,WY,Ur,hd,hd2,ABQ,O3 hi,ABP,hr,hr2,O1 hi (show l.length<=9223372036854775807 by clear hn;omega),(Qf a ha l[i].2.1 n hn).1];have ham:QK n tk l[i].2.1=some (tk.any λy=>y==l[i].2.1):=Ps tk ADS _ n hn;simp only[ham,ABP];unfold Z6;grind) (λi out tk hi h1 h3=>by
  left;have hd:decide ((i:Int)<(l.length:Int))=true:=ADf
  have hd2:decide ((out.length:Int)<(M:Int))=false:=by rw[AAr];clear hn;omega
  obtain⟨b,hb⟩:∃b,QK n tk l[i].2.1=some b:=⟨_,Ps tk ADS _ n hn⟩;simp only[UC,WY,Ur,hd,hd2,ABQ,ABS,O3 hi,ABP,O1 hi (show l.length<=9223372036854775807 by clear hn;omega),(Qf a ha l[i].2.1 n hn).1,hb];grind) (λout tk=>by
  have hd:decide ((l.length:Int)<(l.length:Int))=false:=AAA
  simp only[UC,hd,ABS]) n ADU
 unfold Ys;rw[h1];simp only[ABP,z2,z1];rfl
def Xs(crew:ADQ)(k:Nat):PR:=crew.getD k (0,0,0,false,0)
def Wf(l:AAL)(i:Nat):PH:=l.getD i (0,0,0,0)
theorem jC{crew:ADQ}{k:Nat}(h:k<crew.length):crew[k]?=some (Xs crew k):=by unfold Xs;grind
theorem dt{l:AAL}{k:Nat}(h:k<l.length):l[k]?=some (Wf l k):=by unfold Wf;grind
def Py(a:Is)(id:Int):Int:=match a[(Rq a id).toNat]? with
 |some p=>p.2.1
 |none=>0
def Qz(a:Is)(crew:ADQ)(l:AAL)(p:Nat×Nat)(st:ADQ×AAL):ADQ×AAL:=
 (List.modify (List.modify st.1 p.2 λy=>(y.1,y.2.1,Py a (Wf l p.1).2.1,y.2.2.2.1,y.2.2.2.2)) p.2 λy=>(y.1,y.2.1,y.2.2.1,y.2.2.2.1,0),
  List.modify (List.modify st.2 p.1 λy=>(y.1,y.2.1,(Xs crew p.2).1,y.2.2.2)) p.1 λy=>(y.1,y.2.1,y.2.2.1,2))
def sendAll(a:Is)(crew:ADQ)(l:AAL)(prs:List (Nat×Nat)):ADQ×AAL:=prs.foldl (λst p=>Qz a crew l p st) (crew,l)
structure SI(crew:ADQ)(l:AAL)(st:ADQ×AAL):Prop where
 l1:st.1.length=crew.length
 l2:st.2.length=l.length
 id:∀k,k<crew.length->∃r,st.1[k]?=some r/\r.1=(Xs crew k).1
 PB:∀i,i<l.length->∃t,st.2[i]?=some t/\t.2.1=(Wf l i).2.1
theorem SI.first(crew:ADQ)(l:AAL):SI crew l (crew,l):=⟨rfl,rfl,λk h=>⟨_,jC h,rfl⟩,λi h=>⟨_,dt h,rfl⟩⟩
theorem SI.one{a:Is}{crew:ADQ}{l:AAL}{st:ADQ×AAL}(h:SI crew l st)(p:Nat×Nat):SI crew l (Qz a crew l p st):=by
 refine⟨by simp[Qz,h.l1],by simp[Qz,h.l2],λk hk=>?_,λi hi=>?_⟩
 ·obtain⟨r,h1,h2⟩:=h.id k hk;simp only[Qz,ABd,h1];grind
 ·obtain⟨r,h1,h2⟩:=h.PB i hi;simp only[Qz,ABd,h1];grind
theorem SI.all{a:Is}{crew:ADQ}{l:AAL}:∀(prs:List (Nat×Nat)) (st:ADQ×AAL),SI crew l st->SI crew l (prs.foldl (λst p=>Qz a crew l p st) st)
 | [],st,h=>h
 |p::prs,st,h=>SI.all prs _ (h.one p)
end Go.Ev.N
