/- A plain evaluator for Go's loaded code,and that it is sound;part 1. Conditions: none. -/
import Derived.Calls
import Derived.Orders
import Derived.Below
import Derived.Sort.Defs
import Derived.Laws.Rows
import Derived.Laws.Small
import Derived.Laws.StructEq
import Derived.Laws.Concat
import Derived.Laws.IdiomCopy
import Derived.Deep.MidRow
import Derived.Tactics
import Derived.WalkKit
import Derived.Laws.MakeOwn
import Derived.Laws.Append
import Derived.Laws.BytesArg
set_option linter.all false
namespace Go.Ev
theorem AEA{p:Prop}(h:p:=by simpa using h2):p:=h
theorem AD9{p:Prop}(h:p:=by simpa using hb):p:=h
theorem AD8{p:Prop}(h:p:=by simpa using hl):p:=h
theorem AD7{p:Prop}(h:p:=by simpa using hy):p:=h
theorem AD6{p:Prop}(h:p:=by have:=z.o1;omega):p:=h
theorem AD5{p:Prop}(h:p:=by have:=z.r1;omega):p:=h
theorem AD4{p:Prop}(h:p:=by have:=z.s1;omega):p:=h
theorem AD3{p:Prop}(h:p:=by have:=z.t1;omega):p:=h
theorem AD2{p:Prop}(h:p:=by simpa using h1):p:=h
theorem AD1{p:Prop}(h:p:=by simpa using he):p:=h
theorem AD0{p:Prop}(h:p:=by simpa using hc):p:=h
theorem ADz{p:Prop}(h:p:=by simp at hl):p:=h
theorem ADy{p:Prop}(h:p:=by simp at hp):p:=h
theorem ADx{p:Prop}(h:p:=by simpa using hj):p:=h
theorem ADw{p:Prop}(h:p:=by simpa using hlen):p:=h
theorem ADv{p:Prop}(h:p:=by have:=h.sep.size;omega):p:=h
theorem ADu{p:Prop}(h:p:=by simp at hj):p:=h
theorem ADt{p:Prop}(h:p:=by simp at hlen):p:=h
theorem ADs{p:Prop}(h:p:=by assumption):p:=h
theorem ADq{p:Prop}(h:p:=by simpa using hm):p:=h
theorem ADo{p:Prop}(h:p:=by clear hn hB;omega):p:=h
theorem ADn{p:Prop}(h:p:=by simpa using h):p:=h
theorem ADm{p:Prop}(h:p:=by simpa using hi):p:=h
theorem ADl{p:Prop}(h:p:=by simp at h):p:=h
theorem ADj{p:Prop}(h:p:=by decide):p:=h
theorem ADg{p:Prop}(h:p:=by simp;omega):p:=h
theorem ADb{p:Prop}(h:p:=by clear hn;omega):p:=h
theorem OF{p:Prop}(h:p:=by simp):p:=h
theorem No{p:Prop}(h:p:=by grind):p:=h
theorem J{p:Prop}(h:p:=by omega):p:=h
abbrev By:=List Int
abbrev Is:=List Nat
abbrev ADh:=List Value
abbrev ADi:=List UInt8
abbrev ADp:=List Bool
theorem AAI:type_of% @List.getElem?_eq_getElem:=@List.getElem?_eq_getElem
theorem AAJ:type_of% @Bool.and_eq_true:=@Bool.and_eq_true
theorem AAK:type_of% @List.getElem?_eq_some_iff:=@List.getElem?_eq_some_iff
theorem AAL:type_of% @List.mem_flatMap:=@List.mem_flatMap
theorem AAM:type_of% @List.mem_cons_of_mem:=@List.mem_cons_of_mem
theorem AAN:type_of% @List.mem_of_getElem?:=@List.mem_of_getElem?
theorem AAO:type_of% @List.eq_nil_of_length_eq_zero:=@List.eq_nil_of_length_eq_zero
theorem AAP:type_of% @if_pos:=@if_pos
theorem AAQ:type_of% @if_neg:=@if_neg
theorem AAR:type_of% @List.nodup_nil:=@List.nodup_nil
theorem AAS:type_of% @List.mem_append_right:=@List.mem_append_right
theorem AAT:type_of% @beq_iff_eq:=@beq_iff_eq
theorem AAU:type_of% @Bool.not_eq_true':=@Bool.not_eq_true'
theorem AAV:type_of% @List.mem_append_left:=@List.mem_append_left
theorem AAW:type_of% @List.all_eq_true:=@List.all_eq_true
theorem AAX:type_of% @List.mem_range:=@List.mem_range
theorem AAY:type_of% @Nat.zero_add:=@Nat.zero_add
theorem AAZ:type_of% @List.nodup_append:=@List.nodup_append
theorem AAa:type_of% @List.nodup_cons:=@List.nodup_cons
theorem AAb:type_of% @List.getElem?_map:=@List.getElem?_map
theorem AAc:type_of% @Nat.le_refl:=@Nat.le_refl
theorem AAd:type_of% @List.mem_cons:=@List.mem_cons
theorem AAe:type_of% @Bool.or_eq_true:=@Bool.or_eq_true
theorem AAf:type_of% @decide_eq_true_eq:=@decide_eq_true_eq
theorem AAg:type_of% @List.mem_cons_self:=@List.mem_cons_self
theorem AAh:type_of% @Array.getElem?_eq_getElem:=@Array.getElem?_eq_getElem
theorem AAi:type_of% @Array.getD_eq_getD_getElem?:=@Array.getD_eq_getD_getElem?
theorem AAj:type_of% @Bool.or_eq_false_iff:=@Bool.or_eq_false_iff
theorem AAk:type_of% @List.flatten_cons:=@List.flatten_cons
theorem AAl:type_of% @decide_eq_false_iff_not:=@decide_eq_false_iff_not
theorem AAm:type_of% @Nat.add_mul:=@Nat.add_mul
theorem AAn:type_of% @List.flatMap_cons:=@List.flatMap_cons
theorem AAo:type_of% @Nat.mul_le_mul_right:=@Nat.mul_le_mul_right
theorem AAp:type_of% @Classical.byContradiction:=@Classical.byContradiction
theorem AAq:type_of% @List.getElem?_of_mem:=@List.getElem?_of_mem
theorem AAr:type_of% @Nat.lt_or_ge:=@Nat.lt_or_ge
theorem AAs:type_of% @of_decide_eq_true:=@of_decide_eq_true
theorem AAt:type_of% @List.mem_map:=@List.mem_map
theorem AAu:type_of% @Array.getElem?_append_left:=@Array.getElem?_append_left
theorem AAv:type_of% @Nat.le_trans:=@Nat.le_trans
theorem AAw:type_of% @Array.getElem?_setIfInBounds:=@Array.getElem?_setIfInBounds
theorem AAx:type_of% @Nat.add_zero:=@Nat.add_zero
theorem AAy:type_of% @Nat.le_of_not_lt:=@Nat.le_of_not_lt
theorem AAz:type_of% @List.length_append:=@List.length_append
theorem AA0:type_of% @List.nil_append:=@List.nil_append
theorem AA1:type_of% @List.getElem?_cons_succ:=@List.getElem?_cons_succ
theorem AA2:type_of% @List.drop_left:=@List.drop_left
theorem AA3:type_of% @List.any_eq_true:=@List.any_eq_true
theorem AA4:type_of% @Nat.lt_of_lt_of_le:=@Nat.lt_of_lt_of_le
theorem AA5:type_of% @List.mem_singleton:=@List.mem_singleton
theorem AA6:type_of% @Option.map_some:=@Option.map_some
theorem AA7:type_of% @Array.getElem?_eq_some_iff:=@Array.getElem?_eq_some_iff
theorem AA8:type_of% @Option.getD_some:=@Option.getD_some
theorem AA9:type_of% @List.mem_or_eq_of_mem_set:=@List.mem_or_eq_of_mem_set
theorem ABA:type_of% @List.getElem?_append_left:=@List.getElem?_append_left
theorem ABB:type_of% @List.length_map:=@List.length_map
theorem ABC:type_of% @Option.bind_eq_some_iff:=@Option.bind_eq_some_iff
theorem ABD:type_of% @List.size_toArray:=@List.size_toArray
theorem ABE:type_of% @Classical.not_not:=@Classical.not_not
theorem ABF:type_of% @Array.size_append:=@Array.size_append
theorem ABG:type_of% @List.length_cons:=@List.length_cons
theorem ABH:type_of% @List.cons_append:=@List.cons_append
theorem ABI:type_of% @Array.toList_map:=@Array.toList_map
theorem ABJ:type_of% @Array.size_range:=@Array.size_range
theorem ABK:type_of% @List.map_cons:=@List.map_cons
theorem ABL:type_of% @List.mem_append:=@List.mem_append
theorem ABM:type_of% @Nat.mul_le_mul:=@Nat.mul_le_mul
theorem ABN:type_of% @Nat.lt_or_gt_of_ne:=@Nat.lt_or_gt_of_ne
theorem ABO:type_of% @List.getElem?_append_right:=@List.getElem?_append_right
theorem ABP:type_of% @Bool.false_eq_true:=@Bool.false_eq_true
theorem ABQ:type_of% @Array.size_map:=@Array.size_map
theorem ABR:type_of% @List.pairwise_iff_getElem:=@List.pairwise_iff_getElem
theorem ABS:type_of% @Nat.one_mul:=@Nat.one_mul
mutual
inductive L where
 |int (k:IntKind)
 |bool
 |str
 |sl (t:TypeId) (e:Ls)
inductive Ls where
 |nil
 |one (l:L)
 |cons (l:L) (ls:Ls)
end
mutual
def L.D:L->Type
 | .int _=>Int
 | .bool=>Bool
 | .str=>ADi
 | .sl _ e=>List e.D
def Ls.D:Ls->Type
 | .nil=>Unit
 | .one l=>l.D
 | .cons l ls=>l.D×ls.D
end
def Ls.n:Ls->Nat
 | .nil=>0
 | .one _=>1
 | .cons _ ls=>ls.n+1
def IntKind.code:IntKind->Nat
 | .i8=>0 | .i16=>1 | .i32=>2 | .i64=>3 | .u8=>4 | .u16=>5 | .u32=>6 | .u64=>7
theorem IntKind.EY{a b:IntKind}(h:IntKind.code a=IntKind.code b):a=b:=by cases a<;>cases b<;>first|rfl|cases h
mutual
def L.eq?:(a b:L)->Bool
 | .int j,.int k=>IntKind.code j==IntKind.code k
 | .bool,.bool=>true
 | .str,.str=>true
 | .sl t e,.sl u f=>t==u&&Ls.eq? e f
 |_,_=>false
def Ls.eq?:(a b:Ls)->Bool
 | .nil,.nil=>true
 | .one a,.one b=>L.eq? a b
 | .cons a as,.cons b bs=>L.eq? a b&&Ls.eq? as bs
 |_,_=>false
end
mutual
theorem L.Dw:∀ {a b:L},L.eq? a b=true->a=b
 | .int _,.int _,h=>by simp[L.eq?]at h;rw[IntKind.EY h]
 | .bool,.bool,_=>rfl
 | .str,.str,_=>rfl
 | .sl t e,.sl u f,h=>by simp[L.eq?]at h;rw[h.1,Ls.Dw h.2]
 | .int _,.bool,h | .int _,.str,h | .int _,.sl ..,h | .bool,.int _,h | .bool,.str,h | .bool,.sl ..,h | .str,.int _,h | .str,.bool,h | .str,.sl ..,h | .sl ..,.int _,h | .sl ..,.bool,h | .sl ..,.str,h=>by simp[L.eq?]at h
theorem Ls.Dw:∀ {a b:Ls},Ls.eq? a b=true->a=b
 | .nil,.nil,_=>rfl
 | .one _,.one _,h=>by simp[Ls.eq?]at h;rw[L.Dw h]
 | .cons _ _,.cons _ _,h=>by simp[Ls.eq?]at h;rw[L.Dw h.1,Ls.Dw h.2]
 | .nil,.one _,h | .nil,.cons ..,h | .one _,.nil,h | .one _,.cons ..,h | .cons ..,.nil,h | .cons ..,.one _,h=>by simp[Ls.eq?]at h
end
structure Lv where
 l:L
 x:l.D
def L.cast{a:L}(b:L)(x:a.D):Option b.D:=if h:L.eq? a b=true then some (L.Dw h▸x)else none
def Ls.cast{a:Ls}(b:Ls)(x:a.D):Option b.D:=if h:Ls.eq? a b=true then some (Ls.Dw h▸x)else none
theorem L.AH{a b:L}{x:a.D}{y:b.D}(h:L.cast b x=some y):∃e:a=b,e▸x=y:=by
 unfold L.cast at h;split at h
 ·rename_i e;exact⟨L.Dw e,by injection h⟩
 ·cases h
theorem Ls.AH{a b:Ls}{x:a.D}{y:b.D}(h:Ls.cast b x=some y):∃e:a=b,e▸x=y:=by
 unfold Ls.cast at h;split at h
 ·rename_i e;exact⟨Ls.Dw e,by injection h⟩
 ·cases h
def pack:(ls:Ls)->List Lv->Option ls.D
 | .nil=>λvs=>match vs with
  | []=>some ()
  |_::_=>none
 | .one l=>λvs=>match vs with
  | []=>none
  |v::vs=>match vs with
   | []=>L.cast l v.x
   |_::_=>none
 | .cons l ls=>λvs=>match vs with
  | []=>none
  |v::vs=>match L.cast l v.x with
   |none=>none
   |some x=>match pack ls vs with
    |none=>none
    |some xs=>some (x,xs)
def unpack:(ls:Ls)->ls.D->List Lv
 | .nil,_=>[]
 | .one l,x=>[⟨l,x⟩]
 | .cons l ls,x=>⟨l,x.1⟩::unpack ls x.2
def Ls.kinds:Ls->List L
 | .nil=>[]
 | .one l=>[l]
 | .cons l ls=>l::ls.kinds
theorem CA:∀(ls:Ls)(x:ls.D),(unpack ls x).length=ls.n
 | .nil,_=>rfl
 | .one _,_=>rfl
 | .cons _ ls,x=>by simp[unpack,Ls.n,CA ls x.2]
theorem Av:∀(ls:Ls)(vs:List Lv)(x:ls.D),pack ls vs=some x->unpack ls x=vs
 | .nil,[],_,_=>rfl
 | .nil,_::_,_,h=>by simp[pack]at h
 | .one l,[],_,h=>by simp[pack]at h
 | .one l,[v],x,h=>by
  simp only[pack]at h;obtain⟨l',y⟩:=v;obtain⟨e,he⟩:=L.AH h
  try dsimp only at e he
  subst e;subst he;rfl
 | .one l,_::_::_,_,h=>by simp[pack]at h
 | .cons l ls,[],_,h=>by simp[pack]at h
 | .cons l ls,v::vs,x,h=>by
  obtain⟨l',y⟩:=v;simp only[pack]at h;split at h
  ·cases h
  ·rename_i a ha;split at h
   ·cases h
   ·rename_i b hb;obtain⟨e,he⟩:=L.AH ha
    try dsimp only at e he
    subst e;subst he;injection h with h;subst h
    simp[unpack,Av ls vs _ hb]
def Row(w:World)(a:Addr)(n:Nat)(bare:Bool)(g:Nat->Option Value):Prop:=
 a.spot=none/\∃arr T fr,w.heap[a.block]?=some (.cells arr T fr)/\a.off+n<=arr.size/\(bare=true->∀j,j<arr.size->¬(fr.1<=j/\j<fr.2))/\∀j,g j=arr[a.off+j]?
def CD{α:Type}(n:Nat)(R:(Nat->Option Value)->α->Is->Prop)(own:Bool)(w:World)(fz:Nat->Prop)(v:Value)(xs:List α)(o:Is):Prop:=
 ∃(A:Option Addr) (c:Nat),v=.slice A xs.length c/\xs.length<=c/\
  match A with
  |none=>c=0/\o=[]
  |some a=>(own=false/\c=0/\o=[])\/∃(g:Nat->Option Value) (os:Nat->Is),Row w a (c*n) own g/\(∀i (h:i<xs.length),R (λj=>g (i*n+j)) xs[i] (os i))/\
    match own with
    |true=>o=a.block::(List.range xs.length).flatMap os
    |false=>fz a.block/\o=[]/\∀i,i<xs.length->os i=[]
def dec:Nat->Nat
 |0=>0
 |1=>0
 |d+2=>d+2
mutual
def L.rd:(l:L)->Nat->World->(Nat->Prop)->Value->l.D->Is->Prop
 | .int k,_,_,_,v,x,o=>v=.int k x/\o=[]
 | .bool,_,_,_,v,x,o=>v=.bool x/\o=[]
 | .str,_,_,_,v,x,o=>v=.string ⟨x.toArray⟩/\o=[]
 | .sl _ e,d,w,fz,v,x,o=>CD e.n (λg y o=>e.rd (dec d) w fz g y o) (decide (0<d)) w fz v x o
def Ls.rd:(ls:Ls)->Nat->World->(Nat->Prop)->(Nat->Option Value)->ls.D->Is->Prop
 | .nil,_,_,_,_,_,o=>o=[]
 | .one l,d,w,fz,g,x,o=>∃v,g 0=some v/\l.rd d w fz v x o
 | .cons l ls,d,w,fz,g,x,o=>∃v o1 o2,g 0=some v/\l.rd d w fz v x.1 o1/\ls.rd d w fz (λj=>g (j+1)) x.2 o2/\o=o1++o2
end
theorem L.IK{t:TypeId}{e:Ls}{d:Nat}{w:World}{fz:Nat->Prop}{v:Value}{x:(L.sl t e).D}{o:Is}:
  (L.sl t e).rd d w fz v x o↔CD (α:=e.D) e.n (λg y o=>e.rd (dec d) w fz g y o) (decide (0<d)) w fz v x o:=Iff.rfl
end Go.Ev
namespace Go.Ev
theorem Row.frame{w w':World}{a:Addr}{n:Nat}{bare:Bool}{g:Nat->Option Value}(h:Row w a n bare g)(e:w'.heap[a.block]?=w.heap[a.block]?):Row w' a n bare g:=by obtain⟨hs,arr,T,fr,hh,hn,hb,hg⟩:=h;exact⟨hs,arr,T,fr,e.trans hh,hn,hb,hg⟩
theorem Row.lt{w:World}{a:Addr}{n:Nat}{bare:Bool}{g:Nat->Option Value}(h:Row w a n bare g):a.block<w.heap.size:=by obtain⟨hs,arr,T,fr,hh,_⟩:=h;exact(AA7.1 hh).1
section
variable {α:Type}{n:Nat}{R R':(Nat->Option Value)->α->Is->Prop}{own:Bool}{w w':World}{fz yw:Nat->Prop}{v:Value}{xs:List α}{o:Is}
theorem CD.imp(h:CD n R own w fz v xs o)(hf:∀b,b∈o\/fz b->w'.heap[b]?=w.heap[b]?)(hz:∀b,fz b->yw b)
  (hr:∀g x oi,(∀b∈oi,b∈o)->R g x oi->R' g x oi):CD n R' own w' yw v xs o:=by
 obtain⟨A,c,hv,hc,h⟩:=h;refine⟨A,c,hv,hc,?_⟩;cases A with
 |none=>exact h
 |some a=>
  rcases h with h|⟨g,os,yz,zN,ho⟩
  ·exact .inl h
  refine .inr ?_;cases own with
  |true=>
   refine⟨g,os,yz.frame (hf _ (.inl (by rw[ho];simp))),λi hi=>hr _ _ _ ?_ (zN i hi),ho⟩;intro b hb;rw[ho];exact AAM _ (AAL.2 ⟨i,AAX.2 hi,hb⟩)
  |false=>
   refine⟨g,os,yz.frame (hf _ (.inr ho.1)),λi hi=>hr _ _ _ ?_ (zN i hi),hz _ ho.1,ho.2⟩;intro b hb;rw[ho.2.2 i hi]at hb;cases hb
theorem CD.freeze(h:CD n R own w fz v xs o)(hz:∀b,fz b\/b∈o->yw b)(hr:∀g x oi,(∀b∈oi,b∈o)->R g x oi->R' g x []):CD n R' false w yw v xs []:=by
 obtain⟨A,c,hv,hc,h⟩:=h;refine⟨A,c,hv,hc,?_⟩;cases A with
 |none=>exact⟨h.1,rfl⟩
 |some a=>
  rcases h with h|⟨g,os,yz,zN,ho⟩
  ·exact .inl ⟨rfl,h.2.1,rfl⟩
  obtain⟨hs,arr,T,fr,hh,hn,hb,hg⟩:=yz;refine .inr ⟨g,λ_=>[],⟨hs,arr,T,fr,hh,hn,λh=>ADl,hg⟩,λi hi=>hr _ _ _ ?_ (zN i hi),hz _ ?_,rfl,λ_ _=>rfl⟩
  ·cases own with
   |true=>intro b hb;rw[ho];exact AAM _ (AAL.2 ⟨i,AAX.2 hi,hb⟩)
   |false=>intro b hb;rw[ho.2.2 i hi]at hb;cases hb
  ·cases own with
   |true=>right;rw[ho];simp
   |false=>exact .inl ho.1
theorem CD.zero(h:CD n R false w fz v xs o):o=[]:=by
 obtain⟨A,c,hv,hc,h⟩:=h;cases A with
 |none=>exact h.2
 |some a=>
  rcases h with h|⟨g,os,yz,zN,ho⟩
  ·exact h.2.2
  ·exact ho.2.1
theorem CD.dep(h:CD n R own w fz v xs o)(hr:∀g x oi,R g x oi->∀b∈oi,b<w.heap.size):∀b∈o,b<w.heap.size:=by
 obtain⟨A,c,hv,hc,h⟩:=h;cases A with
 |none=>rw[h.2];simp
 |some a=>
  rcases h with h|⟨g,os,yz,zN,ho⟩
  ·rw[h.2.2];simp
  cases own with
  |false=>rw[ho.2.1];simp
  |true=>
   intro b hb;rw[ho]at hb;rcases AAd.1 hb with rfl|hb
   ·exact yz.lt
   ·obtain⟨i,hi,hb⟩:=AAL.1 hb;exact hr _ _ _ (zN i (AAX.1 hi)) b hb
end
mutual
theorem L.AI:∀(l:L) {d:Nat} {w w':World} {fz yw:Nat->Prop} {v:Value} {x:l.D} {o:Is},
  l.rd d w fz v x o->(∀b,b∈o\/fz b->w'.heap[b]?=w.heap[b]?)->(∀b,fz b->yw b)->l.rd d w' yw v x o
 | .int _,_,_,_,_,_,_,_,_,h,_,_=>h
 | .bool,_,_,_,_,_,_,_,_,h,_,_=>h
 | .str,_,_,_,_,_,_,_,_,h,_,_=>h
 | .sl _ e,d,w,w',fz,yw,v,x,o,h,hf,hz=>by rw[L.IK]at h ⊢;exact CD.imp h hf hz λg y oi ho hr=>Ls.AI e hr (λb hb=>hf b (hb.imp (ho b) id)) hz
theorem Ls.AI:∀(ls:Ls) {d:Nat} {w w':World} {fz yw:Nat->Prop} {g:Nat->Option Value} {x:ls.D} {o:Is},
  ls.rd d w fz g x o->(∀b,b∈o\/fz b->w'.heap[b]?=w.heap[b]?)->(∀b,fz b->yw b)->ls.rd d w' yw g x o
 | .nil,_,_,_,_,_,_,_,_,h,_,_=>h
 | .one l,d,w,w',fz,yw,g,x,o,h,hf,hz=>by simp only[Ls.rd]at h ⊢;obtain⟨v,hg,h⟩:=h;exact⟨v,hg,L.AI l h hf hz⟩
 | .cons l ls,d,w,w',fz,yw,g,x,o,h,hf,hz=>by simp only[Ls.rd]at h ⊢;obtain⟨v,o1,o2,hg,h1,h2,rfl⟩:=h;exact⟨v,o1,o2,hg,L.AI l h1 (λb hb=>hf b (hb.imp (AAV _) id)) hz,Ls.AI ls h2 (λb hb=>hf b (hb.imp (AAS _) id)) hz,rfl⟩
end
mutual
theorem L.Cg:∀(l:L) {d:Nat} {w:World} {fz yw:Nat->Prop} {v:Value} {x:l.D} {o:Is},
  l.rd d w fz v x o->(∀b,fz b\/b∈o->yw b)->l.rd 0 w yw v x []
 | .int _,_,_,_,_,_,_,_,h,_=>by simp only[L.rd]at h ⊢;exact⟨h.1,trivial⟩
 | .bool,_,_,_,_,_,_,_,h,_=>by simp only[L.rd]at h ⊢;exact⟨h.1,trivial⟩
 | .str,_,_,_,_,_,_,_,h,_=>by simp only[L.rd]at h ⊢;exact⟨h.1,trivial⟩
 | .sl _ e,d,w,fz,yw,v,x,o,h,hz=>by rw[L.IK]at h ⊢;exact CD.freeze h hz λg y oi ho hr=>Ls.Cg e hr λb hb=>hz b (hb.imp id (ho b))
theorem Ls.Cg:∀(ls:Ls) {d:Nat} {w:World} {fz yw:Nat->Prop} {g:Nat->Option Value} {x:ls.D} {o:Is},
  ls.rd d w fz g x o->(∀b,fz b\/b∈o->yw b)->ls.rd 0 w yw g x []
 | .nil,_,_,_,_,_,_,_,_,_=>rfl
 | .one l,d,w,fz,yw,g,x,o,h,hz=>by simp only[Ls.rd]at h ⊢;obtain⟨v,hg,h⟩:=h;exact⟨v,hg,L.Cg l h hz⟩
 | .cons l ls,d,w,fz,yw,g,x,o,h,hz=>by simp only[Ls.rd]at h ⊢;obtain⟨v,o1,o2,hg,h1,h2,rfl⟩:=h;exact⟨v,[],[],hg,L.Cg l h1 (λb hb=>hz b (hb.imp id (AAV _))),Ls.Cg ls h2 (λb hb=>hz b (hb.imp id (AAS _))),rfl⟩
end
mutual
theorem L.Bn:∀(l:L) {w:World} {fz:Nat->Prop} {v:Value} {x:l.D} {o:Is},l.rd 0 w fz v x o->o=[]
 | .int _,_,_,_,_,_,h=>h.2
 | .bool,_,_,_,_,_,h=>h.2
 | .str,_,_,_,_,_,h=>h.2
 | .sl _ e,w,fz,v,x,o,h=>by rw[L.IK]at h;exact CD.zero h
theorem Ls.Bn:∀(ls:Ls) {w:World} {fz:Nat->Prop} {g:Nat->Option Value} {x:ls.D} {o:Is},ls.rd 0 w fz g x o->o=[]
 | .nil,_,_,_,_,_,h=>h
 | .one l,w,fz,g,x,o,h=>by simp only[Ls.rd]at h;obtain⟨v,hg,h⟩:=h;exact L.Bn l h
 | .cons l ls,w,fz,g,x,o,h=>by simp only[Ls.rd]at h;obtain⟨v,o1,o2,hg,h1,h2,rfl⟩:=h;rw[L.Bn l h1,Ls.Bn ls h2];rfl
end
mutual
theorem L.GU:∀(l:L) {d:Nat} {w:World} {fz:Nat->Prop} {v:Value} {x:l.D} {o:Is},l.rd d w fz v x o->∀b∈o,b<w.heap.size
 | .int _,_,_,_,_,_,_,h=>by simp only[L.rd]at h;rw[h.2];simp
 | .bool,_,_,_,_,_,_,h=>by simp only[L.rd]at h;rw[h.2];simp
 | .str,_,_,_,_,_,_,h=>by simp only[L.rd]at h;rw[h.2];simp
 | .sl _ e,d,w,fz,v,x,o,h=>by rw[L.IK]at h;exact CD.dep h λg y oi hr=>Ls.GU e hr
theorem Ls.GU:∀(ls:Ls) {d:Nat} {w:World} {fz:Nat->Prop} {g:Nat->Option Value} {x:ls.D} {o:Is},ls.rd d w fz g x o->∀b∈o,b<w.heap.size
 | .nil,_,_,_,_,_,_,h=>by simp only[Ls.rd]at h;rw[h];simp
 | .one l,d,w,fz,g,x,o,h=>by simp only[Ls.rd]at h;obtain⟨v,hg,h⟩:=h;exact L.GU l h
 | .cons l ls,d,w,fz,g,x,o,h=>by
  simp only[Ls.rd]at h;obtain⟨v,o1,o2,hg,h1,h2,rfl⟩:=h;intro b hb;rcases ABL.1 hb with hb|hb
  ·exact L.GU l h1 b hb
  ·exact Ls.GU ls h2 b hb
end
def AD(e:Ls)(d:Nat)(w:World)(fz:Nat->Prop)(v:Value)(xs:List e.D)(o:Is):Prop:=
 CD e.n (λg y o=>e.rd (dec d) w fz g y o) (decide (0<d)) w fz v xs o
theorem L.Kx{t:TypeId}{e:Ls}{d:Nat}{w:World}{fz:Nat->Prop}{v:Value}{x:(L.sl t e).D}{o:Is}:
  (L.sl t e).rd d w fz v x o↔AD e d w fz v x o:=Iff.rfl
section
variable {e:Ls}{d:Nat}{w w':World}{fz yw:Nat->Prop}{v:Value}{xs:List e.D}{o:Is}
theorem AD.frame(h:AD e d w fz v xs o)(hf:∀b,b∈o\/fz b->w'.heap[b]?=w.heap[b]?)(hz:∀b,fz b->yw b):AD e d w' yw v xs o:=L.AI (.sl 0 e) h hf hz
theorem AD.freeze(h:AD e d w fz v xs o)(hz:∀b,fz b\/b∈o->yw b):AD e 0 w yw v xs []:=L.Cg (.sl 0 e) h hz
theorem AD.zero(h:AD e 0 w fz v xs o):o=[]:=L.Bn (.sl 0 e) h
theorem AD.dep(h:AD e d w fz v xs o):∀b∈o,b<w.heap.size:=L.GU (.sl 0 e) h
end
end Go.Ev
namespace Go.Ev
structure Loc where
 r:Nat
 j:Nat
 AA:Nat
 gen:Nat
 p:List (Nat×Nat)
inductive LA where
 |bad
 |undef
 |DN
 |JY
 |sc (l:L) (x:l.D)
 |ref (c:Loc)
 |EI (c:Loc) (lo hi:Nat)
 |ptr (r j AA:Nat)
 |Bm (c:Loc)
 |EC (e:Ls) (x:e.D) (off:Nat)
 |fn (f:FuncId)
 |JR (t:TypeId) (c:Loc)
 |EM (g:FuncId) (ps qs:List (Nat×Nat))
 |arr (AA gen:Nat) (t:TypeId) (e:Ls) (xs:List e.D) (d:Nat)
inductive AV where
 |v (agg:Bool) (ls:List LA)
 |Dr (vs:List (Bool×List LA))
 |bx (ls:List LA)
structure Bo where
 box:Bool
 AA:Nat
 ls:List LA
structure St where
 sl:List AV
 ro:List Bo
 Bp:Nat
def nth{α:Type}(d:α):List α->Nat->α
 | [],_=>d
 |x::_,0=>x
 |_::xs,n+1=>nth d xs n
def Ca{α:Type}:List α->Nat->α->List α
 | [],_,_=>[]
 |_::xs,0,y=>y::xs
 |x::xs,n+1,y=>x::Ca xs n y
def isNil{α:Type}:List α->Bool
 | []=>true
 |_::_=>false
def has(ms:Is)(t:Nat):Bool:=match ms with
 | []=>false
 |m::ms=>m==t||has ms t
def dead:Bo:=⟨false,0,[]⟩
def St.slot(s:St)(t:Nat):AV:=nth (.v false [.bad]) s.sl t
def St.root(s:St)(r:Nat):Bo:=nth dead s.ro r
def St.leaf(s:St)(r j:Nat):LA:=nth .bad (s.root r).ls j
inductive Wr where
 |slot (t:Nat) (a:AV)
 |root (r:Nat) (x:Bo)
 |leaf (r j:Nat) (a:LA)
 |half (r j v:Nat)
def LA.Ci(v:Nat):LA->LA
 | .arr AA _ t e xs (_+1)=>.arr AA v t e xs 1
 |a=>a
def St.AF(s:St):Wr->St
 | .slot t a=>{ s with sl:=Ca s.sl t a }
 | .root r x=>{ s with ro:=Ca s.ro r x }
 | .leaf r j a=>{ s with ro:=Ca s.ro r { s.root r with ls:=Ca (s.root r).ls j a } }
 | .half r j v=>{ s with ro:=Ca s.ro r { s.root r with ls:=Ca (s.root r).ls j ((s.leaf r j).Ci v) } }
def St.app(s:St):List Wr->St
 | []=>s
 |w::ws=>(s.AF w).app ws
inductive Step(β:Type) where
 |none
 |go (s:β)
 |NC {α:Type} (m:Option α) (f:α->Step β)
 |iff (b:Bool) (x y:Step β)
def Step.run{β R:Type}(k:β->Option R):Step β->Option R
 | .none=>Option.none
 | .go s=>k s
 | .NC m f=>m.bind λx=>(f x).run k
 | .iff b x y=>bif b then x.run k else y.run k
def Step.leads{β:Type}(t:β):Step β->Prop
 | .none=>False
 | .go s=>s=t
 | .NC m f=>∃x,m=some x/\(f x).leads t
 | .iff b x y=>match b with
  |true=>x.leads t
  |false=>y.leads t
theorem Step.C3{β R:Type}{k:β->Option R}{r:R}:∀(s:Step β),s.run k=some r->∃t,s.leads t/\k t=some r
 | .none,h=>by simp[Step.run]at h
 | .go s,h=>⟨s,rfl,h⟩
 | .NC m f,h=>by
  simp only[Step.run]at h;cases m with
  |none=>simp at h
  |some x=>obtain⟨t,a,b⟩:=Step.C3 (f x) h;exact⟨t,⟨x,rfl,a⟩,b⟩
 | .iff b x y,h=>by
  simp only[Step.run]at h;cases b with
  |true=>obtain⟨t,a,b⟩:=Step.C3 x h;exact⟨t,a,b⟩
  |false=>obtain⟨t,a,b⟩:=Step.C3 y h;exact⟨t,a,b⟩
variable {β:Type}
structure Ty where
 agg:Bool
 ls:Ls
 fs:List (Nat×TypeId)
 eq:Bool
def IB{α:Type}:List α->Nat->Option α
 | [],_=>none
 |x::_,0=>some x
 |_::xs,n+1=>IB xs n
def E6:List L->Ls
 | []=>.nil
 | [l]=>.one l
 |l::m::r=>.cons l (E6 (m::r))
inductive PM where
 |val (agg:Bool) (ls:List L)
 |box (ls:List (L×Nat))
 |row (agg:Bool) (ls:List (L×Nat))
 |fn (f:FuncId)
def PM.ins:PM->List L
 | .val _ ls=>ls
 | .box ls=>ls.map (·.1)
 | .row _ ls=>ls.map (·.1)
 | .fn _=>[]
def PM.outs:PM->List (L×Nat)
 | .val _ _=>[]
 | .box ls=>ls
 | .row _ ls=>ls
 | .fn _=>[]
structure Sm where
 ps:List PM
 rs:List (Bool×List (L×Nat))
def Sm.ins(s:Sm):Ls:=E6 (s.ps.flatMap PM.ins)
def Sm.G4(s:Sm):List (L×Nat):=s.rs.flatMap (·.2)++s.ps.flatMap PM.outs
def Sm.outs(s:Sm):Ls:=E6 (s.G4.map (·.1))
def Sm.mk?(s:Sm):Bool:=match s.rs with
 | [(false,_::_::_)]=>true
 |_=>false
def PM.isVal:PM->Bool
 | .val _ _=>true
 |_=>false
def Sm.plain(s:Sm):Bool:=s.ps.all PM.isVal&&s.G4.all λp=>p.2==0
structure NB where
 s:Sm
 f:s.ins.D->Option s.outs.D
inductive Ka where
 |box (ls:List L)
 |EM (g:FuncId) (bs:List (List L))
 |row
def Ka.kinds:Ka->List L
 | .box ls=>ls
 | .EM _ bs=>bs.flatten
 | .row=>[]
structure Oa where
 t:TypeId
 JN:List Ka
 lt:(E6 (JN.flatMap Ka.kinds)).D->Int->Int->Option Bool
structure Env where
 fn:FuncId->Option NB
 PX:FuncId->FuncId->Option Oa
 PF:TypeId->Bool
structure Cx where
 ty:TypeId->Option Ty
 env:Env
 lock:Nat->Bool
 FI:Nat->Bool
 Kc:Nat->Bool
def JW:(e:Ls)->Nat->e.D->((t:TypeId)->(f:Ls)->List f.D->Step β)->Step β
 | .nil,_,_,_=>.none
 | .one l,0,x,k=>match l,x with
  | .sl t f,xs=>k t f xs
  |_,_=>.none
 | .one _,_+1,_,_=>.none
 | .cons l ls,0,x,k=>match l,x with
  | .sl t f,xs=>k t f xs.1
  |_,_=>.none
 | .cons _ ls,j+1,x,k=>JW ls j x.2 k
def Oo(k:(t:TypeId)->(e:Ls)->List e.D->Nat->Step β):(p:List (Nat×Nat))->(t:TypeId)->(e:Ls)->List e.D->Nat->Step β
 | [],t,e,xs,d=>k t e xs d
 |(i,j)::p,_,e,xs,d=>.NC (xs[i]?) λx=>JW e j x λt f ys=>Oo k p t f ys (dec d)
def St.content(s:St)(c:Loc)(k:(t:TypeId)->(e:Ls)->List e.D->Nat->Step β):Step β:=match s.leaf c.r c.j with
 | .arr AA gen t e xs d=>if AA==c.AA&&(isNil c.p||gen==c.gen)then Oo k c.p t e xs d else .none
 |_=>.none
def JQ{α:Type}(xs:List α)(i:Int):Option α:=if 0<=i then xs[i.toNat]? else none
def O3{α:Type}(xs:List α)(i:Int):Bool:=decide (0<=i)&&decide (i<xs.length)
def sub{α:Type}(xs:List α)(lo hi:Nat):List α:=(xs.drop lo).take (hi-lo)
def St.Au(s:St)(l:L)(a:LA)(k:l.D->Step β):Step β:=match a with
 | .sc m x=>match L.cast l (a:=m) x with
  |some y=>k y
  |none=>.none
 | .DN=>match l,k with
  | .sl _ _,k=>k []
  |_,_=>.none
 | .ref c=>s.content c λt e xs _=>match L.cast l (a:=.sl t e) xs with
  |some y=>k y
  |none=>.none
 | .EI c lo hi=>s.content c λt e xs _=>match L.cast l (a:=.sl t e) (sub xs lo hi)with
  |some y=>k y
  |none=>.none
 |_=>.none
def St.data(s:St):List L->List LA->(List Lv->Step β)->Step β
 | [],[],k=>k []
 |l::ls,a::as,k=>s.Au l a λx=>s.data ls as λvs=>k (⟨l,x⟩::vs)
 |_,_,_=>.none
def Bu:(e:Ls)->Nat->List Lv->Option (e.D->e.D)
 | .nil=>λ_ _=>none
 | .one l=>λoff vs=>match off,vs with
  |0,[v]=>match L.cast l v.x with
   |some y=>some λ_=>y
   |none=>none
  |_,_=>none
 | .cons l ls=>λoff vs=>match off with
  |0=>match vs with
   | []=>none
   | [v]=>match L.cast l v.x with
    |some y=>some λx=>(y,x.2)
    |none=>none
   |v::u::vs=>match L.cast l v.x,Bu ls 0 (u::vs)with
    |some y,some f=>some λx=>(y,f x.2)
    |_,_=>none
  |off+1=>match Bu ls off vs with
   |some f=>some λx=>(x.1,f x.2)
   |none=>none
def CK:(e:Ls)->Nat->((t:TypeId)->(f:Ls)->Option (List f.D->List f.D))->Option (e.D->e.D)
 | .nil=>λ_ _=>none
 | .one l=>λj g=>match j with
  |0=>match l with
   | .sl t f=>g t f
   |_=>none
  |_+1=>none
 | .cons l ls=>λj g=>match j with
  |0=>match l with
   | .sl t f=>match g t f with
    |some h=>some λx=>(h x.1,x.2)
    |none=>none
   |_=>none
  |j+1=>match CK ls j g with
   |some h=>some λx=>(x.1,h x.2)
   |none=>none
def G3(vs:List Lv):(p:List (Nat×Nat))->(e:Ls)->Option (List e.D->List e.D)
 | [],_=>none
 |(i,j)::p,e=>match p with
  | []=>match(if j==0&&vs.length==e.n then pack e vs else none)with
   |some y=>some λxs=>Ca xs i y
   |none=>match Bu e j vs with
    |some f=>some λxs=>xs.modify i f
    |none=>none
  |_::_=>match CK e j λ_ f=>G3 vs p f with
   |some h=>some λxs=>xs.modify i h
   |none=>none
def H4(g:(t:TypeId)->(e:Ls)->Option (List e.D->List e.D)):(p:List (Nat×Nat))->(t:TypeId)->(e:Ls)->Option (List e.D->List e.D)
 | [],t,e=>g t e
 |(i,j)::p,_,e=>match CK e j λt f=>H4 g p t f with
  |some h=>some λxs=>xs.modify i h
  |none=>none
def OU(x:Lv)(t:TypeId)(e:Ls):Option (List e.D->List e.D):=match L.cast (a:=x.l) (.sl t e) x.x with
 |some y=>some λ_=>y
 |none=>none
def ofConst:Value->LA
 | .int k n=>.sc (.int k) (show Int from n)
 | .bool b=>.sc .bool (show Bool from b)
 | .string s=>.sc .str (show ADi from s.data.toList)
 | .slice none 0 0=>.DN
 | .pointer none=>.JY
 |_=>.bad
def St.Ao(s:St):Operand->AV
 | .tmp t=>s.slot t
 | .const (.agg cs)=>.v true (cs.toList.map ofConst)
 | .const v=>.v false [ofConst v]
 | .func f=>.v false [.fn f]
 | .global _=>.v false [.bad]
def AV.one?:AV->LA
 | .v false [a]=>a
 |_=>.bad
def St.Ai(s:St)(x:Operand):LA:=(s.Ao x).one?
def Bx:L->Bool
 | .sl _ _=>true
 |_=>false
def Br:Ls->Bool
 | .nil=>true
 | .one l => !Bx l
 | .cons l ls => !Bx l&&Br ls
def JH(v:Nat):L->LA
 | .int k=>.sc (.int k) (show Int from 0)
 | .bool=>.sc .bool (show Bool from false)
 | .str=>.sc .str (show ADi from [])
 | .sl t e=>.arr v v t e [] 2
def LQ:(l:L)->l.D
 | .int _=>(0:Int)
 | .bool=>false
 | .str=>([]:ADi)
 | .sl _ e=>([]:List e.D)
def Fg:(ls:Ls)->ls.D
 | .nil=>()
 | .one l=>LQ l
 | .cons l ls=>(LQ l,Fg ls)
def St.take(cx:Cx)(s:St)(v:Nat)(a:LA)(l:L)(k:LA->List (Nat×Nat)->Step β):Step β:=match a with
 | .sc m x=>if L.eq? m l then k (.sc m x) []else .none
 | .DN=>match l with
  | .sl t e=>k (.arr v v t e [] 2) []
  |_=>.none
 | .ref c=>match s.leaf c.r c.j with
  | .arr AA _ t e xs d=>match d with
   |0=>s.content c λt e ys _=>if L.eq? l (.sl t e)then k (.sc (.sl t e) ys) []else .none
   |d+1=>if AA==c.AA&&isNil c.p && !cx.Kc c.r&&L.eq? l (.sl t e)then k (.arr v v t e xs (d+1)) [(c.r,c.j)]else .none
  |_=>.none
 | .EI c lo hi=>match s.leaf c.r c.j with
  | .arr AA _ t e xs d=>if AA==c.AA&&isNil c.p && !cx.Kc c.r&&L.eq? l (.sl t e)then k (.arr v v t e (sub xs lo hi) d) [(c.r,c.j)]else .none
  |_=>.none
 | .ptr r j AA=>if(s.root r).box&&(s.root r).AA==AA then k (.ptr r j AA) []else .none
 | .fn f=>k (.fn f) []
 |_=>.none
def St.GA(cx:Cx)(s:St)(v:Nat):List L->List LA->(List LA->List (Nat×Nat)->Step β)->Step β
 | [],[],k=>k [] []
 |l::ls,a::as,k=>s.take cx v a l λb us=>s.GA cx v ls as λbs vs=>if us.all λu => !vs.contains u then k (b::bs) (us++vs)else .none
 |_,_,_=>.none
def gone(us:List (Nat×Nat)):List Wr:=us.map λu=>.leaf u.1 u.2 .bad
end Go.Ev
namespace Go.Ev
variable {β:Type}
def one(a:LA):AV:=.v false [a]
def Ih(k:IntKind)(n:Int):AV:=one (.sc (.int k) (show Int from n))
def Ig(b:Bool):AV:=one (.sc .bool (show Bool from b))
def O7(s:ADi):AV:=one (.sc .str (show ADi from s))
def isZero:Operand->Bool
 | .const (.int _ n)=>n==0
 |_=>true
def Oi(k:IntKind)(x y:Int):Int:=k.wrap (BitVec.ofInt k.bits x &&& BitVec.ofInt k.bits y).toNat
def PW(k:IntKind)(x y:Int):Int:=k.wrap (BitVec.ofInt k.bits x ||| BitVec.ofInt k.bits y).toNat
def Oz(k:IntKind)(x y:Int):Int:=k.wrap (BitVec.ofInt k.bits x ^^^ BitVec.ofInt k.bits y).toNat
def OX(k:IntKind)(x y:Int):Int:=k.wrap (x*2 ^ (min y.toNat k.bits))
def OY(k:IntKind)(x y:Int):Int:=x.fdiv (2 ^ (min y.toNat k.bits))
def MO(op:BinOp)(y:Operand)(i:IntKind)(a b:Int)(k:AV->Step β):Step β:=match op with
 | .quo=>if isZero y then .iff (b==0) .none (k (Ih i (i.wrap (Int.tdiv a b))))else k (Ih i (i.wrap (Int.tdiv a b)))
 | .rem=>if isZero y then .iff (b==0) .none (k (Ih i (Int.tmod a b)))else k (Ih i (Int.tmod a b))
 | .add=>k (Ih i (i.wrap (a+b)))
 | .sub=>k (Ih i (i.wrap (a-b)))
 | .mul=>k (Ih i (i.wrap (a*b)))
 | .eql=>k (Ig (a==b))
 | .neq=>k (Ig (a != b))
 | .lss=>k (Ig (decide (a<b)))
 | .leq=>k (Ig (decide (a<=b)))
 | .gtr=>k (Ig (decide (a>b)))
 | .geq=>k (Ig (decide (a>=b)))
 | .and=>k (Ih i (Oi i a b))
 | .or=>k (Ih i (PW i a b))
 | .xor=>k (Ih i (Oz i a b))
 | .shl=>.iff (decide (0<=b)) (k (Ih i (OX i a b))) .none
 | .shr=>.iff (decide (0<=b)) (k (Ih i (OY i a b))) .none
 |_=>.none
def N6(op:BinOp)(a b:Bool)(k:AV->Step β):Step β:=match op with
 | .eql=>k (Ig (a==b))
 | .neq=>k (Ig (a != b))
 |_=>.none
def N7(op:BinOp)(a b:ADi)(k:AV->Step β):Step β:=match op with
 | .eql=>k (Ig (a==b))
 | .neq=>k (Ig (!(a==b)))
 | .add=>.iff (decide (a.length+b.length<=4611686018427387904)) (k (O7 (a++b))) .none
 |_=>.none
def Il(cx:Cx)(t:TypeId)(l:L):Bool:=match cx.ty t with
 |some ty => !ty.agg&&Ls.eq? ty.ls (.one l)
 |none=>false
def isRow(cx:Cx)(t:TypeId)(e:Ls):Bool:=match cx.ty t with
 |some ty => !ty.agg&&match ty.ls with
  | .one (.sl _ f)=>Ls.eq? f e
  |_=>false
 |none=>false
def HD:BinOp->Bool
 | .shl=>true
 | .shr=>true
 |_=>false
def binop(isb:Bool)(op:BinOp)(y:Operand)(a b:LA)(k:AV->Step β):Step β:=match a,b with
 | .sc l a,.sc m b=>match l,a,m,b with
  | .int i,a,.int j,b=>if IntKind.code i==IntKind.code j||HD op then MO op y i a b k else .none
  | .bool,a,.bool,b=>if isb then N6 op a b k else .none
  | .str,a,.str,b=>N7 op a b k
  |_,_,_,_=>.none
 |_,_=>.none
def OW(l:L)(a b:LA):Option Bool:=match l with
 | .int k=>match a,b with
  | .sc (.int i) x,.sc (.int j) y=>if IntKind.code i==IntKind.code k&&IntKind.code j==IntKind.code k then some ((show Int from x)==(show Int from y))else none
  |_,_=>none
 | .bool=>match a,b with
  | .sc .bool x,.sc .bool y=>some ((show Bool from x)==(show Bool from y))
  |_,_=>none
 | .str=>match a,b with
  | .sc .str x,.sc .str y=>some ((show ADi from x)==(show ADi from y))
  |_,_=>none
 | .sl _ _=>none
def Fk:List L->List LA->List LA->Option Bool
 | [],[],[]=>some true
 |l::ls,a::as,b::bs=>match OW l a b,Fk ls as bs with
  |some p,some q=>some (p&&q)
  |_,_=>none
 |_,_,_=>none
def MI(cx:Cx)(op:BinOp)(tx:TypeId)(as bs:List LA)(k:AV->Step β):Step β:=match cx.ty tx with
 |some ty=>if ty.eq then match Fk ty.ls.kinds as bs with
   |some q=>match op with
    | .eql=>k (Ig q)
    | .neq=>k (Ig (!q))
    |_=>.none
   |none=>.none
  else .none
 |none=>.none
def OM(a:Int):Int:=0-a
def Nc(a b:Int):Int:=bif decide (b<a)then b else a
def Nb(a b:Int):Int:=bif decide (b>a)then b else a
def seen(r j:Nat)(a:LA):LA:=match a with
 | .arr AA _ _ _ _ _=>.ref ⟨r,j,AA,AA,[]⟩
 |b=>b
def BC(r:Nat):Nat->List LA->List LA
 |_,[]=>[]
 |j,a::as=>seen r j a::BC r (j+1) as
def IU(r j:Nat)(a:LA):LA:=match a with
 | .arr AA gen t e xs d=>match d with
  |0=>.sc (.sl t e) xs
  |_+1=>.ref ⟨r,j,AA,AA,[]⟩
 |b=>b
def BJ(r:Nat):Nat->List LA->List LA
 |_,[]=>[]
 |j,a::as=>IU r j a::BJ r (j+1) as
def Bq(c:Loc)(i:Nat)(d:Nat):Nat->List Lv->List LA
 |_,[]=>[]
 |off,v::vs=>(if Bx v.l&&decide (0<d)then LA.ref { c with p:=c.p++[(i,off)] }else .sc v.l v.x)::Bq c i d (off+1) vs
def Aj:List (Nat×Nat)->Option (List (Nat×Nat)×Nat×Nat)
 | []=>none
 | [x]=>some ([],x.1,x.2)
 |x::y::r=>match Aj (y::r)with
  |some (q,i,off)=>some (x::q,i,off)
  |none=>none
def St.KA(s:St)(r j:Nat):Nat:=match s.leaf r j with
 | .arr _ gen _ _ _ _=>gen
 |_=>0
def St.DG(s:St)(a:LA)(n:Nat)(k:List LA->Step β):Step β:=match a with
 | .ptr r j AA=>if(s.root r).box&&(s.root r).AA==AA&&decide (j+n<=(s.root r).ls.length)then k (BJ r j (((s.root r).ls.drop j).take n))else .none
 | .EC e x off=>k ((((unpack e x).drop off).take n).map λv=>.sc v.l v.x)
 | .Bm c=>match Aj c.p with
  |none=>.none
  |some (q,i,off)=>s.content { c with p:=q } λt e xs d=>.NC (xs[i]?) λx=>k (Bq { c with p:=q,gen:=s.KA c.r c.j } i (dec d) off (((unpack e x).drop off).take n))
 |_=>.none
def St.FX(s:St)(a:AV)(n:Nat)(k:List LA->Step β):Step β:=match a with
 | .bx as=>if decide (n<=as.length)then k (as.take n)else .none
 |a=>s.DG a.one? n k
def MY(s:St)(as:List LA):Bool:=as.any λa=>match a with
 | .ref c=>c.AA==1 && !(s.root c.r).box
 |_=>false
def St.alive(s:St):LA->Bool
 | .ptr r j AA=>(s.root r).box&&(s.root r).AA==AA
 | .Bm c=>match s.leaf c.r c.j with
  | .arr AA gen _ _ _ _=>AA==c.AA&&(decide (c.p.length<=1)||gen==c.gen)
  |_=>false
 | .EC _ _ _=>true
 |_=>false
def St.setAt(s:St)(g:Nat)(c:Loc)(h:(e:Ls)->Option (List e.D->List e.D)):Option (List Wr):=match s.leaf c.r c.j with
 | .arr AA gen t e xs d=>if AA==c.AA&&(isNil c.p||gen==c.gen)then match h e with
   |some f=>some [.leaf c.r c.j (.arr AA g t e (f xs) d)]
   |none=>none
  else none
 |_=>none
def St.KS(s:St)(g:Nat)(c:Loc)(vs:List Lv):Option (List Wr):=match s.leaf c.r c.j with
 | .arr AA gen t e xs d=>if AA==c.AA&&(decide (c.p.length<=1)||gen==c.gen)&&decide (0<d)&&(decide (c.p.length<=1)||d==2)then match G3 vs c.p e with
   |some f=>some [.leaf c.r c.j (.arr AA g t e (f xs) d)]
   |none=>none
  else none
 |_=>none
def BE(r:Nat):Nat->List LA->List Wr
 |_,[]=>[]
 |j,a::as=>.leaf r j a::BE r (j+1) as
def St.half(s:St)(r j:Nat):Bool:=match s.leaf r j with
 | .arr _ _ _ _ _ 1=>true
 |_=>false
def OG:LA->Bool
 | .sc _ _=>true
 |_=>false
def St.C4(s:St)(v:Nat)(c:Loc)(ls:List L)(as:List LA)(k:List Wr->Step β):Step β:=match s.leaf c.r c.j with
 | .arr AA _ t e xs 1=>if AA==c.AA&&as.all OG then s.data ls as λvs=>match G3 vs c.p e with
   |some f=>k [.leaf c.r c.j (.arr AA v t e (f xs) 1)]
   |none=>.none
  else .none
 |_=>.none
def St.GZ(cx:Cx)(s:St)(v:Nat)(a:LA)(ls:List L)(as:List LA)(k:List Wr->Step β):Step β:=match a with
 | .ptr r j AA=>if(s.root r).box&&(s.root r).AA==AA&&decide (j+ls.length<=(s.root r).ls.length)then s.GA cx v ls as λbs us=>k (gone us++BE r j bs)else .none
 | .Bm c=>if ls.all λl => !Bx l then s.data ls as λvs=>match s.KS v c vs with
   |some ws=>k ws
   |none=>.none
  else match c.p with
   | [_]=>if s.half c.r c.j then s.C4 v c ls as k else s.GA cx v ls as λbs us=>if us.all λu => !(u.1==c.r&&u.2==c.j)then match bs.mapM λb=>match b with
      | .arr _ _ t e xs 2=>some (⟨.sl t e,xs⟩:Lv)
      | .sc l x=>if Bx l then none else some ⟨l,x⟩
      |_=>none with
     |some vs=>match s.leaf c.r c.j with
      | .arr AA _ t e xs 2=>if AA==c.AA then match G3 vs c.p e with
        |some f=>k (gone us++[.leaf c.r c.j (.arr AA v t e (f xs) 2)])
        |none=>.none
       else .none
      |_=>.none
     |none=>.none
    else .none
   |_=>.none
 |_=>.none
def BD:LA->LA
 | .arr AA gen t e xs _=>.arr AA gen t e xs 0
 |a=>a
def NW:LA->Bool
 | .arr _ _ _ _ _ (_+1)=>false
 |_=>true
def St.B3(s:St)(r:Nat):Bool:=(s.root r).ls.all NW
def DB(s:St)(r:Nat):List Wr:=if s.B3 r then []else BE r 0 ((s.root r).ls.map BD)
def Ar(cx:Cx)(s:St):Is->Option (List Wr)
 | []=>some []
 |r::rs=>if cx.Kc r then none else match Ar cx s rs with
  |some ws=>some (DB s r++ws)
  |none=>none
def H7:List LA->Is
 | []=>[]
 | .ref c::as=>if isNil c.p then H7 as else c.r::H7 as
 |_::as=>H7 as
def Mh(q:LA)(as:List LA):Is:=match q with
 | .ptr _ _ _=>H7 as
 |_=>[]
def GY(cx:Cx)(v:Nat)(s:St)(dst:Option Tmp)(q:LA)(ls:List L)(as:List LA)(fs:List Wr):Step (List Wr):=s.GZ cx v q ls as λws=>match dst with
 |none=>.go (fs++ws)
 |some _=>.none
def OJ(a:LA)(k:Int->Step β):Step β:=match a with
 | .sc l x=>match l,x with
  | .str,x=>k (List.length (α:=UInt8) x:Int)
  |_,_=>.none
 |_=>.none
def lenOf(s:St)(a:LA)(k:Int->Step β):Step β:=match a with
 | .sc l x=>match l,x with
  | .sl _ e,x=>k (List.length (α:=e.D) x:Int)
  |_,_=>.none
 | .DN=>k 0
 | .ref c=>s.content c λt e xs _=>k (xs.length:Int)
 | .EI c lo hi=>s.content c λt e xs _=>k ((sub xs lo hi).length:Int)
 |_=>.none
def asInt(a:LA)(k:Int->Step β):Step β:=match a with
 | .sc l n=>match l,n with
  | .int _,n=>k n
  |_,_=>.none
 |_=>.none
def Dg(s:St)(x:Option Operand)(d:Int)(k:Int->Step β):Step β:=match x with
 |none=>k d
 |some x=>asInt (s.Ai x) k
def ownRow(d v:Nat)(t:TypeId)(e:Ls)(xs:List e.D):List Wr:=[.root d ⟨false,v,[.arr v v t e xs 2]⟩,.slot d (one (.ref ⟨d,0,v,v,[]⟩))]
def GR(d v:Nat)(ls:List LA):List Wr:=[.root d ⟨true,v,ls⟩,.slot d (one (.ptr d 0 v))]
def Eh(cx:Cx)(s:St)(a:LA)(t:TypeId)(e:Ls)(k:List e.D->List (Nat×Nat)->Step β):Step β:=
 if Br e then s.Au (.sl t e) a λys=>k ys []else match a with
  | .ref c=>match s.leaf c.r c.j with
   | .arr AA _ t' e' xs d=>if AA==c.AA&&isNil c.p && !cx.Kc c.r&&d==2 then match L.cast (a:=.sl t' e') (.sl t e) xs with
     |some ys=>k ys [(c.r,c.j)]
     |none=>.none
    else .none
   |_=>.none
  |_=>.none
def Dj:Nat:=68719476736
def C7(cx:Cx)(s:St)(d v:Nat)(t:TypeId)(e:Ls)(a b:LA)(k:List Wr->Step β):Step β:=match a with
 | .DN=>Eh cx s b t e λys us=>.iff (decide (ys.length<=Dj)) (k (gone us++ownRow d v t e ys)) .none
 | .ref c=>match s.leaf c.r c.j with
  | .arr AA _ t' e' xs dd=>if AA==c.AA&&isNil c.p && !cx.Kc c.r&&dd==2 then match L.cast (a:=.sl t' e') (.sl t e) xs with
    |some xs=>Eh cx s b t e λys us=>if us.contains (c.r,c.j)then .none else .iff (decide (List.length (α:=e.D) xs+ys.length<=Dj)) (k (gone ((c.r,c.j)::us)++ownRow d v t e (List.append (α:=e.D) xs ys))) .none
    |none=>.none
   else .none
  |_=>.none
 | .EI c lo hi=>match s.leaf c.r c.j with
  | .arr AA _ t' e' xs dd=>if AA==c.AA&&isNil c.p && !cx.Kc c.r&&dd==2&&Br e then match L.cast (a:=.sl t' e') (.sl t e) xs with
    |some xs=>Eh cx s b t e λys us=>if us.contains (c.r,c.j)then .none else .iff (decide ((sub (α:=e.D) xs lo hi).length+ys.length<=Dj)) (k (gone ((c.r,c.j)::us)++ownRow d v t e (sub (α:=e.D) xs lo hi++ys))) .none
    |none=>.none
   else .none
  |_=>.none
 |_=>.none
def D4(cx:Cx)(s:St)(d v:Nat)(t:TypeId)(e:Ls)(c:Loc)(b:LA)(k:List Wr->Step β):Step β:=match s.leaf c.r c.j with
 | .arr AA gen t0 e0 xs 2=>if AA==c.AA&&gen==c.gen && !cx.Kc c.r&&Br e then
   s.content c λt' e' ys0 _=>match L.cast (a:=.sl t' e') (.sl t e) ys0 with
    |some ys0=>s.Au (.sl t e) b λys=>.iff (decide (List.length (α:=e.D) ys0+List.length (α:=e.D) ys<=Dj)) (k [.half c.r c.j v,.slot d (one (.sc (.sl t e) (List.append (α:=e.D) ys0 ys)))]) .none
    |none=>.none
  else .none
 |_=>.none
def nested(a:LA):Option Loc:=match a with
 | .ref c=>match c.p with
  | [_]=>some c
  |_=>none
 |_=>none
def Ee(s:St)(a:LA):Option Loc:=match a with
 | .ref c=>match c.p with
  | []=>if s.half c.r c.j then some c else none
  |_=>none
 |_=>none
def D3(cx:Cx)(s:St)(d v:Nat)(t:TypeId)(e:Ls)(c:Loc)(b:LA)(k:List Wr->Step β):Step β:=match s.leaf c.r c.j with
 | .arr AA _ t' e' xs 1=>if AA==c.AA && !cx.Kc c.r&&OG b then match L.cast (a:=.sl t' e') (.sl t e) xs with
   |some xs=>s.Au (.sl t e) b λys=>.iff (decide (List.length (α:=e.D) xs+List.length (α:=e.D) ys<=Dj)) (k (gone [(c.r,c.j)]++[.root d ⟨false,v,[.arr v v t e (List.append (α:=e.D) xs ys) 1]⟩,.slot d (one (.ref ⟨d,0,v,v,[]⟩))])) .none
   |none=>.none
  else .none
 |_=>.none
def Du(cx:Cx)(s:St)(d v:Nat)(t:TypeId)(e:Ls)(a b:LA)(k:List Wr->Step β):Step β:=match nested a with
 |some c=>D4 cx s d v t e c b k
 |none=>match Ee s a with
  |some c=>D3 cx s d v t e c b k
  |none=>C7 cx s d v t e a b k
def Eo:List LA->Nat->List LA->List LA
 |ls,_,[]=>ls
 |ls,j,a::as=>Eo (Ca ls j a) (j+1) as
def St.sure(s:St):LA->Bool
 | .sc _ _=>true
 | .DN=>true
 | .JY=>true
 | .EC _ _ _=>true
 | .fn _=>true
 | .ptr r j AA=>(s.root r).box&&(s.root r).AA==AA
 | .ref c=>match s.leaf c.r c.j with
  | .arr AA gen _ _ _ _=>AA==c.AA&&(isNil c.p||gen==c.gen)
  |_=>false
 | .EI c _ _=>match s.leaf c.r c.j with
  | .arr AA gen _ _ _ _=>AA==c.AA&&(isNil c.p||gen==c.gen)
  |_=>false
 | .Bm c=>s.alive (.Bm c)
 |_=>false
def Hs(cx:Cx)(s:St)(fs:List (Nat×TypeId)):List (Nat×Operand)->List LA->Option (List LA)
 | [],ls=>some ls
 |(i,x)::ps,ls=>match s.Ao x,IB fs i with
  | .v g as,some (off,t)=>match cx.ty t with
   |some tf=>if as.length==tf.ls.n&&decide (off+tf.ls.n<=ls.length)&&(g||as.all s.sure)then Hs cx s fs ps (Eo ls off as)else none
   |none=>none
  |_,_=>none
def zeroOf(l:L):LA:=match l with
 | .sl _ _=>.DN
 |l=>.sc l (LQ l)
def Cl(cx:Cx)(s:St)(v:Nat)(e:Ls):List (Nat×Operand)->Nat->(List e.D->List (Nat×Nat)->Step β)->Step β
 | [],_,k=>k [] []
 |(i,x)::ps,n,k=>if i==n then match s.Ao x with
   | .v _ as=>(if Br e then s.data e.kinds as λvs=>match pack e vs with
     |some y=>Cl cx s v e ps (n+1) λys us=>k (y::ys) us
     |none=>.none
    else s.GA cx v e.kinds as λbs vs=>match bs.mapM λb=>match b with
      | .arr _ _ t e xs 2=>some (⟨.sl t e,xs⟩:Lv)
      | .sc l x=>if Bx l then none else some ⟨l,x⟩
      |_=>none with
     |some ws=>match pack e ws with
      |some y=>Cl cx s v e ps (n+1) λys us=>if vs.all λu => !us.contains u then k (y::ys) (vs++us)else .none
      |none=>.none
     |none=>.none)
   |_=>.none
  else .none
def Cf:List LA->Option Loc
 | []=>none
 |a::as=>match nested a with
  |some c=>some c
  |none=>Cf as
def EE(s:St)(e:Ls)(ps:List (Nat×Operand)):Option (Operand×Loc):=if Br e then none else match ps with
 | [(0,x)]=>match s.Ao x with
  | .v _ as=>match Cf as with
   |some c=>some (x,c)
   |none=>none
  |_=>none
 |_=>none
def KE(c:Loc)(a:LA):Bool:=match a with
 | .ref c'=>c'.r==c.r&&c'.j==c.j&&c'.AA==c.AA&&c'.gen==c.gen&&match c'.p with
  | [_]=>true
  |_=>false
 | .sc _ _=>true
 |_=>false
def C2(cx:Cx)(s:St)(d v:Nat)(t:TypeId)(e:Ls)(x:Operand)(c:Loc)(k:List Wr->Step β):Step β:=match s.Ao x with
 | .v _ as=>match s.leaf c.r c.j with
  | .arr AA gen t0 e0 xs 2=>if AA==c.AA&&gen==c.gen && !cx.Kc c.r&&as.all (KE c)then s.data e.kinds as λvs=>match pack e vs with
    |some y=>k [.half c.r c.j v,.slot d (one (.sc (.sl t e) (show List e.D from [y])))]
    |none=>.none
   else .none
  |_=>.none
 |_=>.none
def Ea:List (L×Nat)->List LA->Bool
 | [],[]=>true
 |(l,m)::ls,a::as=>(match a with
  | .arr _ _ _ _ _ d=>d==m||(m==3&&d==2)
  | .sc _ _ => !Bx l||m==0
  |_=>false)&&Ea ls as
 |_,_=>false
abbrev Tg:=Nat×Option Nat
abbrev ADr:=List Tg
def Tg.Di(a b:Tg):Bool:=a.1==b.1&&match a.2,b.2 with
 |some i,some j=>i==j
 |_,_=>true
def Fu(rs:ADr)(a:Tg):Bool:=rs.any λb=>Tg.Di b a
def Jj(s:St)(l:L)(d:Nat)(a:LA)(k:Lv->ADr->Step β):Step β:=match l with
 | .sl t e=>match a with
  | .ref c=>if(match s.leaf c.r c.j with
    | .arr _ _ _ _ _ dd=>dd==d&&(isNil c.p||d==2)
    |_=>false)then s.Au (.sl t e) (.ref c) λx=>k ⟨.sl t e,x⟩ [(c.r,some c.j)]else .none
  |_=>.none
 |l=>s.Au l a λx=>k ⟨l,x⟩ []
def E1(s:St):List (L×Nat)->List LA->(List Lv->ADr->Step β)->Step β
 | [],[],k=>k [] []
 |(l,d)::ls,a::as,k=>Jj s l d a λx us=>E1 s ls as λy rs=>if us.any (Fu rs)then .none else k (x::y) (us++rs)
 |_,_,_=>.none
def Al(s:St):List PM->List AV->(List Lv->ADr->Step β)->Step β
 | [],[],k=>k [] []
 | .val g ls::ps,.v g' as::vs,k=>if g==g' then s.data ls as λx=>Al s ps vs λy rs=>k (x++y) rs else .none
 | .box ls::ps,.v false [.ptr r 0 AA]::vs,k=>
  if(s.root r).box&&(s.root r).AA==AA&&Ea ls (s.root r).ls then
   s.data (ls.map (·.1)) (BC r 0 (s.root r).ls) λx=>Al s ps vs λy rs=>if Fu rs (r,none)then .none else k (x++y) ((r,none)::rs)
  else .none
 | .row g ls::ps,.v g' as::vs,k=>if g==g' then E1 s ls as λx us=>Al s ps vs λy rs=>if us.any (Fu rs)then .none else k (x++y) (us++rs)else .none
 | .fn f::ps,.v false [.fn g]::vs,k=>if f==g then Al s ps vs k else .none
 |_,_,_=>.none
def LA.roots:LA->Is
 | .ref c=>[c.r]
 | .EI c _ _=>[c.r]
 | .Bm c=>[c.r]
 | .ptr r _ _=>[r]
 | .JR _ c=>[c.r]
 | .EM _ ps qs=>ps.map (·.1)++qs.map (·.1)
 |_=>[]
def AV.roots:AV->Is
 | .v _ as=>as.flatMap LA.roots
 | .Dr vs=>vs.flatMap λv=>v.2.flatMap LA.roots
 | .bx as=>as.flatMap LA.roots
def Af:List PM->List AV->Is
 | .val _ _::ps,v::vs=>v.roots++Af ps vs
 |_::ps,_::vs=>Af ps vs
 |_,_=>[]
def Jw(d v:Nat):List (L×Nat)->List Lv->Nat->Option (List LA×List LA×List Lv)
 | [],vs,_=>some ([],[],vs)
 |(l,m)::ls,vs,j=>match vs with
  | []=>none
  |⟨l',x⟩::vs=>match Jw d v ls vs (j+1)with
    |some (as,rs,left)=>match l',x with
     | .sl t e,xs=>match m with
      |0=>some (.sc (.sl t e) xs::as,.bad::rs,left)
      |m+1=>some (.ref ⟨d,j,v,v,[]⟩::as,.arr v v t e xs (m+1)::rs,left)
     |l',x=>some (.sc l' x::as,.bad::rs,left)
    |none=>none
def D6(d v:Nat):List (Bool×List (L×Nat))->List Lv->Nat->Option (List (Bool×List LA)×List LA×List Lv)
 | [],vs,_=>some ([],[],vs)
 |(g,ls)::rs,vs,j=>match Jw d v ls vs j with
  |some (as,own,vs)=>match D6 d v rs vs (j+ls.length)with
   |some (bs,own',vs)=>some ((g,as)::bs,own++own',vs)
   |none=>none
  |none=>none
def BR(v m:Nat)(x:Lv):LA:=match x with
 |⟨.sl t e,xs⟩=>match m with
  |0=>.sc (.sl t e) xs
  |m+1=>.arr v v t e xs (m+1)
 |⟨l,x⟩=>.sc l x
def AY(v:Nat):List (L×Nat)->List Lv->List LA
 |(_,m)::ls,x::xs=>BR v m x::AY v ls xs
 |_,_=>[]
def Cp(a:LA)(v m:Nat)(x:Lv):LA:=match(bif m==3 then a else .bad)with
 | .arr AA _ t e _ d=>bif d==2 then(match L.cast (.sl t e) (a:=x.l) x.x with
  |some y=>.arr AA v t e y d
  |none=>BR v m x)else BR v m x
 |_=>BR v m x
def AX(s:St)(r v:Nat):Nat->List (L×Nat)->List Lv->List LA
 |j,(_,m)::ls,x::xs=>Cp (s.leaf r j) v m x::AX s r v (j+1) ls xs
 |_,_,_=>[]
def putRow(s:St)(v:Nat):List (L×Nat)->List LA->List Lv->Option (List Wr)
 | [],[],_=>some []
 |(l,_)::ls,a::as,x::vs=>match putRow s v ls as vs with
  |some ws=>match l with
   | .sl _ _=>match a with
    | .ref c=>match s.leaf c.r c.j with
     | .arr AA _ t0 e0 xs0 d0=>match H4 (OU x) c.p t0 e0 with
      |some f=>some (.leaf c.r c.j (.arr AA v t0 e0 (f xs0) d0)::ws)
      |none=>none
     |_=>none
    |_=>none
   |_=>some ws
  |none=>none
 |_,_,_=>none
def AW(s:St)(v:Nat):List PM->List AV->List Lv->Option (List Wr)
 | [],[],[]=>some []
 | .val _ _::ps,_::as,vs=>AW s v ps as vs
 | .fn _::ps,_::as,vs=>AW s v ps as vs
 | .box ls::ps,.v false [.ptr r 0 AA]::as,vs=>match AW s v ps as (vs.drop ls.length)with
  |some ws=>some (BE r 0 (AX s r v 0 ls vs)++ws)
  |none=>none
 | .row _ ls::ps,.v _ bs::as,vs=>match putRow s v ls bs vs,AW s v ps as (vs.drop ls.length)with
  |some us,some ws=>some (us++ws)
  |_,_=>none
 |_,_,_=>none
def Om:L->Bool
 | .sl _ e=>Br e
 |_=>true
def fresh(ls:List (L×Nat)):Bool:=ls.all λp => !Bx p.1||p.2==2||p.2==3||(p.2==1&&Om p.1)
def Ou(lt:Int->Int->Option Bool)(x y:Int):Bool:=match lt x y with
 |some b=>b
 |none=>false
def M5(lt:Int->Int->Option Bool)(xs:By):Option By:=
 bif decide (xs.length<=1)then some xs else bif decide (xs.length<=20)&&xs.all λx=>xs.all λy=>(lt x y).isSome then some (Go.Sort.insertionSort (Ou lt) xs.toArray 0 xs.length).toList else none
def N0:LA->Bool
 | .arr _ _ _ _ _ _=>true
 | .sc _ _=>true
 |_=>false
def DQ(s:St)(not:Nat):List (List L)->List (Nat×Nat)->(List Lv->Step β)->Step β
 | [],[],k=>k []
 |ls::bs,(r,AA)::ps,k=>if(s.root r).box&&(s.root r).AA==AA&&r != not&&(s.root r).ls.length==ls.length&&(s.root r).ls.all N0 then
   s.data ls (BC r 0 (s.root r).ls) λx=>DQ s not bs ps λy=>k (x++y)
  else .none
 |_,_,_=>.none
def Bw(s:St)(c:Loc)(qs:List (Nat×Nat)):List Ka->List (Nat×Nat)->(List Lv->Step β)->Step β
 | [],[],k=>k []
 | .box ls::cs,p::ps,k=>DQ s c.r [ls] [p] λx=>Bw s c qs cs ps λy=>k (x++y)
 | .EM g bs::cs,(r,AA)::ps,k=>match(s.root r).ls with
  | [.EM g' ps' _]=>if(s.root r).box&&(s.root r).AA==AA&&r != c.r&&g==g'&&ps'.all λq=>qs.contains q then DQ s c.r bs ps' λx=>Bw s c qs cs ps λy=>k (x++y)else .none
  |_=>.none
 | .row::cs,(r,AA)::ps,k=>if(s.root r).box&&(s.root r).AA==AA&&r==c.r&&c.j==0&&(s.root r).ls.length==1 then Bw s c qs cs ps k else .none
 |_,_,_=>.none
def Dz(cx:Cx)(s:St)(d v:Nat)(f:FuncId)(vs:List AV)(k:List Wr->Step β):Step β:=match vs with
 | [.v false [.JR t c],.v false [.EM g ps qs]]=>match cx.env.PX f g with
  |some σ=>match s.leaf c.r c.j with
   | .arr AA _ t0 (.one (.int .i64)) xs 2=>if AA==c.AA&&isNil c.p && !cx.Kc c.r&&t==σ.t then Bw s c qs σ.JN ps λx=>match pack (E6 (σ.JN.flatMap Ka.kinds)) x with
     |some y=>.NC (M5 (σ.lt y) (show By from xs)) λzs=>k [.leaf c.r c.j (.arr AA v t0 (.one (.int .i64)) (show By from zs) 2),.slot d (.Dr [])]
     |none=>.none
    else .none
   |_=>.none
  |none=>.none
 |_=>.none
def Dk(s:St):List AV->Option (List (Nat×Nat))
 | []=>some []
 | .v false [.ptr r 0 AA]::vs=>if(s.root r).box&&(s.root r).AA==AA then match Dk s vs with
   |some ps=>some ((r,AA)::ps)
   |none=>none
  else none
 |_::_=>none
def behind(s:St):List (Nat×Nat)->List (Nat×Nat)
 | []=>[]
 |(r,_)::ps=>(match(s.root r).ls with
  | [.EM _ qs _]=>qs
  |_=>[])++behind s ps
def K1(bs:List (Bool×List LA)):AV:=match bs with
 | [(g,as)]=>.v g as
 |bs=>.Dr bs
def call(cx:Cx)(s:St)(d v:Nat)(f:FuncId)(vs:List AV)(k:List Wr->Step β):Step β:=match cx.env.fn f with
 |none=>Dz cx s d v f vs k
 |some g=>if g.s.mk? then Al s g.s.ps vs λx _=>if g.s.plain&&isNil (Af g.s.ps vs)then match pack g.s.ins x with
   |none=>.none
   |some y=>.NC (g.f y) λz=>k (GR d v (AY v g.s.G4 (unpack g.s.outs z)))
  else .none
  else Al s g.s.ps vs λx ws=>if(Af g.s.ps vs).all λr => !Fu ws (r,none)then match pack g.s.ins x with
   |none=>.none
   |some y=>.NC (g.f y) λz=>match D6 d v g.s.rs (unpack g.s.outs z) 0 with
    |none=>.none
    |some (bs,own,left)=>match AW s v g.s.ps vs left,(if fresh g.s.G4 then some []else Ar cx s (Af g.s.ps vs))with
     |some ws,some fs=>k (fs++ws++[.root d ⟨false,v,own⟩,.slot d (K1 bs)])
     |_,_=>.none
  else .none
def IX(cx:Cx)(s:St)(t:TypeId)(q:LA)(p:AV)(dst:Option Tmp):Step (List Wr):=match p with
 | .v false [.EM g ps qs]=>if cx.env.PF t then match q with
  | .ptr r j AA=>match dst with
   |none=>if(s.root r).box&&(s.root r).AA==AA&&decide (j+1<=(s.root r).ls.length)then .go [.leaf r j (.EM g ps qs)]else .none
   |some _=>.none
  |_=>.none
 else .none
 |_=>.none
def H0:AV->Bool
 | .v false [.DN]=>true
 |_=>false
def bytesOf(xs:By):ADi:=xs.map λn=>UInt8.ofNat n.toNat
def AB(cx:Cx)(v:Nat)(o:Oper)(s:St):Step (List Wr):=
 let out (a:AV):Step (List Wr):=match o.dst with
  |some d=>.go [.slot d a]
  |none=>.go []
 match o.op with
 | .move x=>if H0 (s.Ao x)then match cx.ty o.type,o.dst with
   |some ty,some d=>if ty.agg then .none else match ty.ls with
    | .one (.sl t e)=>.go (ownRow d v t e [])
    |_=>.none
   |_,_=>.none
  else out (s.Ao x)
 | .assign x=>match o.dst with
  |none=>.none
  |some d=>match s.Ai x with
   | .sc l x=>.go [.slot d (one (.sc l x))]
   | .ptr r j AA=>.go [.slot d (one (.ptr r j AA))]
   | .fn f=>.go [.slot d (one (.fn f))]
   | .JY=>.go [.slot d (one .JY)]
   | .Bm c=>.go [.slot d (one (.Bm c))]
   | .EC e x off=>.go [.slot d (one (.EC e x off))]
   |a=>if cx.Kc d then .none else match cx.ty o.type with
    |some ty=>match ty.ls with
     | .one l=>s.take cx v a l λb us=>match b with
      | .arr _ _ t e xs dd=>.go (gone us++[.root d ⟨false,v,[.arr v v t e xs dd]⟩,.slot d (one (.ref ⟨d,0,v,v,[]⟩))])
      |_=>.none
     |_=>.none
    |none=>.none
 | .pick c a b=>match s.Ai c with
  | .sc .bool t=>.iff t (out (s.Ao a)) (out (s.Ao b))
  |_=>.none
 | .alloc t=>match cx.ty t,o.dst with
  |some ty,some d=>.go (GR d v (ty.ls.kinds.map (JH v)))
  |none,some d=>if cx.env.PF t then .go (GR d v [.bad])else .none
  |_,_=>.none
 | .box t x=>match cx.ty t,o.dst,s.Ao x with
  |some ty,some d,.v g as=>if g&&MY s as then .go [.slot d (.bx as)]else s.GA cx v ty.ls.kinds as λbs us=>if us.all λu => !(u.1==d)then .go (gone us++GR d v bs)else .none
  |_,_,_=>.none
 | .build t parts=>match cx.ty t with
  |some ty=>match(if ty.agg then Hs cx s ty.fs parts.toList (ty.ls.kinds.map zeroOf)else none)with
   |some ls=>out (.v true ls)
   |none=>.none
  |none=>.none
 | .buildSlice t len parts=>match cx.ty t,o.dst with
  |some ty,some d=>if ty.agg then .none else match ty.ls with
   | .one (.sl t e)=>if len==parts.size&&decide (len*e.n<=16777216)then(match EE s e parts.toList with
    |some (x,c)=>C2 cx s d v t e x c λws=>.go ws
    |none=>Cl cx s v e parts.toList 0 λys us=>if us.all λu => !(u.1==d)then .go (gone us++ownRow d v t e ys)else .none)else .none
   |_=>.none
  |_,_=>.none
 | .load t x=>match cx.ty t with
  |some ty=>s.FX (s.Ao x) ty.ls.n λas=>if as.length==ty.ls.n then out (.v ty.agg as)else .none
  |none=>.none
 | .store t x y=>match cx.ty t,s.Ao y with
  |some ty,.v _ as=>match Mh (s.Ai x) as with
   | []=>GY cx v s o.dst (s.Ai x) ty.ls.kinds as []
   |r::rs=>match Ar cx s (r::rs)with
    |some fs=>GY cx v (s.app fs) o.dst (s.Ai x) ty.ls.kinds as fs
    |none=>.none
  |none,p=>IX cx s t (s.Ai x) p o.dst
  |_,_=>.none
 | .makeInterface t x=>match cx.ty t,s.Ai x with
  |some ty,.ref c=>if ty.agg then .none else match ty.ls with
   | .one (.sl _ _)=>out (one (.JR t c))
   |_=>.none
  |_,_=>.none
 | .makeFunc (.func g) first captured=>if first.size==0 then match Dk s (captured.toList.map s.Ao)with
   |some ps=>out (one (.EM g ps (behind s ps)))
   |none=>.none
  else .none
 | .nilCheck x=>match s.Ao x with
  | .bx as=>out (.bx as)
  |a=>if s.alive a.one? then out (one a.one?)else .none
 | .binOp op tx x y _=>match s.Ao x,s.Ao y with
  | .v true as,.v true bs=>MI cx op tx as bs λa=>out a
  |p,q=>binop (Il cx tx .bool) op y p.one? q.one? λa=>out a
 | .unOp op _ x=>match op,s.Ai x with
  | .not,.sc .bool b=>out (Ig (!b))
  | .neg,.sc (.int k) n=>out (Ih k (k.wrap (OM n)))
  |_,_=>.none
 | .convert a b x=>match cx.ty a,cx.ty b,s.Ai x with
  |some ta,some ty,.sc (.int _) n=>if ty.agg then .none else match ty.ls with
   | .one (.int k)=>out (Ih k (k.wrap n))
   |_=>.none
  |some ta,some ty,y=>if ta.agg||ty.agg then .none else match ta.ls,ty.ls with
   | .one (.sl t0 (.one (.int .u8))),.one .str=>if Il cx t0 (.int .u8)then s.Au (.sl t0 (.one (.int .u8))) y λxs=>out (O7 (bytesOf xs))else .none
   |_,_=>.none
  |_,_,_=>.none
 | .makeSlice t l c=>match cx.ty t,o.dst with
  |some ty,some d=>if ty.agg then .none else match ty.ls with
   | .one (.sl t e)=>asInt (s.Ai l) λn=>asInt (s.Ai c) λm=>
     .iff (decide (0<=n)&&decide (n<=(Dj:Int))&&decide (m=n)) (.go (ownRow d v t e (List.replicate n.toNat (Fg e)))) .none
   |_=>.none
  |_,_=>.none
 | .slice ti x lo hi none=>match s.Ai x with
  | .sc .str b=>if Il cx ti .str then Dg s lo 0 λl=>Dg s hi (List.length (α:=UInt8) b:Int) λh=>
    .iff (decide (0<=l)&&decide (l<=h)&&decide (h<=(List.length (α:=UInt8) b:Int))) (out (O7 (sub (α:=UInt8) b l.toNat h.toNat))) .none
   else .none
  | .sc (.sl t e) b=>if isRow cx ti e then Dg s lo 0 λl=>Dg s hi (List.length (α:=e.D) b:Int) λh=>
    .iff (decide (0<=l)&&decide (l<=h)&&decide (h<=(List.length (α:=e.D) b:Int))) (out (one (.sc (.sl t e) (sub (α:=e.D) b l.toNat h.toNat)))) .none
   else .none
  | .ref c=>s.content c λt e xs _=>if isRow cx ti e then Dg s lo 0 λl=>Dg s hi (xs.length:Int) λh=>
    .iff (decide (0<=l)&&decide (l<=h)&&decide (h<=(xs.length:Int))) (out (one (.EI c l.toNat h.toNat))) .none
   else .none
  |_=>.none
 | .fieldAddr t x f=>match cx.ty t with
  |some ty=>match(if ty.agg then IB ty.fs f else none)with
   |some (fo,ft)=>match cx.ty ft with
    |some tf=>if tf.ls.n==0 then .none else match s.Ao x with
     | .bx as=>out (.bx (as.drop fo))
     |a=>if !s.alive a.one? then .none else match a.one? with
     | .ptr r j AA=>out (one (.ptr r (j+fo) AA))
     | .EC e y j=>out (one (.EC e y (j+fo)))
     | .Bm c=>match Aj c.p with
      |some (q,i,off)=>out (one (.Bm { c with p:=q++[(i,off+fo)] }))
      |none=>.none
     |_=>.none
    |none=>.none
   |none=>.none
  |none=>.none
 | .field t x f=>match cx.ty t,s.Ao x with
  |some ty,.v true as=>match(if ty.agg then IB ty.fs f else none)with
   |some (fo,ft)=>match cx.ty ft with
    |some tf=>if decide (fo+tf.ls.n<=as.length)then out (.v tf.agg ((as.drop fo).take tf.ls.n))else .none
    |none=>.none
   |none=>.none
  |_,_=>.none
 | .indexAddr ti x i=>asInt (s.Ai i) λn=>match s.Ai x with
  | .sc (.sl t e) xs=>if isRow cx ti e then .NC (JQ (α:=e.D) xs n) λy=>out (one (.EC e y 0))else .none
  | .ref c=>s.content c λt e xs _=>if isRow cx ti e then .iff (O3 xs n) (out (one (.Bm { c with p:=c.p++[(n.toNat,0)] }))) .none else .none
  | .EI c lo hi=>s.content c λt e xs _=>if isRow cx ti e then .iff (O3 (sub xs lo hi) n) (out (one (.Bm { c with p:=c.p++[(lo+n.toNat,0)] }))) .none else .none
  |_=>.none
 | .index ti x i=>asInt (s.Ai i) λn=>match s.Ai x with
  | .sc .str b=>if Il cx ti .str then .NC (JQ (α:=UInt8) b n) λy=>out (Ih .u8 (y.toNat:Int))else .none
  |_=>.none
 | .extract x i=>match s.Ao x with
  | .Dr vs=>match IB vs i with
   |some (g,as)=>out (.v g as)
   |none=>.none
  |_=>.none
 | .call c=>match c.callee with
  | .builtin .len=>match c.args.toList,c.argTypes.toList with
   | [x],[t]=>match cx.ty t with
    |some ty=>if ty.agg then .none else match ty.ls with
     | .one .str=>OJ (s.Ai x) λn=>out (Ih .i64 n)
     | .one (.sl _ _)=>lenOf s (s.Ai x) λn=>out (Ih .i64 n)
     |_=>.none
    |none=>.none
   |_,_=>.none
  | .builtin .append=>match c.args.toList,c.argTypes.toList,cx.ty o.type,o.dst with
   | [x,y],[t1,t2],some ty,some d=>match ty.ls with
    | .one (.sl t e)=>if t1==t2&&isRow cx t1 e then Du cx s d v t e (s.Ai x) (s.Ai y) λws=>.go ws else .none
    |_=>.none
   |_,_,_,_=>.none
  | .builtin .min=>match c.args.toList with
   | [x,y]=>match s.Ai x,s.Ai y with
    | .sc (.int k) a,.sc (.int j) b=>out (Ih k (Nc a b))
    |_,_=>.none
   |_=>.none
  | .builtin .max=>match c.args.toList with
   | [x,y]=>match s.Ai x,s.Ai y with
    | .sc (.int k) a,.sc (.int j) b=>out (Ih k (Nb a b))
    |_,_=>.none
   |_=>.none
  | .value f=>match s.Ai f,o.dst with
   | .fn f,some d=>call cx s d v f (c.args.toList.map s.Ao) λws=>.go ws
   |_,_=>.none
  |_=>.none
 |_=>.none
end Go.Ev
namespace Go.Ev
variable {β:Type}
def number{α:Type}:Nat->List α->List (Nat×α)
 |_,[]=>[]
 |n,x::xs=>(n,x)::number (n+1) xs
inductive VP where
 |slot (s:Nat) (l:L)
 |own (s:Nat) (t:TypeId) (e:Ls) (d:Nat) (k:Bool)
 |box (r:Nat) (ls:List (Option (L×Nat)))
def VP.kinds:VP->List L
 | .slot _ l=>[l]
 | .own _ t e _ _=>[.sl t e]
 | .box _ ls=>ls.filterMap λx=>x.map (·.1)
def VP.roots:VP->Is
 | .slot _ _=>[]
 | .own s _ _ _ _=>[s]
 | .box r _=>[r]
def VP.AO:VP->Is
 | .slot s _=>[s]
 | .own s _ _ _ _=>[s]
 | .box _ _=>[]
def DJ(ps:List VP):Ls:=E6 (ps.flatMap VP.kinds)
def Dy(s:St):List (Option (L×Nat))->List LA->(List Lv->Step β)->Step β
 | [],[],k=>k []
 |none::ls,_::as,k=>Dy s ls as k
 |some (l,d)::ls,a::as,k=>match a with
  | .arr AA _ t e xs d'=>if(d==0||d==d')&&(!(d==3)||AA==1)then match L.cast (a:=.sl t e) l xs with
    |some y=>Dy s ls as λvs=>k (⟨l,y⟩::vs)
    |none=>.none
   else .none
  |a=>match d with
   |0=>s.Au l a λy=>Dy s ls as λvs=>k (⟨l,y⟩::vs)
   |_+1=>match l with
    | .sl _ _=>.none
    |l=>s.Au l a λy=>Dy s ls as λvs=>k (⟨l,y⟩::vs)
 |_,_,_=>.none
def St.still(s:St)(l:L)(a:LA):Bool:=match l with
 | .sl _ _=>match a with
  | .sc _ _=>true
  | .DN=>true
  | .ref c=>match s.leaf c.r c.j with
   | .arr _ _ _ _ _ 0=>true
   |_=>false
  | .EI c _ _=>match s.leaf c.r c.j with
   | .arr _ _ _ _ _ 0=>true
   |_=>false
  |_=>false
 |_=>true
def KO(s:St)(v:VP)(k:List Lv->Step β):Step β:=match v with
 | .slot t l=>if s.still l (s.slot t).one? then s.Au l (s.slot t).one? λx=>k [⟨l,x⟩]else .none
 | .own t ty e d k0=>match s.slot t,s.root t with
  | .v false [.ref c],⟨false,_,[.arr AA _ t' e' xs d']⟩=>if c.r==t&&c.j==0&&isNil c.p&&AA==c.AA&&d==d'&&(!k0||AA==1)then match L.cast (a:=.sl t' e') (.sl ty e) xs with
    |some y=>k [⟨.sl ty e,y⟩]
    |none=>.none
   else .none
  |_,_=>.none
 | .box r ls=>if(s.root r).box then Dy s ls (s.root r).ls k else .none
def LD(s:St):List VP->(List Lv->Step β)->Step β
 | [],k=>k []
 |v::vs,k=>KO s v λx=>LD s vs λy=>k (x++y)
def Ap(ps:List VP)(s:St):Option (DJ ps).D:=(LD s ps .go).run (pack (DJ ps))
def Fc(v:Nat)(k:Bool):Nat:=match k with
 |true=>1
 |false=>v
def CC(v d:Nat)(k:Bool)(x:Lv):LA:=match BR v d x with
 | .arr _ g t e xs d=>.arr (Fc v k) g t e xs d
 |a=>a
def AP(v:Nat):List (Option (L×Nat))->List Lv->List LA
 | [],_=>[]
 |none::ls,vs=>.bad::AP v ls vs
 |some (l,d)::ls,x::vs=>CC v d (d==3) x::AP v ls vs
 |some _::ls,[]=>.bad::AP v ls []
def CQ(v:Nat)(s:St):List VP->List Lv->List Wr
 | [],_=>[]
 | .slot t _::ps,x::vs=>.slot t (one (.sc x.l x.x))::CQ v s ps vs
 | .own t ty e d k::ps,x::vs=>.root t ⟨false,v,[CC v d k x]⟩::.slot t (one (.ref ⟨t,0,Fc v k,v,[]⟩))::CQ v s ps vs
 | .box r ls::ps,vs=>.root r ⟨true,(s.root r).AA,AP v ls vs⟩::CQ v s ps (vs.drop (ls.filterMap id).length)
 |_,[]=>[]
def LA.clean(ms ch:Nat->Bool)(a:LA):LA:=match a with
 | .ref c=>if ch c.r then .bad else .ref c
 | .EI c lo hi=>if ch c.r then .bad else .EI c lo hi
 | .Bm c=>if ch c.r then .bad else .Bm c
 | .ptr r j AA=>if ms r then .bad else .ptr r j AA
 | .JR t c=>if ch c.r then .bad else .JR t c
 | .EM g ps qs=>if ps.any λp=>ms p.1 then .bad else .EM g ps qs
 |a=>a
def AV.clean(ms ch:Nat->Bool):AV->AV
 | .v g as=>.v g (as.map (LA.clean ms ch))
 | .Dr _=>one .bad
 | .bx _=>one .bad
def Kp{α γ:Type}(f:Nat->α->γ):Nat->List α->List γ
 |_,[]=>[]
 |n,x::xs=>f n x::Kp f (n+1) xs
def base(ms:Is)(ps:List VP)(s:St):St:=
 {sl:=Kp (λt x=>if has ms t then one .bad else x.clean (λr=>has ms r||has (ps.flatMap VP.AO) r) λr=>has ms r||has (ps.flatMap VP.roots) r) 0 s.sl
  ro:=Kp (λr x=>if has ms r then dead else x) 0 s.ro
  Bp:=s.Bp+1 }
def B1(ms:Is)(ps:List VP)(s:St)(x:(DJ ps).D):St:=(base ms ps s).app (CQ s.Bp s ps (unpack (DJ ps) x))
def Cx.in(cx:Cx)(ms:Is)(ps:List VP):Cx:=
 { cx with lock:=λr=>cx.lock r || !(has ms r||has (ps.flatMap VP.roots) r),FI:=λt=>cx.FI t || !(has ms t||has (ps.flatMap VP.AO) t) }
def distinct:Is->Bool
 | []=>true
 |x::xs => !has xs x&&distinct xs
def Cq(cx:Cx)(ms:Is)(ps:List VP):Bool:=distinct (ps.flatMap VP.roots)&&distinct (ps.flatMap VP.AO)&&ps.all λp=>match p with
 | .slot s _ => !cx.FI s
 | .own s _ _ _ _ => !cx.lock s && !cx.FI s && !cx.Kc s
 | .box r _ => !has ms r && !cx.lock r && !has (ps.flatMap VP.AO) r
structure An where
 PH:Nat->Option (List VP)
 blk:Nat->Option (List VP×Bool)
 Pc:Nat->Option (List VP×Bool)
 pre:Nat->Is
def G0:List (Nat×Oper)->Is
 | []=>[]
 |(_,o)::r=>match o.dst with
  |some d=>d::G0 r
  |none=>G0 r
def CE:Code->Is
 | .region _ ops _=>G0 (number 0 ops.toList)
 | .seq a b=>CE a++CE b
 | .cond _ a b=>CE a++CE b
 | .block _ c=>CE c
 | .loop c=>CE c
 |_=>[]
def GL:Code->Nat
 | .region id _ _=>id
 | .seq a _=>GL a
 | .block _ c=>GL c
 | .loop c=>GL c
 |_=>0
def OI:Code->Nat
 | .seq a _=>3*GL a+3
 | .block id _=>3*id+4
 | .cond _ x y=>3*(match GL x with
  |0=>GL y
  |n+1=>n+1)+5
 |_=>0
def mask(t:Nat):Nat:=2 ^ t
def KR(r:Nat):Nat:=2 ^ (4*r+1)
def Kl(r:Nat):Nat:=2 ^ (4*r+3)
def AV.mask(a:AV):Nat:=a.roots.foldr (λr m=>Nat.lor (KR r) (Nat.lor (Kl r) m)) 0
def BU(ops:Array Oper)(o:Oper):Nat:=match o.guard with
 |some (g,_)=>match(ops[g]?).bind (·.dst)with
  |some t=>2 ^ (2*t)
  |none=>0
 |none=>0
def A6(ops:Array Oper)(o:Oper)(s:St):Nat:=match o.op with
 | .move (.tmp t)=>Nat.lor (2 ^ (2*t)) (BU ops o)
 | .extract (.tmp t) _=>Nat.lor (2 ^ (2*t)) (BU ops o)
 | .field _ (.tmp t) _=>Nat.lor (2 ^ (2*t)) (BU ops o)
 | .load _ (.tmp t)=>Nat.lor (2 ^ (2*t)) (Nat.lor (match s.slot t with
  | .v _ [.ptr r _ _]=>KR r
  |a=>a.mask) (BU ops o))
 | .fieldAddr _ (.tmp t) _=>Nat.lor (2 ^ (2*t)) (Nat.lor (match s.slot t with
  | .v _ [.ptr r _ _]=>KR r
  |a=>a.mask) (BU ops o))
 |_=>o.op.operands.toList.foldr (λx m=>match x with
  | .tmp t=>Nat.lor (2 ^ (2*t)) (Nat.lor (s.slot t).mask m)
  |_=>m) (BU ops o)
def Wr.mask:Wr->Nat
 | .slot t _=>2 ^ (2*t)
 | .root r _=>Nat.lor (KR r) (Kl r)
 | .leaf r _ _=>Nat.lor (KR r) (Kl r)
 | .half r _ _=>Kl r
def AE(ws:List Wr):Nat:=ws.foldr (λw m=>Nat.lor w.mask m) 0
def bit(m i:Nat):Bool:=m.testBit i
def E3:List Oper->Is->Is
 | [],acc=>acc
 |o::r,acc=>E3 r (acc++[o.after.toList.foldr (λe m=>if Region.binds .any e then Nat.lor (2 ^ e.on) (Nat.lor (nth 0 acc e.on) m)else m) 0])
def indep(b rm wm:Nat):Nat->List (Nat×Nat)->Bool
 |_,[]=>true
 |j,(r,w)::lg=>(bit b j||(Nat.land w (Nat.lor rm wm)==0&&Nat.land r wm==0))&&indep b rm wm (j+1) lg
def LA.AG:LA->Is
 | .ref c=>[c.AA,c.gen]
 | .EI c _ _=>[c.AA,c.gen]
 | .Bm c=>[c.AA,c.gen]
 | .ptr _ _ AA=>[AA]
 | .JR _ c=>[c.AA,c.gen]
 | .EM _ ps _=>ps.map (·.2)
 | .arr AA gen _ _ _ _=>[AA,gen]
 |_=>[]
def AV.AG:AV->Is
 | .v _ as=>as.flatMap LA.AG
 | .Dr vs=>vs.flatMap λv=>v.2.flatMap LA.AG
 | .bx as=>as.flatMap LA.AG
def Bo.AG(r:Bo):Is:=r.AA::r.ls.flatMap LA.AG
def Wr.AG:Wr->Is
 | .slot _ a=>a.AG
 | .root _ x=>x.AG
 | .leaf _ _ a=>a.AG
 | .half _ _ v=>[v]
def LA.Ce:LA->Bool
 | .ref _=>false
 | .EI _ _ _=>false
 | .Bm _=>false
 | .JR _ _=>false
 |_=>true
def Wr.ok(cx:Cx)(dst:Option Nat):Wr->Bool
 | .slot t _=>match dst with
  |some d=>t==d
  |none=>false
 | .root r x => !cx.lock r&&x.ls.all LA.Ce&&match dst with
  |some d=>r==d
  |none=>false
 | .leaf r _ a => !cx.lock r&&a.Ce
 | .half r _ _ => !cx.lock r
def Ja(cx:Cx)(dst:Option Nat)(v0 v b:Nat)(ws:List Wr):Bool:=
 ws.all λw=>w.ok cx dst&&w.AG.all λn=>decide (n<v0)||n==v||(decide (v0<=n)&&bit b (n-v0))
def Cw(dst:Option Nat):List Wr:=match dst with
 |some d=>[.slot d (one .undef)]
 |none=>[]
structure Rg where
 ops:Array Oper
 v0:Nat
 draw:Bool
def Ec{R:Type}(cx:Cx)(g:Rg):List (Nat×Oper)->Is->List (Nat×Nat)->St->(St->Option R)->Option R
 | [],_,_,s,k=>k s
 |(i,o)::r,bs,lg,s,k=>
  let b:=nth 0 bs i
  let rm:=A6 g.ops o s
  let exec (s:St):Option R:=(AB cx (g.v0+i) o s).run λws=>
   if Ja cx o.dst g.v0 (g.v0+i) b ws&&(!g.draw||indep b rm (AE ws) 0 lg)then Ec cx g r bs (lg++[(rm,AE ws)]) (s.app ws) k else none
  let skip (s:St):Option R:=if !g.draw||indep b rm (AE (Cw o.dst)) 0 lg then Ec cx g r bs (lg++[(rm,AE (Cw o.dst))]) (s.app (Cw o.dst)) k else none
  match o.guard with
  |none=>exec s
  |some (j,want)=>match(g.ops[j]?).bind (·.dst)with
   |none=>none
   |some t=>match s.slot t with
    | .v false [.undef]=>skip s
    | .v false [.sc .bool c]=>match want with
     |true=>bif c then exec (s.AF (.slot t (Ig true)))else skip (s.AF (.slot t (Ig false)))
     |false=>bif c then skip (s.AF (.slot t (Ig true)))else exec (s.AF (.slot t (Ig false)))
    |_=>none
def JV(os:List Oper):List VP:=match os.getLast? with
 |some o=>match o.dst with
  |some d=>[.slot d .bool]
  |none=>[]
 |none=>[]
def Ex{R:Type}(cx:Cx)(an:An)(id:Nat)(ops:Array Oper)(draw:Bool)(s:St)(k:St->Option R):Option R:=
 let os:=number 0 ops.toList
 let g:Rg:=⟨ops,s.Bp,draw⟩
 let bs:=E3 ops.toList []
 if ops.toList.all λo=>match o.guard with
  |none=>true
  |some _=>false
 then Ec cx g os bs [] s λs'=>k { s' with Bp:=s.Bp+ops.size }
 else
  let ps:=match an.PH id with
   |some p=>p
   |none=>JV ops.toList
  let ms:=G0 os
  if Cq cx ms ps then(Ec (cx.in ms ps) g os bs [] s (Ap ps)).bind λx=>k (B1 ms ps s x)else none
def Hq{R:Type}(cx:Cx)(an:An)(id:Nat)(ops:Array Oper)(draw:Bool)(s:St)(k:St->Option R):Option R:=match an.pre id with
 | []=>Ex cx an id ops draw s k
 |r::rs=>if(r::rs).all λr => !cx.lock r then match Ar cx s (r::rs)with
   |some fs=>Ex cx an id ops draw (s.app fs) k
   |none=>none
  else none
def iter{α γ:Type}:Nat->(α->Option (α⊕γ))->α->Option γ
 |0,_,_=>none
 |n+1,f,x=>(f x).bind λy=>match y with
  | .inl x=>iter n f x
  | .inr z=>some z
def ev(an:An)(n:Nat){RD:Type}(rp:St->Option RD):Code->{R:Type}->Cx->St->(St->Option R)->(Nat->St->Option R)->(RD->Option R)->Option R
 | .skip,_,cx,s,kn,kx,kr=>kn s
 | .region id ops draw,_,cx,s,kn,kx,kr=>Hq cx an id ops draw s kn
 | .seq a b,_,cx,s,kn,kx,kr=>match an.Pc (OI a)with
  |none=>ev an n rp a cx s (λs=>ev an n rp b cx s kn kx kr) kx kr
  |some (ps,rets)=>
   let ms:=CE a
   if Cq cx ms ps then match rets with
    |false=>(ev an n rp a (R:=(DJ ps).D) (cx.in ms ps) s (Ap ps) (λ_ _=>none) (λ_=>none)).bind λx=>ev an n rp b cx (B1 ms ps s x) kn kx kr
    |true=>(ev an n rp a (R:=(DJ ps).D⊕RD) (cx.in ms ps) s (λs=>(Ap ps s).bind λx=>some (.inl x)) (λ_ _=>none) (λr=>some (.inr r))).bind λq=>match q with
     | .inl x=>ev an n rp b cx (B1 ms ps s x) kn kx kr
     | .inr r=>kr r
   else none
 | .cond c x y,_,cx,s,kn,kx,kr=>match s.Ai c with
  | .sc .bool b=>bif b then ev an n rp x cx s kn kx kr else ev an n rp y cx s kn kx kr
  |_=>none
 | .block id c,_,cx,s,kn,kx,kr=>match an.blk id with
  |none=>ev an n rp c cx s kn (λi s=>if i==id then kn s else kx i s) kr
  |some (ps,rets)=>match c with
   | .loop c=>
    let ms:=CE c
    if Cq cx ms ps then match rets with
     |false=>(Ap ps s).bind λx0=>(iter (α:=(DJ ps).D) (γ:=(DJ ps).D) n (λx=>ev an n rp c (cx.in ms ps) (B1 ms ps s x)
        (λs=>(Ap ps s).bind λx=>some (.inl x)) (λi s=>if i==id then(Ap ps s).bind λx=>some (.inr x)else none) (λ_=>none)) x0).bind λx=>
       kn (B1 ms ps s x)
     |true=>(Ap ps s).bind λx0=>(iter (α:=(DJ ps).D) (γ:=(DJ ps).D⊕RD) n (λx=>ev an n rp c (cx.in ms ps) (B1 ms ps s x)
        (λs=>(Ap ps s).bind λx=>some (.inl x)) (λi s=>if i==id then(Ap ps s).bind λx=>some (.inr (.inl x))else none) (λr=>some (.inr (.inr r)))) x0).bind λq=>match q with
       | .inl x=>kn (B1 ms ps s x)
       | .inr r=>kr r
    else none
   |_=>none
 | .exit id,_,cx,s,kn,kx,kr=>kx id s
 | .ret,_,cx,s,kn,kx,kr=>(rp s).bind kr
 |_,_,_,_,_,_,_=>none
def EA:Nat->List Oper->Bool
 |_,[]=>true
 |i,o::r=>o.after.toList.all (λe => !Region.binds .any e||decide (e.on<i))&&EA (i+1) r
def codeOk(n:Nat):Code->Bool
 | .region _ ops _=>EA 0 ops.toList&&ops.toList.all λo=>match o.dst with
  |some d=>decide (d<n)
  |none=>true
 | .seq a b=>codeOk n a&&codeOk n b
 | .cond _ a b=>codeOk n a&&codeOk n b
 | .block _ c=>codeOk n c
 | .loop c=>codeOk n c
 |_=>true
def A9(i:Nat):Nat->List (L×Nat)->List Lv->List LA
 |j,(l,_)::ls,x::vs=>(match l with
  | .sl _ _=>LA.ref ⟨i,j,1,1,[]⟩
  |_=>.sc x.l x.x)::A9 i (j+1) ls vs
 |_,_,_=>[]
def DF:Nat->List PM->List Lv->Option (List Wr)
 |_,[],[]=>some []
 |_,[],_::_=>none
 |i,.val g ls::ps,vs=>match DF (i+1) ps (vs.drop ls.length)with
  |some ws=>some (.slot i (.v g ((vs.take ls.length).map λx=>.sc x.l x.x))::ws)
  |none=>none
 |i,.box ls::ps,vs=>match DF (i+1) ps (vs.drop ls.length)with
  |some ws=>some (.root i ⟨true,1,AY 1 ls vs⟩::.slot i (one (.ptr i 0 1))::ws)
  |none=>none
 |i,.row g ls::ps,vs=>match DF (i+1) ps (vs.drop ls.length)with
  |some ws=>some (.root i ⟨false,1,AY 1 ls vs⟩::.slot i (.v g (A9 i 0 ls vs))::ws)
  |none=>none
 |i,.fn f::ps,vs=>match DF (i+1) ps vs with
  |some ws=>some (.slot i (one (.fn f))::ws)
  |none=>none
def blank(n:Nat):St:={sl:=List.replicate n (one .bad),ro:=List.replicate n dead,Bp:=2 }
def Fm(s:St)(us:List (Nat×Nat))(l:L)(m:Nat)(a:LA)(k:Lv->List (Nat×Nat)->Step β):Step β:=match l with
 | .sl t e=>match m with
  |0=>if s.still (.sl t e) a then s.Au (.sl t e) a λx=>k ⟨.sl t e,x⟩ us else .none
  |m+1=>match a with
   | .DN=>k ⟨.sl t e,([]:List e.D)⟩ us
   | .ref c=>match s.leaf c.r c.j with
    | .arr AA _ t' e' xs d=>if AA==c.AA&&isNil c.p&&d==m+1 && !us.contains (c.r,c.j)then match L.cast (a:=.sl t' e') (.sl t e) xs with
      |some y=>k ⟨.sl t e,y⟩ ((c.r,c.j)::us)
      |none=>.none
     else .none
    |_=>.none
   | .EI c lo hi=>match s.leaf c.r c.j with
    | .arr AA _ t' e' xs d=>if AA==c.AA&&isNil c.p&&d==m+1 && !us.contains (c.r,c.j)then match L.cast (a:=.sl t' e') (.sl t e) (sub xs lo hi)with
      |some y=>k ⟨.sl t e,y⟩ ((c.r,c.j)::us)
      |none=>.none
     else .none
    |_=>.none
   |_=>.none
 |l=>s.Au l a λx=>k ⟨l,x⟩ us
def Cc(s:St):List (L×Nat)->List LA->List (Nat×Nat)->(List Lv->List (Nat×Nat)->Step β)->Step β
 | [],[],us,k=>k [] us
 |(l,m)::ls,a::as,us,k=>Fm s us l m a λx us=>Cc s ls as us λxs us=>k (x::xs) us
 |_,_,_,_=>.none
def D7(ty:TypeId->Option Ty)(s:St):List (Bool×List (L×Nat))->List ResultVar->List (Nat×Nat)->(List Lv->List (Nat×Nat)->Step β)->Step β
 | [],[],us,k=>k [] us
 |(g,ls)::rs,.tmp t::vs,us,k=>match s.slot t with
  | .v g' as=>if g==g' then Cc s ls as us λxs us=>D7 ty s rs vs us λys us=>k (xs++ys) us else .none
  |_=>.none
 |(g,ls)::rs,.cell t T::vs,us,k=>match ty T,s.slot t with
  |some y,.v false [.ptr r 0 AA]=>if y.agg==g&&y.ls.n==ls.length then s.DG (.ptr r 0 AA) ls.length λas=>if as.length==ls.length then Cc s ls as us λxs us=>D7 ty s rs vs us λys us=>k (xs++ys) us else .none else .none
  |_,_=>.none
 |_,_,_,_=>.none
def Eu(s:St)(i:Nat):Nat->List (L×Nat)->List Lv->List (Nat×Nat)->(List Lv->List (Nat×Nat)->Step β)->Step β
 |_,[],_,us,k=>k [] us
 |_,_::_,[],_,_=>.none
 |j,(l,d)::ls,x::vs,us,k=>match l with
  | .sl t e=>Fm s us (.sl t e) d (match s.leaf i j with
    | .arr 1 gen _ _ _ _=>.ref ⟨i,j,1,gen,[]⟩
    |_=>.bad) λy us=>Eu s i (j+1) ls vs us λys us=>k (y::ys) us
  |_=>Eu s i (j+1) ls vs us λys us=>k (x::ys) us
def JU(s:St)(i:Nat):Nat->List (L×Nat)->Bool
 |_,[]=>true
 |j,(_,m)::ls=>(bif m==3 then(match s.leaf i j with
  | .arr AA _ _ _ _ _=>AA==1
  |_=>false)else true)&&JU s i (j+1) ls
def C8(s:St):Nat->List PM->List Lv->List (Nat×Nat)->(List Lv->Step β)->Step β
 |_,[],_,_,k=>k []
 |i,.box ls::ps,vs,us,k=>if(s.root i).box&&(s.root i).AA==1&&(s.root i).ls.length==ls.length&&JU s i 0 ls then s.DG (.ptr i 0 1) ls.length λas=>Cc s ls as us λxs us=>C8 s (i+1) ps (vs.drop ls.length) us λys=>k (xs++ys)else .none
 |i,.row _ ls::ps,vs,us,k=>Eu s i 0 ls vs us λxs us=>C8 s (i+1) ps (vs.drop ls.length) us λys=>k (xs++ys)
 |i,.val _ ls::ps,vs,us,k=>C8 s (i+1) ps (vs.drop ls.length) us k
 |i,.fn _::ps,vs,us,k=>C8 s (i+1) ps vs us k
def DX:List L->List LA->Option (List Lv)
 | [],[]=>some []
 |l::ls,.sc m x::as=>match L.cast l (a:=m) x,DX ls as with
  |some y,some vs=>some (⟨l,y⟩::vs)
  |_,_=>none
 |_,_=>none
def N1(sm:Sm)(rv:List ResultVar)(s:St):Option sm.outs.D:=match rv with
 | [.tmp t]=>match s.slot t with
  | .v false [.ptr r 0 AA]=>if sm.plain&&(s.root r).box&&(s.root r).AA==AA then match DX (sm.G4.map (·.1)) (s.root r).ls with
    |some vs=>pack sm.outs vs
    |none=>none
   else none
  |_=>none
 |_=>none
def Kr(s:St):List (L×Nat)->List LA->Is
 |(l,m)::ls,a::as=>(if Bx l&&m==0 && !s.still l a then match a with
   | .ref c=>[c.r]
   | .EI c _ _=>[c.r]
   |_=>[]
  else [])++Kr s ls as
 |_,_=>[]
def Mv(s:St):List (Bool×List (L×Nat))->List ResultVar->Is
 |(_,ls)::rs,.tmp t::vs=>(match s.slot t with
  | .v _ as=>Kr s ls as
  |_=>[])++Mv s rs vs
 |(_,ls)::rs,.cell t _::vs=>(match s.slot t with
  | .v false [.ptr r 0 _]=>Kr s ls (BC r 0 (s.root r).ls)
  |_=>[])++Mv s rs vs
 |_,_=>[]
def IP(ty:TypeId->Option Ty)(sm:Sm)(rv:List ResultVar)(vs:List Lv)(s:St):Option sm.outs.D:=
 (D7 ty s sm.rs rv [] λxs us=>C8 s 0 sm.ps vs us λys=>.go (xs++ys)).run (pack sm.outs)
def Pb:Cx:={ty:=λ_=>none,env:=⟨λ_=>none,λ_ _=>none,λ_=>false⟩,lock:=λ_=>false,FI:=λ_=>false,Kc:=λ_=>false }
def DY(ty:TypeId->Option Ty)(sm:Sm)(rv:List ResultVar)(vs:List Lv)(s:St):Option sm.outs.D:=if sm.mk? then N1 sm rv s else
 match Ar Pb s (Mv s sm.rs rv)with
 |some fs=>IP ty sm rv vs (s.app fs)
 |none=>none
def MQ(ty:TypeId->Option Ty)(env:Env)(an:An)(n:Nat)(fn:Func)(sm:Sm)(x:sm.ins.D):Option sm.outs.D:=
 match fn.body,DF 0 sm.ps (unpack sm.ins x)with
 |some c,some ws=>if !codeOk fn.ntmps c then none else ev an n (DY ty sm fn.results.toList (unpack sm.ins x)) c {ty:=ty,env:=env,lock:=λ_=>false,FI:=λ_=>false,Kc:=λ_=>false } ((blank fn.ntmps).app ws) (DY ty sm fn.results.toList (unpack sm.ins x)) (λ_ _=>none) some
 |_,_=>none
end Go.Ev
namespace Go.Ev
theorem Ae{α:Type}(d:α):∀(l:List α)(n:Nat),nth d l n=(l[n]?).getD d
 | [],n=>by simp[nth]
 |x::xs,0=>by simp[nth]
 |x::xs,n+1=>by simp[nth,Ae d xs n]
theorem CZ{α:Type}:∀(l:List α)(n:Nat)(y:α),(Ca l n y).length=l.length
 | [],_,_=>rfl
 |_::xs,0,_=>rfl
 |_::xs,n+1,y=>by simp[Ca,CZ xs n y]
theorem Bj{α:Type}:∀(l:List α)(n:Nat)(y:α),Ca l n y=l.set n y
 | [],_,_=>rfl
 |_::xs,0,_=>rfl
 |x::xs,n+1,y=>by simp[Ca,Bj xs n y]
theorem Aw{α:Type}(d:α)(l:List α)(n m:Nat)(y:α):nth d (Ca l n y) m=if n=m/\n<l.length then y else nth d l m:=by rw[Ae,Ae,Bj,List.getElem?_set];grind
theorem Ay{α:Type}(d:α){l:List α}{n:Nat}(h:l.length<=n):nth d l n=d:=by rw[Ae];grind
structure Cy where
 base:Nat
 io:Nat->Prop
 fa:Nat->Prop
 w0:World
 Ob:Nat->Nat->Option Value
 PS:Nat->Nat
 Nu:List (String×Array Value)
def at_(a:Addr)(k:Nat):Addr:=⟨a.block,a.off+k,none⟩
def Jl(w:World):List (Nat×Nat)->Ls->Value->Ls->Value->Prop
 | [],e,h,e',v=>e'=e/\v=h
 |(i,j)::p,e,h,e',v=>∃a len c t f h',h=.slice (some a) len c/\a.spot=none/\i<len/\e.kinds[j]?=some (.sl t f)/\w.cell? (at_ a (i*e.n+j))=some h'/\Jl w p f h' e' v
inductive Key where
 |blk (r:Nat)
 |lf (r j:Nat)
 |fl (k:Nat)
 deriving DecidableEq
structure Wd where
 w:World
 fz:Nat->Prop
 cv:Nat->Nat->Option Value
 bk:Nat->Nat
 om:Key->Is
def AQ(s:St)(W:Wd):LA->Value->Prop
 | .bad,_=>True
 | .undef,v=>v=Go.undef
 | .DN,v=>v=.slice none 0 0
 | .JY,v=>v=.pointer none
 | .sc l x,v=>l.rd 0 W.w W.fz v x []
 | .ref c,v=>∀gen t e xs d,s.leaf c.r c.j=.arr c.AA gen t e xs d->(c.p=[]\/gen=c.gen)->∃h e',W.cv c.r c.j=some h/\Jl W.w c.p e h e' v
 | .EI c lo hi,v=>∀gen t e xs d,s.leaf c.r c.j=.arr c.AA gen t e xs d->(c.p=[]\/gen=c.gen)->∃h e' A n k,W.cv c.r c.j=some h/\Jl W.w c.p e h e' (.slice A n k)/\
   lo<=hi/\hi<=n/\v=.slice (if k=lo then A else A.map (·.add (lo*e'.n))) (hi-lo) (k-lo)
 | .ptr r j AA,v=>(s.root r).box=true->(s.root r).AA=AA->v=.pointer (some ⟨W.bk r,j,none⟩)
 | .Bm c,v=>∀gen t e xs d,s.leaf c.r c.j=.arr c.AA gen t e xs d->(c.p.length<=1\/gen=c.gen)->∃q i off h e' a n k,Aj c.p=some (q,i,off)/\W.cv c.r c.j=some h/\
   Jl W.w q e h e' (.slice (some a) n k)/\a.spot=none/\i<n/\v=.pointer (some (at_ a (i*e'.n+off)))
 | .EC e x off,v=>∃(a:Addr) (g:Nat->Option Value) (arr:Array Value) (T:TypeId) (fr:Nat×Nat),v=.pointer (some (at_ a off))/\W.fz a.block/\W.w.heap[a.block]?=some (.cells arr T fr)/\
   (∀j,g j=arr[a.off+j]?)/\e.rd 0 W.w W.fz g x []
 | .fn f,v=>v=.func (.func f) #[] #[]
 | .JR t c,v=>∃u,v=.iface t u/\∀gen t e xs d,s.leaf c.r c.j=.arr c.AA gen t e xs d->(c.p=[]\/gen=c.gen)->∃h e',W.cv c.r c.j=some h/\Jl W.w c.p e h e' u
 | .EM g ps _,v=>∃bs:Is,v=.func (.func g) #[] (bs.map λb=>Value.pointer (some ⟨b,0,none⟩)).toArray/\bs.length=ps.length/\∀(k:Nat)(p:Nat×Nat)(b:Nat),ps[k]?=some p->bs[k]?=some b->(s.root p.1).box=true->(s.root p.1).AA=p.2->b=W.bk p.1
 | .arr ..,_=>False
def E8(s:St)(W:Wd)(g:Bool)(as:List LA)(v:Value):Prop:=match g with
 |false=>match as with
  | [a]=>AQ s W a v
  |_=>False
 |true=>∃cs:Array Value,v=.agg cs/\cs.size=as.length/\∀(j:Nat)(a:LA),as[j]?=some a->∃u,cs[j]?=some u/\AQ s W a u
def BW(s:St)(W:Wd):AV->Value->Prop
 | .v g as,v=>E8 s W g as v
 | .Dr vs,v=>∃us:Array Value,v=.tuple us/\us.size=vs.length/\∀(j:Nat)(p:Bool×List LA),vs[j]?=some p->∃u,us[j]?=some u/\E8 s W p.1 p.2 u
 | .bx as,v=>∃(b off:Nat) (arr:Array Value) (T:TypeId) (fr:Nat×Nat),v=.pointer (some ⟨b,off,none⟩)/\W.fz b/\W.w.heap[b]?=some (.cells arr T fr)/\(∀j,j<arr.size->¬(fr.1<=j/\j<fr.2))/\∀(j:Nat)(a:LA),as[j]?=some a->∃u,arr[off+j]?=some u/\AQ s W a u
def Aa(s:St)(W:Wd)(a:LA)(v?:Option Value)(o:Is):Prop:=match a with
 | .arr _ _ t e xs d=>∃v,v?=some v/\AD e d W.w W.fz v xs o
 |a=>o=[]/\∀v,v?=some v->AQ s W a v
def ER(s:St)(W:Wd)(r:Nat)(x:Bo):Prop:=
 (∀j,Aa s W (nth .bad x.ls j) (W.cv r j) (W.om (.lf r j)))/\
 (if x.box then W.om (.blk r)=[W.bk r]/\∃arr T fr,W.w.heap[W.bk r]?=some (.cells arr T fr)/\(∀j,j<arr.size->¬(fr.1<=j/\j<fr.2))/\arr.size=x.ls.length/\∀j,W.cv r j=arr[j]?
  else W.om (.blk r)=[])
structure Sep(E:Cy)(W:Wd):Prop where
 nodup:∀k,(W.om k).Nodup
 A4:∀k k',k≠k'->∀b∈W.om k,b∉W.om k'
 own:∀k,∀b∈W.om k,¬W.fz b/\b<W.w.heap.size/\(E.base<=b\/E.io b)
 fz:∀b,W.fz b->b<W.w.heap.size/\(E.fa b\/E.base<=b\/E.io b)
 frame:∀b,b<E.base->¬E.io b->W.w.heap[b]?=E.w0.heap[b]?
 size:E.base<=W.w.heap.size
 rest:W.w.os=E.w0.os/\W.w.tape=E.w0.tape/\W.w.output=E.w0.output
structure AU(E:Cy)(s:St)(tm:Array Value)(W:Wd):Prop where
 DM:s.sl.length=tm.size
 Bs:s.ro.length=tm.size
 AO:∀t,BW s W (s.slot t) (tm.getD t Go.undef)
 roots:∀r,ER s W r (s.root r)
 sep:Sep E W
 init:(∀(r j gen:Nat)(t:TypeId)(e:Ls)(xs:List e.D)(d:Nat),s.leaf r j=.arr 1 gen t e xs d->W.cv r j=E.Ob r j)/\∀r,(s.root r).box=true->(s.root r).AA=1->W.bk r=E.PS r
theorem Ls.HL:∀(e:Ls)(j:Nat) {d:Nat} {w:World} {fz:Nat->Prop} {g:Nat->Option Value} {x:e.D} {o:Is} {t:TypeId} {f:Ls},
  e.rd d w fz g x o->e.kinds[j]?=some (.sl t f)->∃(h:Value) (ys:List f.D) (o':Is),g j=some h/\AD f d w fz h ys o'/\∀b∈o',b∈o
 | .nil,j,_,_,_,_,_,_,_,_,_,hk=>by simp[Ls.kinds]at hk
 | .one l,j,d,w,fz,g,x,o,t,f,h,hk=>by
  simp only[Ls.rd]at h;obtain⟨v,hg,h⟩:=h;cases j with
  |zero=>simp[Ls.kinds]at hk;subst hk;exact⟨v,x,o,hg,h,λb hb=>hb⟩
  |succ j=>simp[Ls.kinds]at hk
 | .cons l ls,j,d,w,fz,g,x,o,t,f,h,hk=>by
  simp only[Ls.rd]at h;obtain⟨v,o1,o2,hg,h1,h2,rfl⟩:=h;cases j with
  |zero=>simp[Ls.kinds]at hk;subst hk;exact⟨v,x.1,o1,hg,h1,λb hb=>AAV _ hb⟩
  |succ j=>
   simp only[Ls.kinds,AA1]at hk;obtain⟨h',ys,o',a,b,c⟩:=Ls.HL ls j h2 hk;grind
theorem Row.cell{w:World}{a:Addr}{n:Nat}{own:Bool}{g:Nat->Option Value}(h:Row w a n own g)(j:Nat):w.cell? (at_ a j)=g j:=by obtain⟨hs,arr,T,fr,hh,hn,hb,hg⟩:=h;simp[World.cell?,at_,hh,hg]
theorem Mg{w:World}:∀(p:List (Nat×Nat)) {e:Ls} {d:Nat} {fz:Nat->Prop} {h:Value} {xs:List e.D} {o:Is} {e':Ls} {v:Value},
  AD e d w fz h xs o->Jl w p e h e' v->∃(d':Nat) (ys:List e'.D) (o':Is),AD e' d' w fz v ys o'/\∀b∈o',b∈o
 | [],e,d,fz,h,xs,o,e',v,hr,hn=>by obtain⟨rfl,rfl⟩:=hn;grind
 |(i,j)::p,e,d,fz,h,xs,o,e',v,hr,hn=>by
  obtain⟨a,len,c,t',f,h',rfl,hs,hi,hk,hc,hn⟩:=hn;obtain⟨A,c',hv,hle,hr⟩:=hr;injection hv with hA hl zg
  subst hA;have hi':i<xs.length:=hl▸hi;rcases hr with hr|⟨g,os,yz,zN,ho⟩
  ·have:=hr.2.1;omega
  obtain⟨h2,ys,o',hg,zE,zr⟩:=Ls.HL e j (zN i hi') hk
  have:h2=h':=by have:=yz.cell (i*e.n+j);rw[this,hg]at hc;exact Option.some.inj hc
  subst this;obtain⟨d2,zs,o2,hz,hs2⟩:=Mg p zE hn;grind
theorem BI{w w':World}:∀(p:List (Nat×Nat)) {e:Ls} {d:Nat} {fz:Nat->Prop} {h:Value} {xs:List e.D} {o:Is} {e':Ls} {v:Value},
  AD e d w fz h xs o->Jl w p e h e' v->(∀b,b∈o\/fz b->w'.heap[b]?=w.heap[b]?)->Jl w' p e h e' v
 | [],e,d,fz,h,xs,o,e',v,hr,hn,hf=>hn
 |(i,j)::p,e,d,fz,h,xs,o,e',v,hr,hn,hf=>by
  obtain⟨a,len,c,t',f,h',rfl,hs,hi,hk,hc,hn⟩:=hn;obtain⟨A,c',hv,hle,hr⟩:=hr;injection hv with hA hl zg
  subst hA;have hi':i<xs.length:=hl▸hi;rcases hr with hr|⟨g,os,yz,zN,ho⟩
  ·have:=hr.2.1;omega
  obtain⟨h2,ys,o',hg,zE,zr⟩:=Ls.HL e j (zN i hi') hk
  have zU:a.block∈o\/fz a.block:=by
   revert ho
   cases decide (0<d)with
   |true=>intro ho;left;rw[ho];simp
   |false=>intro ho;exact .inr ho.1
  have:h2=h':=by have:=yz.cell (i*e.n+j);rw[this,hg]at hc;exact Option.some.inj hc
  subst this;refine⟨a,len,c,t',f,h2,rfl,hs,hi,hk,?_,BI p zE hn λb hb=>hf b ?_⟩
  ·rw[(yz.frame (hf _ zU)).cell,hg]
  grind
section
variable {E:Cy}{s s':St}{tm:Array Value}{W:Wd}{w':World}
theorem ER.row{r:Nat}(h:ER s W r (s.root r)){j AA gen:Nat}{t:TypeId}{e:Ls}{xs:List e.D}{d:Nat}(hl:s.leaf r j=.arr AA gen t e xs d):
  ∃v,W.cv r j=some v/\AD e d W.w W.fz v xs (W.om (.lf r j)):=by
 have:=h.1 j;unfold St.leaf at hl;rw[hl]at this;exact this
def Still(W:Wd)(w':World):Prop:=∀b,(W.fz b\/∃k,b∈W.om k)->w'.heap[b]?=W.w.heap[b]?
theorem AQ.world(hr:∀r,ER s W r (s.root r))(hf:Still W w'){a:LA}{v:Value}(h:AQ s W a v):AQ s { W with w:=w' } a v:=by
 cases a with
 |bad=>trivial
 |undef=>exact h
 |DN=>exact h
 |JY=>exact h
 |sc l x=>exact L.AI l h (λb hb=>hf b (hb.elim (λhb=>by cases hb) .inl)) λb hb=>hb
 |ref c=>
  intro gen t e xs d hl hp;obtain⟨h',e',hc,hn⟩:=h gen t e xs d hl hp;obtain⟨u,hu,zE⟩:=(hr c.r).row hl;have:u=h':=Option.some.inj (hu.symm.trans hc);subst this;exact⟨u,e',hc,BI _ zE hn λb hb=>hf b (hb.elim (λhb=>.inr ⟨_,hb⟩) .inl)⟩
 |EI c lo hi=>
  intro gen t e xs d hl hp;obtain⟨h',e',A,n,k,hc,hn,rest⟩:=h gen t e xs d hl hp;obtain⟨u,hu,zE⟩:=(hr c.r).row hl;have:u=h':=Option.some.inj (hu.symm.trans hc);subst this;exact⟨u,e',A,n,k,hc,BI _ zE hn λb hb=>hf b (hb.elim (λhb=>.inr ⟨_,hb⟩) .inl),rest⟩
 |ptr r j AA=>exact h
 |Bm c=>
  intro gen t e xs d hl hp;obtain⟨q,i,off,h',e',a,n,k,hs,hc,hn,rest⟩:=h gen t e xs d hl hp;obtain⟨u,hu,zE⟩:=(hr c.r).row hl;have:u=h':=Option.some.inj (hu.symm.trans hc);subst this;exact⟨q,i,off,u,e',a,n,k,hs,hc,BI _ zE hn λb hb=>hf b (hb.elim (λhb=>.inr ⟨_,hb⟩) .inl),rest⟩
 |EC e x off=>
  obtain⟨a,g,arr,T,fr,hv,hz,hh,hg,zE⟩:=h;exact⟨a,g,arr,T,fr,hv,hz,(hf _ (.inl hz)).trans hh,hg,Ls.AI e zE (λb hb=>hf b (hb.elim (λhb=>by cases hb) .inl)) λb hb=>hb⟩
 |fn f=>exact h
 |JR t c=>
  obtain⟨u,hv,h⟩:=h;refine⟨u,hv,λgen t e xs d hl hp=>?_⟩;obtain⟨h',e',hc,hn⟩:=h gen t e xs d hl hp;obtain⟨u',hu,zE⟩:=(hr c.r).row hl;have:u'=h':=Option.some.inj (hu.symm.trans hc);subst this;exact⟨u',e',hc,BI _ zE hn λb hb=>hf b (hb.elim (λhb=>.inr ⟨_,hb⟩) .inl)⟩
 |EM g ps qs=>exact h
 |arr=>exact h
theorem E8.map{s s':St}{W W':Wd}(f:∀a v,AQ s W a v->AQ s' W' a v){g:Bool}{as:List LA}{v:Value}(h:E8 s W g as v):E8 s' W' g as v:=by unfold E8 at *;grind
theorem BW.map{s s':St}{W W':Wd}(hz:∀b,W.fz b->W'.fz b/\W'.w.heap[b]?=W.w.heap[b]?)(f:∀a v,AQ s W a v->AQ s' W' a v){a:AV}{v:Value}(h:BW s W a v):BW s' W' a v:=by
 cases a with
 |v g as=>exact E8.map f h
 |Dr vs=>
  obtain⟨us,hv,hs,h⟩:=h;exact⟨us,hv,hs,λj p hp=>let ⟨u,hu,hl⟩:=h j p hp;⟨u,hu,E8.map f hl⟩⟩
 |bx as=>
  obtain⟨b,off,arr,T,fr,hv,h1,h2,h3,h⟩:=h;exact⟨b,off,arr,T,fr,hv,(hz b h1).1,(hz b h1).2.trans h2,h3,λj a ha=>let ⟨u,hu,hl⟩:=h j a ha;⟨u,hu,f _ _ hl⟩⟩
theorem Aa.map{s s':St}{W W':Wd}(f:∀a v,AQ s W a v->AQ s' W' a v){a:LA}{v?:Option Value}{o:Is}
  (g:∀(e:Ls)(d:Nat)(xs:List e.D)(v:Value),AD e d W.w W.fz v xs o->AD e d W'.w W'.fz v xs o) (h:Aa s W a v? o):Aa s' W' a v? o:=by
 unfold Aa at *;grind
theorem AU.world(h:AU E s tm W)(hf:Still W w')(hb:∀b,b<E.base->¬E.io b->w'.heap[b]?=W.w.heap[b]?)(hs:W.w.heap.size<=w'.heap.size)(ho:w'.os=W.w.os/\w'.tape=W.w.tape/\w'.output=W.w.output):AU E s tm { W with w:=w' } where
 DM:=h.DM
 Bs:=h.Bs
 AO t:=BW.map (W:=W) (W':={ W with w:=w' }) (λb hb=>⟨hb,hf b (.inl hb)⟩) (λ_ _=>AQ.world h.roots hf) (h.AO t)
 roots r:=by
  obtain⟨h1,h2⟩:=h.roots r;refine⟨λj=>(h1 j).map (λ_ _=>AQ.world h.roots hf) λe d xs v zE=>zE.frame (λb hb=>hf b (hb.elim (λhb=>.inr ⟨_,hb⟩) .inl)) λb hb=>hb,?_⟩;split
  ·rename_i hbx;rw[AAP hbx]at h2;obtain⟨ho,arr,T,fr,hh,rest⟩:=h2;exact⟨ho,arr,T,fr,(hf _ (.inr ⟨.blk r,by rw[ho];simp⟩)).trans hh,rest⟩
  grind
 sep:={
  nodup:=h.sep.nodup
  A4:=h.sep.A4
  own:=λk b hb=>let ⟨a,c,d⟩:=h.sep.own k b hb;⟨a,AA4 c hs,d⟩
  fz:=λb zJ=>let ⟨a,c⟩:=h.sep.fz b zJ;⟨AA4 a hs,c⟩
  frame:=λb hb1 hb2=>(hb b hb1 hb2).trans (h.sep.frame b hb1 hb2)
  size:=AAv h.sep.size hs
  rest:=⟨ho.1.trans h.sep.rest.1,ho.2.1.trans h.sep.rest.2.1,ho.2.2.trans h.sep.rest.2.2⟩ }
 init:=h.init
theorem AU.KW(h:AU E s tm W)(hf:∀b,b<W.w.heap.size->w'.heap[b]?=W.w.heap[b]?):Still W w':=by
 intro b hb;rcases hb with hb|⟨k,hb⟩
 ·exact hf b (h.sep.fz b hb).1
 ·exact hf b (h.sep.own k b hb).2.1
end
end Go.Ev
namespace Go.Ev
def LA.CJ:LA->Bool
 | .arr _ _ _ _ _ _=>true
 |_=>false
def Ad(s:St)(v:Nat):Prop:=(∀t,v∉(s.slot t).AG)/\(∀r j,(s.leaf r j).CJ=true\/v∉(s.leaf r j).AG)/\1<v
structure ES(v:Nat)(s s':St)(W W':Wd):Prop where
 fz:∀b,W.fz b->W'.fz b
 Lf:∀b,W.fz b->W'.w.heap[b]?=W.w.heap[b]?
 leaf:∀r j AA gen t e xs d,s'.leaf r j=.arr AA gen t e xs d->AA≠v->W'.cv r j=W.cv r j/\
  ∃gen0 t0 xs0 d0,s.leaf r j=.arr AA gen0 t0 e xs0 d0/\(gen≠v->gen=gen0/\∀p h e' u,W.cv r j=some h->Jl W.w p e h e' u->Jl W'.w p e h e' u)
 box:∀r,(s'.root r).box=true->(s'.root r).AA≠v->(s.root r).box=true/\(s.root r).AA=(s'.root r).AA/\W'.bk r=W.bk r
section
variable {v:Nat}{E:Cy}{s s':St}{tm tm':Array Value}{W W':Wd}
theorem Cn:∀ {p q:List (Nat×Nat)} {i off:Nat},Aj p=some (q,i,off)->p=q++[(i,off)]
 | [],_,_,_,h=>by simp[Aj]at h
 | [x],q,i,off,h=>by simp[Aj]at h;grind
 |x::y::r,q,i,off,h=>by
  simp only[Aj]at h;split at h
  ·rename_i q' i' off' hq;injection h with h
   injection h with h1 h2
   injection h2 with h2 h3
   subst h1;subst h2;subst h3;rw[Cn hq];rfl
  ·cases h
theorem AQ.Ds(h:ES v s s' W W'){a:LA}{u:Value}(hv:v∉a.AG)(ha:AQ s W a u):AQ s' W' a u:=by
 cases a with
 |bad=>trivial
 |undef=>exact ha
 |DN=>exact ha
 |JY=>exact ha
 |sc l x=>exact L.AI l ha (λb hb=>h.Lf b (hb.elim (λhb=>by cases hb) id)) h.fz
 |ref c=>
  intro gen t e xs d hl hp;have zD:c.AA≠v/\c.gen≠v:=by simp[LA.AG]at hv;exact⟨λe=>hv.1 e.symm,λe=>hv.2 e.symm⟩
  obtain⟨hc,gen0,t0,xs0,d0,hl0,hg⟩:=h.leaf _ _ _ _ _ _ _ _ hl zD.1;by_cases hn:c.p=[]
  ·obtain⟨h',e',zg,hn'⟩:=ha _ _ _ _ _ hl0 (.inl hn);rw[hn]at hn';exact⟨h',e',hc.trans zg,by rw[hn];exact hn'⟩
  ·have zu:gen=c.gen:=hp.resolve_left hn;obtain⟨rfl,hnav⟩:=hg (by rw[zu];exact zD.2);obtain⟨h',e',zg,hn'⟩:=ha _ _ _ _ _ hl0 (.inr zu);grind
 |EI c lo hi=>
  intro gen t e xs d hl hp;have zD:c.AA≠v/\c.gen≠v:=by simp[LA.AG]at hv;exact⟨λe=>hv.1 e.symm,λe=>hv.2 e.symm⟩
  obtain⟨hc,gen0,t0,xs0,d0,hl0,hg⟩:=h.leaf _ _ _ _ _ _ _ _ hl zD.1;by_cases hn:c.p=[]
  ·obtain⟨h',e',A,n,k,zg,hn',rest⟩:=ha _ _ _ _ _ hl0 (.inl hn);rw[hn]at hn';exact⟨h',e',A,n,k,hc.trans zg,by rw[hn];exact hn',rest⟩
  ·have zu:gen=c.gen:=hp.resolve_left hn;obtain⟨rfl,hnav⟩:=hg (by rw[zu];exact zD.2);obtain⟨h',e',A,n,k,zg,hn',rest⟩:=ha _ _ _ _ _ hl0 (.inr zu);grind
 |ptr r j AA=>
  intro hb zC;have zD:AA≠v:=by simp[LA.AG]at hv;exactλe=>hv e.symm
  obtain⟨b1,b2,b3⟩:=h.box r hb J;rw[b3];exact ha b1 (b2.trans zC)
 |Bm c=>
  intro gen t e xs d hl hp;have zD:c.AA≠v/\c.gen≠v:=by simp[LA.AG]at hv;exact⟨λe=>hv.1 e.symm,λe=>hv.2 e.symm⟩
  obtain⟨hc,gen0,t0,xs0,d0,hl0,hg⟩:=h.leaf _ _ _ _ _ _ _ _ hl zD.1;by_cases hn:c.p.length<=1
  ·obtain⟨q,i,off,h',e',a,n,k,hs,zg,hn',rest⟩:=ha _ _ _ _ _ hl0 (.inl hn)
   have hq:q=[]:=by have h1:=Cn hs;rw[h1,AAz]at hn;simpa using hn
   subst hq;exact⟨[],i,off,h',e',a,n,k,hs,hc.trans zg,hn',rest⟩
  ·have zu:gen=c.gen:=hp.resolve_left hn;obtain⟨rfl,hnav⟩:=hg (by rw[zu];exact zD.2);obtain⟨q,i,off,h',e',a,n,k,hs,zg,hn',rest⟩:=ha _ _ _ _ _ hl0 (.inr zu);grind
 |EC e x off=>
  obtain⟨a,g,arr,T,fr,hv',hz,hh,hg,zE⟩:=ha;exact⟨a,g,arr,T,fr,hv',h.fz _ hz,(h.Lf _ hz).trans hh,hg,Ls.AI e zE (λb hb=>h.Lf b (hb.elim (λhb=>by cases hb) id)) h.fz⟩
 |fn f=>exact ha
 |JR tt c=>
  obtain⟨u',hv',ha⟩:=ha;refine⟨u',hv',λgen t e xs d hl hp=>?_⟩;have zD:c.AA≠v/\c.gen≠v:=by simp[LA.AG]at hv;exact⟨λe=>hv.1 e.symm,λe=>hv.2 e.symm⟩
  obtain⟨hc,gen0,t0,xs0,d0,hl0,hg⟩:=h.leaf _ _ _ _ _ _ _ _ hl zD.1;by_cases hn:c.p=[]
  ·obtain⟨h',e',zg,hn'⟩:=ha _ _ _ _ _ hl0 (.inl hn);rw[hn]at hn';exact⟨h',e',hc.trans zg,by rw[hn];exact hn'⟩
  grind
 |EM g ps qs=>
  obtain⟨bs,hu,hlen,hk⟩:=ha;refine⟨bs,hu,hlen,λk p b hp hb h1 h2=>?_⟩;have zD:p.2≠v:=λe=>hv (by simp only[LA.AG];exact AAt.2 ⟨p,AAN hp,e⟩);obtain⟨b1,b2,b3⟩:=h.box p.1 h1 (by rw[h2];exact zD);grind
 |arr=>exact ha
theorem E8.Ds(h:ES v s s' W W'){g:Bool}{as:List LA}{u:Value}(hv:∀a∈as,v∉a.AG)(ha:E8 s W g as u):E8 s' W' g as u:=by
 unfold E8 at *;cases g with
 |false=>cases as with
  |nil=>exact ha
  |cons a as=>cases as with
   |nil=>exact AQ.Ds h (hv a OF) ha
   |cons=>exact ha
 |true=>
  obtain⟨cs,hc,hs,ha⟩:=ha;exact⟨cs,hc,hs,λj a hj=>let ⟨u,hu,hl⟩:=ha j a hj;⟨u,hu,AQ.Ds h (hv a (AAN hj)) hl⟩⟩
theorem BW.Ds(h:ES v s s' W W'){a:AV}{u:Value}(hv:v∉a.AG)(ha:BW s W a u):BW s' W' a u:=by
 cases a with
 |v g as=>exact E8.Ds h (λa hm hx=>hv (AAL.2 ⟨a,hm,hx⟩)) ha
 |Dr vs=>
  obtain⟨us,hu,hs,ha⟩:=ha;refine⟨us,hu,hs,λj p hp=>?_⟩;obtain⟨u,hu,hl⟩:=ha j p hp;exact⟨u,hu,E8.Ds h (λa hm hx=>hv (AAL.2 ⟨p,AAN hp,AAL.2 ⟨a,hm,hx⟩⟩)) hl⟩
 |bx as=>
  obtain⟨b,off,arr,T,fr,hu,h1,h2,h3,ha⟩:=ha;refine⟨b,off,arr,T,fr,hu,h.fz b h1,(h.Lf b h1).trans h2,h3,λj a hj=>?_⟩;obtain⟨u,hu,hl⟩:=ha j a hj;exact⟨u,hu,AQ.Ds h (λhx=>hv (AAL.2 ⟨a,AAN hj,hx⟩)) hl⟩
theorem HJ{α:Type}{d:α}{l:List α}{n:Nat}(h:n<l.length):nth d l n∈l:=by rw[Ae,AAI h];simp
theorem Aa.Ds(h:ES v s s' W W'){a:LA}{v?:Option Value}{o:Is}(hv:a.CJ=true\/v∉a.AG)(ho:∀b∈o,W'.w.heap[b]?=W.w.heap[b]?)(ha:Aa s W a v? o):Aa s' W' a v? o:=by
 unfold Aa at *;cases a with
 |arr AA gen t e xs d=>
  obtain⟨u,hu,hr⟩:=ha;exact⟨u,hu,hr.frame (λb hb=>hb.elim (ho b) (h.Lf b)) h.fz⟩
 |_=>exact⟨ha.1,λu hu=>AQ.Ds h (hv.resolve_left (by simp[LA.CJ])) (ha.2 u hu)⟩
theorem Sep.IM(h:Sep E W)(ch:Key->Prop)(hfz:W'.fz=W.fz)(zO:W.w.heap.size<=W'.w.heap.size)
  (zt:∀b,b<E.base->¬E.io b->W'.w.heap[b]?=W.w.heap[b]?) (ho:W'.w.os=W.w.os/\W'.w.tape=W.w.tape/\W'.w.output=W.w.output)
  (yx:∀k,¬ch k->W'.om k=W.om k) (hnd:∀k,ch k->(W'.om k).Nodup) (zx:∀k k',ch k->ch k'->k≠k'->∀b∈W'.om k,b∉W'.om k')
  (zv:∀k,ch k->∀b∈W'.om k,(∃k0,ch k0/\b∈W.om k0)\/(W.w.heap.size<=b/\b<W'.w.heap.size)):Sep E W' where
 nodup k:=by
  by_cases hk:ch k
  ·grind
  ·rw[yx k hk];exact h.nodup k
 A4 k k' zD b hb zJ:=by
  by_cases hk:ch k<;>by_cases hk':ch k'
  ·grind
  ·rw[yx k' hk']at zJ;rcases zv k hk b hb with⟨k0,hk0,h0⟩|⟨h0,_⟩
   ·exact h.A4 k0 k' (λe=>hk' (e▸hk0)) b h0 zJ
   ·have:=(h.own k' b zJ).2.1;omega
  ·rw[yx k hk]at hb;rcases zv k' hk' b zJ with⟨k0,hk0,h0⟩|⟨h0,_⟩
   ·exact h.A4 k0 k (λe=>hk (e▸hk0)) b h0 hb
   ·have:=(h.own k b hb).2.1;omega
  ·rw[yx k hk]at hb;rw[yx k' hk']at zJ;exact h.A4 k k' zD b hb zJ
 own k b hb:=by
  rw[hfz];by_cases hk:ch k
  ·rcases zv k hk b hb with⟨k0,_,h0⟩|⟨h0,h1⟩
   ·obtain⟨a,c,d⟩:=h.own k0 b h0;grind
   ·exact⟨λhz=>by have:=(h.fz b hz).1;omega,h1,.inl (by have:=h.size;omega)⟩
  ·rw[yx k hk]at hb;obtain⟨a,c,d⟩:=h.own k b hb;grind
 fz b hb:=by rw[hfz]at hb;obtain⟨a,c⟩:=h.fz b hb;grind
 frame b h1 h2:=(zt b h1 h2).trans (h.frame b h1 h2)
 size:=AAv h.size zO
 rest:=⟨ho.1.trans h.rest.1,ho.2.1.trans h.rest.2.1,ho.2.2.trans h.rest.2.2⟩
theorem AU.IM(h:AU E s tm W)(hv:Ad s v)(ht:ES v s s' W W')(hsep:Sep E W')(l1:s'.sl.length=tm'.size)(l2:s'.ro.length=tm'.size)
  (hs:∀t,(s'.slot t=s.slot t/\tm'.getD t Go.undef=tm.getD t Go.undef)\/BW s' W' (s'.slot t) (tm'.getD t Go.undef))
  (hr:∀r,ER s' W' r (s'.root r)):AU E s' tm' W' where
 DM:=l1
 Bs:=l2
 AO t:=by
  rcases hs t with⟨a,b⟩|a
  ·rw[a,b];exact BW.Ds ht (hv.1 t) (h.AO t)
  ·exact a
 roots:=hr
 sep:=hsep
 init:=by
  have h1:1≠v:=Nat.ne_of_lt hv.2.2;refine⟨λr j gen t e xs d hl=>?_,λr hb zC=>?_⟩
  ·obtain⟨hc,gen0,t0,xs0,d0,hl0,_⟩:=ht.leaf r j 1 gen t e xs d hl h1;exact hc.trans (h.init.1 _ _ _ _ _ _ _ hl0)
  ·obtain⟨b1,b2,b3⟩:=ht.box r hb J;exact b3.trans (h.init.2 r b1 (b2.trans zC))
end
end Go.Ev
namespace Go.Ev
def CL:L->Value
 | .int k=>.int k 0
 | .bool=>.bool false
 | .str=>.string .empty
 | .sl _ _=>.slice none 0 0
structure MB(P:Program)(t:TypeId)(e:Ls):Prop where
 info:∃i,P.info? t=some i/\i.size=e.n/\i.bytes<=1024/\∃z,i.zero=some z/\z.cells=(e.kinds.map CL).toArray
 pos:0<e.n
def Gb(P:Program)(t:TypeId):L->Prop
 | .int k=>P.underlying t=some (.int k)
 | .bool=>P.underlying t=some .bool
 | .str=>P.underlying t=some .string
 | .sl t' e=>P.underlying t=some (.slice t')/\MB P t' e
def JI(P:Program)(t:TypeId):L->Prop
 | .int k=>P.underlying t=some (.int k)
 | .bool=>P.underlying t=some .bool
 | .str=>P.underlying t=some .string
 | .sl _ _=>False
def G5(P:Program):Nat->List Field->List L->Prop
 |_,[],[]=>True
 | n, f :: fs, l :: ls => f.name ≠ "_" /\ f.offset = n /\ JI P f.type l /\ G5 P (n + 1) fs ls
 |_,_,_=>False
structure PO(P:Program)(t:TypeId)(ls:List L):Prop where
 held:P.stoodInHeld t=false
 guard:P.eqGuardType P.depth t=false
 fields:∃fs:Array Field,P.underlying t=some (.struct fs)/\G5 P 0 fs.toList ls
structure Ny(P:Program)(t:TypeId)(ty:Ty):Prop where
 info:∃i,P.info? t=some i/\i.size=ty.ls.n/\∃z,i.zero=some z/\z.cells=(ty.ls.kinds.map CL).toArray/\(z=.agg (ty.ls.kinds.map CL).toArray\/ty.agg=false)
 agg:ty.agg=true->∃fs:Array Field,P.underlying t=some (.struct fs)/\fs.toList.map (λf=>(f.offset,f.type))=ty.fs/\∃pl,fs.toList.mapM (λf=>(P.info? f.type).map λi=>(f.offset,i.size))=some pl
 lone:ty.agg=false->∃l,ty.ls=.one l/\Gb P t l
 eqs:ty.eq=true->PO P t ty.ls.kinds
def Oh(P:Program)(t:TypeId):Prop:=∃i z c,P.info? t=some i/\i.size=1/\i.zero=some z/\z.cells = #[c]/\c.oneCell'=true
def MC(P:Program)(env:Env):Prop:=∀t,env.PF t=true->Oh P t
def Dt(P:Program)(cx:Cx):Prop:=∀t ty,cx.ty t=some ty->Ny P t ty
theorem Gb.JZ{P:Program}{t:TypeId}{l:L}(h:Gb P t l):∃d,P.underlying t=some d/\(match d with | .struct _ | .array _ _=>true|_=>false)=false:=by
 cases l with
 |int k=>exact⟨_,h,rfl⟩
 |bool=>exact⟨_,h,rfl⟩
 |str=>exact⟨_,h,rfl⟩
 |sl t' e=>exact⟨_,h.1,rfl⟩
def Bc(P:Program)(E:Cy)(o:Oper)(a:Act)(w:World)(s':St):Prop:=
 ∀(next:Act->World->Prop)(Q:Exit->Act->World->Prop),(∀a' W',a'.defers=a.defers->AU E s' a'.tmps W'->next a' W'.w)->o.wp P a w next Q
section
variable {P:Program}{E:Cy}{s:St}{tm:Array Value}{W:Wd}{o:Oper}{a:Act}
theorem BO(s:St)(d:Nat)(x:AV)(t:Nat):(s.AF (.slot d x)).slot t=if d=t/\d<s.sl.length then x else s.slot t:=Aw _ _ _ _ _
theorem As(s:St)(d:Nat)(x:Bo)(t:Nat):(s.AF (.root d x)).root t=if d=t/\d<s.ro.length then x else s.root t:=Aw _ _ _ _ _
theorem AU.slot(h:AU E s tm W)(d:Nat){x:AV}{u:Value}(hx:BW s W x u):AU E (s.AF (.slot d x)) (tm.setIfInBounds d u) W where
 DM:=by simp[St.AF,CZ,h.DM]
 Bs:=by simp[St.AF,h.Bs]
 AO t:=by
  rw[BO];by_cases hd:d=t/\d<s.sl.length
  ·obtain⟨rfl,zA⟩:=hd;rw[AAP ⟨rfl,zA⟩]
   have:(tm.setIfInBounds d u).getD d Go.undef=u:=by rw[h.DM]at zA;simp[AAw,zA]
   rw[this];exact hx
  ·rw[AAQ hd]
   have:(tm.setIfInBounds d u).getD t Go.undef=tm.getD t Go.undef:=by
    by_cases hdt:d=t
    ·have:¬d<tm.size:=λhl=>hd ⟨hdt,by rw[h.DM];exact hl⟩;grind
    ·simp[AAw,hdt]
   rw[this];exact h.AO t
 roots r:=h.roots r
 sep:=h.sep
 init:=h.init
theorem AU.outs(h:AU E s tm W)(dst:Option Nat){x:AV}{u:Value}(hx:BW s W x u):
  AU E (s.app (match dst with|some d=>[.slot d x]|none=>[])) (match dst with|some d=>tm.setIfInBounds d u|none=>tm) W:=by
 cases dst with
 |none=>exact h
 |some d=>exact h.slot d hx
theorem BM(v:Value):AQ s W (ofConst v) v:=by
 cases v with
 |int k n=>exact⟨rfl,rfl⟩
 |bool b=>exact⟨rfl,rfl⟩
 |string b=>exact⟨OF,rfl⟩
 |slice A n c=>
  cases A with
  |none=>cases n with
   |zero=>cases c with
    |zero=>exact rfl
    |succ c=>trivial
   |succ n=>trivial
  |some a=>trivial
 |pointer A=>cases A with
  |none=>exact rfl
  |some a=>trivial
 |_=>trivial
theorem BN(h:AU E s a.tmps W)(x:Operand):BW s W (s.Ao x) (a.eval x):=by
 cases x with
 |tmp t=>exact h.AO t
 |const v=>
  cases v with
  |agg cs=>
   refine⟨cs,rfl,OF,λj b hj=>?_⟩;simp only[AAb]at hj;cases hc:cs.toList[j]? with
   |none=>grind
   |some u=>
    rw[hc]at hj;injection hj with hj;subst hj
    exact⟨u,No,BM u⟩
  |bool b=>exact BM (s:=s) (W:=W) (.bool b)
  |int k n=>exact BM (s:=s) (W:=W) (.int k n)
  |float k n=>exact BM (s:=s) (W:=W) (.float k n)
  |complex k x y=>exact BM (s:=s) (W:=W) (.complex k x y)
  |string b=>exact BM (s:=s) (W:=W) (.string b)
  |pointer b=>exact BM (s:=s) (W:=W) (.pointer b)
  |slice b n c=>exact BM (s:=s) (W:=W) (.slice b n c)
  |map r=>exact BM (s:=s) (W:=W) (.map r)
  |chan r=>exact BM (s:=s) (W:=W) (.chan r)
  |func f x y=>exact BM (s:=s) (W:=W) (.func f x y)
  |nilFunc=>exact BM (s:=s) (W:=W) .nilFunc
  |iface t x=>exact BM (s:=s) (W:=W) (.iface t x)
  |nilIface=>exact BM (s:=s) (W:=W) .nilIface
  |tuple vs=>exact BM (s:=s) (W:=W) (.tuple vs)
 |global g=>exact trivial
 |func f=>exact rfl
theorem Ac(h:AU E s a.tmps W)(x:Operand):AQ s W (s.Ai x) (a.eval x):=by
 have:=BN h x;unfold St.Ai
 revert this
 cases s.Ao x with
 |Dr vs=>intro _;trivial
 |bx as=>intro _;trivial
 |v g as=>
  cases g with
  |true=>intro _;cases as with
   |nil=>trivial
   |cons b bs=>cases bs<;>trivial
  |false=>cases as with
   |nil=>intro _;trivial
   |cons b bs=>cases bs with
    |nil=>intro h;exact h
    |cons=>intro _;trivial
theorem Kk(h:AU E s a.tmps W){u:Value}{x:AV}(zF:(execOp a.eval o).run P W.w=.ok (.value u) W.w)(hx:BW s W x u):
  Bc P E o a W.w (s.app (match o.dst with|some d=>[.slot d x]|none=>[])):=by
 intro next Q hn
 unfold Oper.wp;rw[zF];show next (a.put o.dst u) W.w
 refine hn _ W ?_ ?_
 ·cases o.dst<;>rfl
 ·have:=h.outs o.dst hx;cases hd:o.dst with
  |none=>rw[hd]at this;exact this
  |some d=>rw[hd]at this;exact this
theorem IntKind.Hj{i j:IntKind}(h:(IntKind.code i==IntKind.code j)=true):i=j:=IntKind.EY ADn
theorem Bi(k:IntKind)(n:Int):BW s W (Ih k n) (.int k n):=⟨rfl,rfl⟩
theorem Cv(b:Bool):BW s W (Ig b) (.bool b):=⟨rfl,rfl⟩
theorem Kz(b:ADi):BW s W (O7 b) (.string ⟨b.toArray⟩):=⟨rfl,rfl⟩
theorem L7{cx:Cx}(hc:Dt P cx){t:TypeId}(h:Il cx t .bool=true):P.underlying t=some .bool:=by
 unfold Il at h;split at h
 ·rename_i ty ht;simp at h;obtain⟨l,hl,hf⟩:=(hc t ty ht).lone h.1;rw[hl]at h;have:=h.2;simp only[Ls.eq?]at this;obtain rfl:=L.Dw this;exact hf
 ·cases h
variable {T:Type}{β:Type}
theorem Ag{b:Bool}{x y:Step β}{t:β}(h:(Step.iff b x y).leads t):(b=true/\x.leads t)\/(b=false/\y.leads t):=by
 cases b
 ·exact .inr ⟨rfl,h⟩
 ·exact .inl ⟨rfl,h⟩
theorem NN{op:BinOp}{y:Operand}{i:IntKind}{m n:Int}{k:AV->Step β}{t:β}(hz:isZero y=false->n≠0)(h:(MO op y i m n k).leads t)(tx:TypeId)(x:Operand)(w:World):
  ∃z r,(k z).leads t/\BW s W z r/\(do eqGuard op tx x y (.int i m) (.int i n);binOp op tx (.int i m) (.int i n):Sem Value).run P w=.ok r w:=by
 cases op<;>simp only[MO]at h
 case add=>exact⟨_,_,h,Bi _ _,by simp[eqGuard,binOp,Op.intArith]⟩
 case sub=>exact⟨_,_,h,Bi _ _,by simp[eqGuard,binOp,Op.intArith]⟩
 case mul=>exact⟨_,_,h,Bi _ _,by simp[eqGuard,binOp,Op.intArith]⟩
 case quo=>
  have h0:n≠0/\(k (Ih i (i.wrap (Int.tdiv m n)))).leads t:=by
   split at h
   ·rcases Ag h with⟨_,h⟩|⟨hb,h⟩
    ·exact h.elim
    grind
   ·grind
  exact⟨_,_,h0.2,Bi _ _,by simp[eqGuard,binOp,Op.intDiv,h0.1]⟩
 case rem=>
  have h0:n≠0/\(k (Ih i (Int.tmod m n))).leads t:=by
   split at h
   ·rcases Ag h with⟨_,h⟩|⟨hb,h⟩
    ·exact h.elim
    grind
   ·grind
  exact⟨_,_,h0.2,Bi _ _,by simp[eqGuard,binOp,Op.intDiv,h0.1]⟩
 case eql=>exact⟨_,_,h,Cv _,by simp[eqGuard,binOp,Op.intCmp]⟩
 case neq=>exact⟨_,_,h,Cv _,by simp[eqGuard,binOp,Op.intCmp]⟩
 case lss=>exact⟨_,_,h,Cv _,by simp[eqGuard,binOp,Op.intCmp]⟩
 case leq=>exact⟨_,_,h,Cv _,by simp[eqGuard,binOp,Op.intCmp]⟩
 case gtr=>exact⟨_,_,h,Cv _,by simp[eqGuard,binOp,Op.intCmp]⟩
 case geq=>exact⟨_,_,h,Cv _,by simp[eqGuard,binOp,Op.intCmp]⟩
 case and=>exact⟨_,_,h,Bi _ _,by simp[eqGuard,binOp,Op.intBits,Oi]⟩
 case or=>exact⟨_,_,h,Bi _ _,by simp[eqGuard,binOp,Op.intBits,PW]⟩
 case xor=>exact⟨_,_,h,Bi _ _,by simp[eqGuard,binOp,Op.intBits,Oz]⟩
 case shl=>
  rcases Ag h with⟨hb,h⟩|⟨_,h⟩
  ·have hb:¬n<0:=by have:=AAs hb;omega
   exact⟨_,_,h,Bi _ _,by simp[eqGuard,binOp,Op.shift,OX,hb]⟩
  ·exact h.elim
 case shr=>
  rcases Ag h with⟨hb,h⟩|⟨_,h⟩
  ·have hb:¬n<0:=by have:=AAs hb;omega
   exact⟨_,_,h,Bi _ _,by simp[eqGuard,binOp,Op.shift,OY,hb]⟩
  ·exact h.elim
 all_goals exact h.elim
theorem M4{op:BinOp}(hs:HD op=true){y:Operand}{i j:IntKind}{m n:Int}{k:AV->Step β}{t:β}(h:(MO op y i m n k).leads t)(tx:TypeId)(x:Operand)(w:World):
  ∃z r,(k z).leads t/\BW s W z r/\(do eqGuard op tx x y (.int i m) (.int j n);binOp op tx (.int i m) (.int j n):Sem Value).run P w=.ok r w:=by
 cases op<;>simp only[HD,ABP]at hs<;>simp only[MO]at h
 case shl=>
  rcases Ag h with⟨hb,h⟩|⟨_,h⟩
  ·have hb:¬n<0:=by have:=AAs hb;omega
   exact⟨_,_,h,Bi _ _,by simp[eqGuard,binOp,Op.shift,OX,hb]⟩
  ·exact h.elim
 case shr=>
  rcases Ag h with⟨hb,h⟩|⟨_,h⟩
  ·have hb:¬n<0:=by have:=AAs hb;omega
   exact⟨_,_,h,Bi _ _,by simp[eqGuard,binOp,Op.shift,OY,hb]⟩
  ·exact h.elim
theorem NM{op:BinOp}{y:Operand}{m n:Bool}{k:AV->Step β}{t:β}(h:(N6 op m n k).leads t)(tx:TypeId)(htx:P.underlying tx=some .bool)(x:Operand)(w:World):
  ∃z r,(k z).leads t/\BW s W z r/\(do eqGuard op tx x y (.bool m) (.bool n);binOp op tx (.bool m) (.bool n):Sem Value).run P w=.ok r w:=by
 cases op<;>simp only[N6]at h
 case eql=>exact⟨_,_,h,Cv _,by simp[eqGuard,run_eql_bool _ tx m n htx]⟩
 case neq=>exact⟨_,.bool (!(m==n)),h,⟨rfl,rfl⟩,by simp[eqGuard,run_neq_bool _ tx m n htx]⟩
 all_goals exact h.elim
theorem NO{op:BinOp}{y:Operand}{m n:ADi}{k:AV->Step β}{t:β}(h:(N7 op m n k).leads t)(tx:TypeId)(x:Operand)(w:World):
  ∃z r,(k z).leads t/\BW s W z r/\(do eqGuard op tx x y (.string ⟨m.toArray⟩) (.string ⟨n.toArray⟩);binOp op tx (.string ⟨m.toArray⟩) (.string ⟨n.toArray⟩):Sem Value).run P w=.ok r w:=by
 have tl:∀l:ADi,(⟨l.toArray⟩:ByteArray).toList=l:=λl=>OF
 cases op<;>simp only[N7]at h
 case eql=>exact⟨_,_,h,Cv _,by simp[eqGuard,binOp,Op.stringOp,tl]⟩
 case neq=>exact⟨_,_,h,Cv _,by simp[eqGuard,binOp,Op.stringOp,tl]⟩
 case add=>
  rcases Ag h with⟨hb,h⟩|⟨_,h⟩
  ·refine⟨_,_,h,Kz _,?_⟩;have hb:m.length+n.length<=4611686018427387904:=AAs hb;have hr:=run_string_add_sum (P:=P) w ⟨m.toArray⟩ ⟨n.toArray⟩ (by simp[ByteArray.size];omega);rw[ByteArray.mk_append_mk]at hr;simp only[eqGuard,binOp];grind
  ·exact h.elim
 all_goals exact h.elim
theorem MP{cx:Cx}(hc:Dt P cx){op:BinOp}{tx:TypeId}{x y:Operand}(h:AU E s a.tmps W){k:AV->Step β}{t:β}
  (hl:(binop (Il cx tx .bool) op y (s.Ai x) (s.Ai y) k).leads t):
  ∃z r,(k z).leads t/\BW s W z r/\(do eqGuard op tx x y (a.eval x) (a.eval y);binOp op tx (a.eval x) (a.eval y):Sem Value).run P W.w=.ok r W.w:=by
 have h1:=Ac h x;have h2:=Ac h y
 have hz:∀(k:IntKind)(n:Int),s.Ai y=.sc (.int k) n->isZero y=false->n≠0:=by
  intro k n hy h0;cases y with
  |const v=>
   cases v with
   |int j m=>
    simp only[St.Ai,St.Ao,AV.one?,ofConst]at hy;injection hy with e1 e2
    injection e1 with e1
    subst e1;subst e2;simp[isZero]at h0;exact h0
   |_=>simp[isZero]at h0
  |_=>simp[isZero]at h0
 revert h1 h2 hl hz
 generalize s.Ai x=p;generalize s.Ai y=q;intro hl h1 h2 hz;unfold binop at hl;split at hl
 ·rename_i l m n r;cases l with
  |int i=>cases n with
   |int j=>
    simp only at hl;split at hl
    ·rename_i hij;rw[h1.1,h2.1];cases hs:HD op with
     |true=>exact M4 hs hl tx x _
     |false=>
      rw[hs,Bool.or_false]at hij;obtain rfl:=IntKind.Hj hij;exact NN (hz _ _ rfl) hl tx x _
    ·exact hl.elim
   |_=>exact hl.elim
  |bool=>cases n with
   |bool=>
    simp only at hl;split at hl
    ·rename_i hb;rw[h1.1,h2.1];exact NM hl tx (L7 hc hb) x _
    ·exact hl.elim
   |_=>exact hl.elim
  |str=>cases n with
   |str=>
    rw[h1.1,h2.1];exact NO hl tx x _
   |_=>exact hl.elim
  |sl t e=>cases n<;>exact hl.elim
 ·exact hl.elim
theorem I5{d:Nat}{w:World}{fz:Nat->Prop}{k:(t:TypeId)->(f:Ls)->List f.D->Step β}{t:β}:∀(e:Ls)(j:Nat) {g:Nat->Option Value} {x:e.D} {o:Is} {t':TypeId} {f:Ls} {h:Value},
  (JW e j x k).leads t->e.rd d w fz g x o->e.kinds[j]?=some (.sl t' f)->g j=some h->∃(ys:List f.D) (o':Is),(k t' f ys).leads t/\AD f d w fz h ys o'/\∀b∈o',b∈o
 | .nil,j,_,_,_,_,_,_,hl,_,_,_=>hl.elim
 | .one l,0,g,x,o,t',f,h,hl,hr,hk,hg=>by
  simp only[Ls.rd]at hr;obtain⟨v,hv,hr⟩:=hr;simp[Ls.kinds]at hk;subst hk;rw[hg]at hv;injection hv with hv;subst hv
  exact⟨x,o,hl,hr,λb hb=>hb⟩
 | .one _,_+1,_,_,_,_,_,_,hl,_,_,_=>hl.elim
 | .cons l ls,0,g,x,o,t',f,h,hl,hr,hk,hg=>by
  simp only[Ls.rd]at hr;obtain⟨v,o1,o2,hv,hr,hr2,rfl⟩:=hr;simp[Ls.kinds]at hk;subst hk;rw[hg]at hv;injection hv with hv;subst hv
  exact⟨x.1,o1,hl,hr,λb hb=>AAV _ hb⟩
 | .cons l ls,j+1,g,x,o,t',f,h,hl,hr,hk,hg=>by simp only[Ls.rd]at hr;obtain⟨v,o1,o2,hv,hr,hr2,rfl⟩:=hr;obtain⟨ys,o',a,b,c⟩:=I5 ls j hl hr2 (by simpa[Ls.kinds]using hk) hg;grind
theorem MR{w:World}{fz:Nat->Prop}{k:(t:TypeId)->(e:Ls)->List e.D->Nat->Step β}{t:β}:∀(p:List (Nat×Nat)) {t0:TypeId} {e:Ls} {xs:List e.D} {d:Nat} {h:Value} {o:Is} {e':Ls} {v:Value},
  (Oo k p t0 e xs d).leads t->AD e d w fz h xs o->Jl w p e h e' v->∃(t':TypeId) (ys:List e'.D) (d':Nat) (o':Is),(k t' e' ys d').leads t/\AD e' d' w fz v ys o'/\∀b∈o',b∈o
 | [],t0,e,xs,d,h,o,e',v,hl,hr,hn=>by obtain⟨rfl,rfl⟩:=hn;exact⟨t0,xs,d,o,hl,hr,λb hb=>hb⟩
 |(i,j)::p,t0,e,xs,d,h,o,e',v,hl,hr,hn=>by
  obtain⟨a,len,c,t',f,h',rfl,hs,hi,hk,hc,hn⟩:=hn;obtain⟨A,c',hv,hle,hr⟩:=hr;injection hv with hA hl' zg
  subst hA;have hi':i<xs.length:=hl'▸hi;rcases hr with hr|⟨g,os,yz,zN,ho⟩
  ·have:=hr.2.1;omega
  obtain⟨x,hx,hl⟩:=hl;rw[AAI hi']at hx;injection hx with hx;subst hx
  have hg:(λj=>g (i*e.n+j)) j=some h':=by rw[yz.cell (i*e.n+j)]at hc;exact hc
  obtain⟨ys,o',hl,zE,zr⟩:=I5 e j hl (zN i hi') hk hg;obtain⟨t2,zs,d2,o2,hl,hz,hs2⟩:=MR p hl zE hn;grind
theorem Cd(h:AU E s tm W){c:Loc}{k:(t:TypeId)->(e:Ls)->List e.D->Nat->Step β}{t:β}(hl:(s.content c k).leads t):
  ∃(t0:TypeId) (e0:Ls) (xs0:List e0.D) (d0 gen:Nat),s.leaf c.r c.j=.arr c.AA gen t0 e0 xs0 d0/\(c.p=[]\/gen=c.gen)/\
   ∀(u:Value)(e':Ls)(v:Value),W.cv c.r c.j=some u->Jl W.w c.p e0 u e' v->∃(t':TypeId) (ys:List e'.D) (d':Nat) (o':Is),(k t' e' ys d').leads t/\AD e' d' W.w W.fz v ys o'/\∀b∈o',b∈W.om (.lf c.r c.j):=by
 unfold St.content at hl;split at hl
 ·rename_i AA gen t0 e0 xs0 d0 yr;split at hl
  ·rename_i zB;simp only[AAJ,AAT,AAe]at zB;obtain⟨hv,hg⟩:=zB;subst hv;refine⟨t0,e0,xs0,d0,gen,yr,hg.imp (λh=>by cases hp:c.p<;>simp_all[isNil]) id,λu e' v hu hn=>?_⟩;obtain⟨u',zG,hr⟩:=(h.roots c.r).row yr;rw[hu]at zG;injection zG with zG;subst zG
   exact MR c.p hl hr hn
  ·exact hl.elim
 ·exact hl.elim
theorem DR(h:AU E s tm W){c:Loc}{v:Value}(hv:AQ s W (.ref c) v){k:(t:TypeId)->(e:Ls)->List e.D->Nat->Step β}{t:β}(hl:(s.content c k).leads t):
  ∃(t':TypeId) (e':Ls) (ys:List e'.D) (d':Nat) (o':Is),(k t' e' ys d').leads t/\AD e' d' W.w W.fz v ys o'/\∀b∈o',b∈W.om (.lf c.r c.j):=by
 obtain⟨t0,e0,xs0,d0,gen,yr,hp,hk⟩:=Cd h hl;obtain⟨u,e',hu,hn⟩:=hv gen t0 e0 xs0 d0 yr hp;grind
theorem AD.len{e:Ls}{d:Nat}{w:World}{fz:Nat->Prop}{v:Value}{xs:List e.D}{o:Is}(h:AD e d w fz v xs o):∃A c,v=.slice A xs.length c/\xs.length<=c:=by obtain⟨A,c,hv,hc,_⟩:=h;grind
theorem CD.sub{α:Type}{n:Nat}{R:(Nat->Option Value)->α->Is->Prop}{own:Bool}{w:World}{fz:Nat->Prop}{A:Option Addr}{len c:Nat}{xs:List α}{o:Is}
  (h:CD n R own w fz (.slice A len c) xs o) {lo hi:Nat} (h1:lo<=hi) (h2:hi<=len):
  ∃o',CD n R own w fz (.slice (if c=lo then A else A.map (·.add (lo*n))) (hi-lo) (c-lo)) (Ev.sub xs lo hi) o'/\(∀b∈o',b∈o)/\(o.Nodup->o'.Nodup):=by
 obtain⟨A',c',hv,hc,h⟩:=h;injection hv with hA hl zg
 subst hA;subst hl;subst zg;have hlen:(Ev.sub xs lo hi).length=hi-lo:=by simp[Ev.sub];omega
 cases A with
 |none=>
  refine⟨[],⟨none,c-lo,?_,by rw[hlen];omega,?_⟩,OF,OF⟩
  all_goals grind
 |some a=>
  rcases h with h|⟨g,os,yz,zN,ho⟩
  ·obtain⟨rfl,rfl,rfl⟩:=h;have hl0:xs.length=0:=J
   have hhi:hi=0:=J
   have hlo:lo=0:=J
   subst hhi;subst hlo;have hnil:xs=[]:=AAO hl0;subst hnil;exact⟨[],⟨some a,0,by simp[Ev.sub],by simp[Ev.sub],.inl ⟨rfl,rfl,rfl⟩⟩,OF,OF⟩
  obtain⟨hs,arr,T,fr,hh,hn,hb,hg⟩:=yz
  have zM:∀i (hi':i<(Ev.sub xs lo hi).length),∃hx:lo+i<xs.length,(Ev.sub xs lo hi)[i]=xs[lo+i]:=by
   intro i hi';have:lo+i<xs.length:=by rw[hlen]at hi';omega
   exact⟨this,by simp[Ev.sub]⟩
  by_cases hcl:c=lo
  ·have hhi:hi=lo:=J
   have hnil:Ev.sub xs lo hi=[]:=by simp[Ev.sub,hhi]
   rw[AAP hcl,hnil,hhi];refine⟨match own with|true=>[a.block]|false=>[],⟨some a,c-lo,OF,OF,.inr ⟨λj=>arr[a.off+j]?,λ_=>[],⟨hs,arr,T,fr,hh,by rw[hcl];simp;omega,hb,λj=>rfl⟩,λi hi=>by simp at hi,?_⟩⟩,?_,?_⟩
   ·cases own with
    |true=>simp
    |false=>exact⟨ho.1,rfl,λ_ _=>rfl⟩
   all_goals grind
  ·rw[AAQ hcl]
   have hadd:(a.add (lo*n)).block=a.block/\(a.add (lo*n)).off=a.off+lo*n/\(a.add (lo*n)).spot=none:=by
    unfold Addr.add;split
    ·grind
    ·grind
   refine⟨match own with|true=>a.block::(List.range (hi-lo)).flatMap λi=>os (lo+i)|false=>[],
    ⟨some (a.add (lo*n)),c-lo,No,J,.inr ⟨λj=>g (lo*n+j),λi=>os (lo+i),⟨hadd.2.2,arr,T,fr,No,?_,hb,λj=>No⟩,λi hi'=>?_,?_⟩⟩,?_,?_⟩
   ·rw[hadd.2.1];have:lo*n+(c-lo)*n=c*n:=by rw[<-AAm];congr 1;omega
    omega
   ·grind
   ·grind
   ·grind
   ·cases own with
    |false=>simp
    |true=>
     intro hnd;rw[ho]at hnd;obtain⟨h1',h2'⟩:=AAa.1 hnd;refine AAa.2 ⟨λhm=>?_,?_⟩
     ·grind
     ·have e:(List.range (hi-lo)).flatMap (λi=>os (lo+i))=((List.range (hi-lo)).map (lo + ·)).flatMap os:=by simp[List.flatMap_map]
      rw[e,<-List.range'_eq_map_range];rw[List.range_eq_range']at h2'
      have:List.range' 0 xs.length=List.range' 0 lo++(List.range' lo (hi-lo)++List.range' hi (xs.length-hi)):=by have e1:=List.range'_append_1 (s:=lo) (m:=hi-lo) (n:=xs.length-hi);have e2:=List.range'_append_1 (s:=0) (m:=lo) (n:=xs.length-lo);rw[show lo+(hi-lo)=hi by omega]at e1;rw[e1,show hi-lo+(xs.length-hi)=xs.length-lo by omega];rw[AAY]at e2;rw[e2];congr 1;omega
      grind
end
end Go.Ev
namespace Go.Ev
def Seen(W:Wd)(rs:Is)(b:Nat):Prop:=W.fz b\/∃r∈rs,∃j,b∈W.om (.lf r j)
theorem GV:∀(ls:Ls) {d:Nat} {w:World} {fz:Nat->Prop} {g:Nat->Option Value} {x:ls.D} {o:Is},
  ls.rd d w fz g x o->∀(j:Nat)(lv:Lv),(unpack ls x)[j]?=some lv->∃u o',g j=some u/\lv.l.rd d w fz u lv.x o'/\∀b∈o',b∈o
 | .nil,_,_,_,_,_,_,_,j,lv,hj=>by simp[unpack]at hj
 | .one l,d,w,fz,g,x,o,h,j,lv,hj=>by
  simp only[Ls.rd]at h;obtain⟨v,hg,h⟩:=h;cases j with
  |zero=>simp[unpack]at hj;grind
  |succ j=>simp[unpack]at hj
 | .cons l ls,d,w,fz,g,x,o,h,j,lv,hj=>by
  simp only[Ls.rd]at h;obtain⟨v,o1,o2,hg,h1,h2,rfl⟩:=h;cases j with
  |zero=>simp[unpack]at hj;grind
  |succ j=>
   simp only[unpack,AA1]at hj;obtain⟨u,o',a,b,c⟩:=GV ls h2 j lv hj;grind
theorem Bh:∀(ls:Ls) {w:World} {fz:Nat->Prop} {g:Nat->Option Value} {x:ls.D},
  (∀(j:Nat)(lv:Lv),(unpack ls x)[j]?=some lv->∃u,g j=some u/\lv.l.rd 0 w fz u lv.x [])->ls.rd 0 w fz g x []
 | .nil,_,_,_,_,_=>by simp only[Ls.rd]
 | .one l,w,fz,g,x,h=>by simp only[Ls.rd];exact h 0 ⟨l,x⟩ rfl
 | .cons l ls,w,fz,g,x,h=>by simp only[Ls.rd];obtain⟨u,hu,hr⟩:=h 0 ⟨l,x.1⟩ rfl;exact⟨u,[],[],hu,hr,Bh ls λj lv hj=>h (j+1) lv (by simpa[unpack]using hj),rfl⟩
theorem Bz{e:Ls}{d:Nat}{w:World}{fz:Nat->Prop}:AD e d w fz (.slice none 0 0) ([]:List e.D) []:=⟨none,0,rfl,AAc _,rfl,rfl⟩
section
variable {P:Program}{E:Cy}{s:St}{tm:Array Value}{W:Wd}{o:Oper}{a:Act}{β:Type}{t:β}
theorem Seen.mono{rs rs':Is}(h:∀r∈rs,r∈rs'){b:Nat}(hb:Seen W rs b):Seen W rs' b:=hb.imp id λ⟨r,hr,x⟩=>⟨r,h r hr,x⟩
theorem EZ(h:AU E s tm W){c:Loc}{lo hi:Nat}{v:Value}(hv:AQ s W (.EI c lo hi) v){k:(t:TypeId)->(e:Ls)->List e.D->Nat->Step β}(hl:(s.content c k).leads t):
  ∃(t':TypeId) (e':Ls) (ys:List e'.D) (d':Nat) (o':Is),(k t' e' ys d').leads t/\AD e' d' W.w W.fz v (sub ys lo hi) o'/\(∀b∈o',b∈W.om (.lf c.r c.j)):=by
 obtain⟨t0,e0,xs0,d0,gen,yr,hp,hk⟩:=Cd h hl;obtain⟨u,e',A,n,k',hu,hn,h1,h2,rfl⟩:=hv gen t0 e0 xs0 d0 yr hp;obtain⟨t',ys,d',o',a,b,c'⟩:=hk u e' _ hu hn;obtain⟨o2,q1,q2,_⟩:=CD.sub b h1 h2;exact⟨t',e',ys,d',o2,a,q1,λb hb=>c' b (q2 b hb)⟩
theorem Bk(h:AU E s tm W){l:L}{la:LA}{v:Value}(hv:AQ s W la v){k:l.D->Step β}(hl:(s.Au l la k).leads t):
  ∃x,(k x).leads t/\l.rd 0 W.w (Seen W la.roots) v x []:=by
 unfold St.Au at hl;cases la with
 |sc m x=>
  simp only at hl;split at hl
  ·rename_i y hy;obtain⟨e,he⟩:=L.AH hy;subst e;subst he;exact⟨x,hl,L.AI m hv (λb hb=>rfl) λb hb=>.inl hb⟩
  ·exact hl.elim
 |DN=>
  cases l with
  |sl t' e=>exact⟨_,hl,by rw[show v=.slice none 0 0 from hv];exact Bz⟩
  |_=>exact hl.elim
 |ref c=>
  obtain⟨t',e',ys,d',o',hl,hr,ho⟩:=DR h hv hl;split at hl
  ·rename_i y hy;obtain⟨e,he⟩:=L.AH hy;subst e;subst he;exact⟨ys,hl,hr.freeze λb hb=>hb.elim .inl λhb=>.inr ⟨c.r,by simp[LA.roots],c.j,ho b hb⟩⟩
  ·exact hl.elim
 |EI c lo hi=>
  obtain⟨t',e',ys,d',o',hl,hr,ho⟩:=EZ h hv hl;split at hl
  ·rename_i y hy;obtain⟨e,he⟩:=L.AH hy;subst e;subst he;exact⟨_,hl,hr.freeze λb hb=>hb.elim .inl λhb=>.inr ⟨c.r,by simp[LA.roots],c.j,ho b hb⟩⟩
  ·exact hl.elim
 |_=>exact hl.elim
theorem Ew(h:AU E s tm W):∀ {ls:List L} {as:List LA} {g:Nat->Option Value} {k:List Lv->Step β},(∀(j:Nat)(b:LA),as[j]?=some b->∃u,g j=some u/\AQ s W b u)->(s.data ls as k).leads t->
  ∃vs:List Lv,(k vs).leads t/\vs.length=as.length/\vs.map (·.l)=ls/\∀(j:Nat)(lv:Lv),vs[j]?=some lv->∃u,g j=some u/\lv.l.rd 0 W.w (Seen W (as.flatMap LA.roots)) u lv.x []
 | [],[],g,k,hg,hl=>⟨[],hl,rfl,rfl,λj lv hj=>ADu⟩
 | [],_::_,g,k,hg,hl=>hl.elim
 |_::_,[],g,k,hg,hl=>hl.elim
 |l::ls,b::as,g,k,hg,hl=>by
  obtain⟨u,hu,hb⟩:=hg 0 b rfl;obtain⟨x,hl,hx⟩:=Bk h hb hl;obtain⟨vs,hl,hn,hm,hvs⟩:=Ew h (g:=λj=>g (j+1)) (λj b hj=>hg (j+1) b No) hl;refine⟨⟨l,x⟩::vs,hl,by simp[hn],by simp[hm],λj lv hj=>?_⟩;cases j with
  |zero=>
   simp at hj;subst hj;exact⟨u,hu,L.AI l hx (λ_ _=>rfl) λb hb=>Seen.mono (λr hr=>by simp[hr]) hb⟩
  |succ j=>
   obtain⟨u',zG,hr⟩:=hvs j lv ADx;refine⟨u',zG,L.AI lv.l hr (λ_ _=>rfl) λb hb=>Seen.mono (λr hr=>?_) hb⟩;grind
theorem Cz(r:Nat):∀(as:List LA)(j i:Nat),(BC r j as)[i]?=(as[i]?).map (seen r (j+i))
 | [],j,i=>by simp[BC]
 |b::as,j,0=>by simp[BC]
 |b::as,j,i+1=>by simp only[BC,AA1];rw[Cz r as (j+1) i,show j+1+i=j+(i+1) by omega]
theorem FG(r:Nat):∀(as:List LA)(j i:Nat),(BJ r j as)[i]?=(as[i]?).map (IU r (j+i))
 | [],j,i=>by simp[BJ]
 |b::as,j,0=>by simp[BJ]
 |b::as,j,i+1=>by simp only[BJ,AA1];rw[FG r as (j+1) i,show j+1+i=j+(i+1) by omega]
theorem FH(r:Nat):∀(as:List LA)(j:Nat),(BJ r j as).length=as.length
 | [],j=>rfl
 |b::as,j=>by simp[BJ,FH r as (j+1)]
theorem LK(h:AU E s tm W){r j:Nat}{b:LA}{v:Value}(hb:s.leaf r j=b)(hc:W.cv r j=some v):AQ s W (seen r j b) v:=by
 have hr:=(h.roots r).1 j;unfold St.leaf at hb;rw[hb,hc]at hr;cases b with
 |arr AA gen t' e xs d=>
  intro gen' t2 e2 xs2 d2 hl _;have:s.leaf r j=.arr AA gen t' e xs d:=hb;rw[this]at hl;injection hl with h1 h2 h3 h4
  subst h4;exact⟨v,e,hc,rfl,rfl⟩
 |_=>exact hr.2 v rfl
theorem M0(h:AU E s tm W){r j:Nat}{b:LA}{v:Value}(hb:s.leaf r j=b)(hc:W.cv r j=some v):AQ s W (IU r j b) v:=by
 have hs:=LK h hb hc;cases b with
 |arr AA gen t' e xs d=>
  cases d with
  |succ d=>exact hs
  |zero=>
   obtain⟨u,hu,zE⟩:=(h.roots r).row hb;have:u=v:=Option.some.inj (hu.symm.trans hc);subst this;show AD e 0 W.w W.fz u xs [];have hz:=AD.zero zE;grind
 |_=>exact hs
theorem Eb(c:Loc)(i d:Nat):∀(vs:List Lv)(off j:Nat),(Bq c i d off vs)[j]?=(vs[j]?).map λv=>if Bx v.l&&decide (0<d)then LA.ref { c with p:=c.p++[(i,off+j)] }else .sc v.l v.x
 | [],off,j=>by simp[Bq]
 |v::vs,off,0=>by simp[Bq]
 |v::vs,off,j+1=>by simp only[Bq,AA1];rw[Eb c i d vs (off+1) j,show off+1+j=off+(j+1) by omega]
theorem KJ{w:World}:∀(q:List (Nat×Nat)) {e:Ls} {h:Value} {e':Ls} {a:Addr} {n k:Nat} {i off:Nat} {t':TypeId} {f:Ls} {u:Value},
  Jl w q e h e' (.slice (some a) n k)->a.spot=none->i<n->e'.kinds[off]?=some (.sl t' f)->w.cell? (at_ a (i*e'.n+off))=some u->Jl w (q++[(i,off)]) e h f u
 | [],e,h,e',a,n,k,i,off,t',f,u,hn,hs,hi,hk,hc=>by obtain⟨rfl,rfl⟩:=hn;exact⟨a,n,k,t',f,u,rfl,hs,hi,hk,hc,rfl,rfl⟩
 |(i0,j0)::q,e,h,e',a,n,k,i,off,t',f,u,hn,hs,hi,hk,hc=>by obtain⟨a0,len,c0,t0,f0,h0,e0,s0,i1,k1,c1,hn⟩:=hn;exact⟨a0,len,c0,t0,f0,h0,e0,s0,i1,k1,c1,KJ q hn hs hi hk hc⟩
theorem EG:∀(ls:Ls)(x:ls.D),(unpack ls x).map (·.l)=ls.kinds
 | .nil,_=>rfl
 | .one _,_=>rfl
 | .cons l ls,x=>by simp[unpack,Ls.kinds,EG ls x.2]
theorem F0(h:AU E s tm W){la:LA}{v:Value}(hv:AQ s W la v){n:Nat}{k:List LA->Step β}(hl:(s.DG la n k).leads t):
  ∃as:List LA,(k as).leads t/\as.length<=n/\∃(b off:Nat),v=.pointer (some ⟨b,off,none⟩)/\∀(j:Nat)(x:LA),as[j]?=some x->∃u,W.w.cell? ⟨b,off+j,none⟩=some u/\AQ s W x u:=by
 unfold St.DG at hl;cases la with
 |ptr r j AA=>
  simp only at hl;split at hl
  ·rename_i zB;simp only[AAJ,AAT,AAf]at zB;obtain⟨⟨hb,zC⟩,hlen⟩:=zB;refine⟨_,hl,by rw[FH];simp;omega,W.bk r,j,hv hb zC,λi x hx=>?_⟩;rw[FG]at hx;obtain⟨_,ze⟩:=h.roots r;rw[AAP hb]at ze;obtain⟨_,arr,T,fr,hh,_,zO,zW⟩:=ze;cases hy:((s.root r).ls.drop j |>.take n)[i]? with
   |none=>grind
   |some y=>
    rw[hy]at hx;injection hx with hx;subst hx
    have hi:i<n/\(s.root r).ls[j+i]?=some y:=by
     rw[List.getElem?_take]at hy;split at hy
     ·grind
     ·cases hy
    have zA:j+i<(s.root r).ls.length:=(AAK.1 hi.2).1;have yr:s.leaf r (j+i)=y:=by unfold St.leaf;rw[Ae,hi.2];rfl
    have zP:W.cv r (j+i)=some (arr[j+i]'(by omega)):=by rw[zW];exact AAh _
    refine⟨arr[j+i]'(by omega),?_,M0 h yr zP⟩;rw[<-zP,zW];simp[World.cell?,hh]
  ·exact hl.elim
 |EC e x off=>
  obtain⟨a,g,arr,T,fr,hv,hz,hh,hg,zE⟩:=hv;refine⟨_,hl,ADg,a.block,a.off+off,hv,λi y hy=>?_⟩;simp only[AAb]at hy;cases hq:(((unpack e x).drop off).take n)[i]? with
  |none=>grind
  |some lv=>
   rw[hq]at hy;injection hy with hy;subst hy
   have hi:(unpack e x)[off+i]?=some lv:=by
    rw[List.getElem?_take]at hq;split at hq
    ·rw[List.getElem?_drop]at hq;exact hq
    ·cases hq
   obtain⟨u,o',hu,hr,ho⟩:=GV e zE _ lv hi;have:o'=[]:=L.Bn lv.l hr;subst this;refine⟨u,?_,hr⟩;rw[hg]at hu;simp only[World.cell?,hh];grind
 |Bm c=>
  simp only at hl;split at hl
  ·exact hl.elim
  ·rename_i q i off hq;obtain⟨t0,e0,xs0,d0,gen,yr,hp,hk⟩:=Cd h hl;dsimp only at yr hp hk
   have hpl:c.p.length<=1\/gen=c.gen:=by
    rcases hp with hp|hp
    ·left;rw[Cn hq,hp];simp
    ·exact .inr hp
   obtain⟨q',i',off',u,e',a,n',k',hq',hu,hn,hs,hi,rfl⟩:=hv gen t0 e0 xs0 d0 yr hpl;rw[hq]at hq';injection hq' with hq'
   injection hq' with q1 q2
   injection q2 with q2 q3
   subst q1;subst q2;subst q3;obtain⟨t',ys,d',o',hl,hr,ho⟩:=hk u e' _ hu hn;obtain⟨x,hx,hl⟩:=hl;obtain⟨A,c',hv,hle,hr⟩:=hr;injection hv with hA hlen hcap
   subst hA;have hi':i<ys.length:=hlen▸hi;rcases hr with hr|⟨g,os,yz,zN,hos⟩
   ·omega
   rw[AAI hi']at hx;injection hx with hx;subst hx
   refine⟨_,hl,?_,a.block,a.off+(i*e'.n+off),rfl,λj y hy=>?_⟩
   ·have:∀(vs:List Lv)(off:Nat),(Bq { c with p:=q,gen:=s.KA c.r c.j } i (dec d') off vs).length=vs.length:=by
     intro vs;induction vs with
     |nil=>intro _;rfl
     |cons v vs ih=>intro off;simp[Bq,ih]
    grind
   ·rw[Eb]at hy;cases hz:(((unpack e' ys[i]).drop off).take n)[j]? with
    |none=>grind
    |some lv=>
     rw[hz]at hy;injection hy with hy
     have hj:(unpack e' ys[i])[off+j]?=some lv:=by
      rw[List.getElem?_take]at hz;split at hz
      ·grind
      ·cases hz
     obtain⟨w1,o1,hw1,hr1,ho1⟩:=GV e' (zN i hi') _ lv hj;have zP:W.w.cell? (at_ a (i*e'.n+(off+j)))=some w1:=by rw[yz.cell];exact hw1
     refine⟨w1,by rw[show a.off+(i*e'.n+off)+j=a.off+(i*e'.n+(off+j)) by omega];exact zP,?_⟩;subst hy;dsimp only;split
     ·rename_i hsl;simp only[AAJ,AAf]at hsl;obtain⟨ll,lx⟩:=lv;cases ll with
      |sl t2 f=>
       intro gen2 t3 e3 xs3 d3 hl3 hp3;dsimp only at hl3 hp3;rw[yr]at hl3;injection hl3 with z1 z2 z3 z4
       subst z4;refine⟨u,f,hu,?_⟩
       have hkd:e'.kinds[off+j]?=some (.sl t2 f):=by rw[<-EG e' ys[i],AAb,hj];rfl
       exact KJ q hn hs hi hkd zP
      |_=>simp[Bx]at hsl
     ·rename_i hsl
      have hzero:lv.l.rd 0 W.w W.fz w1 lv.x []:=by
       obtain⟨ll,lx⟩:=lv;cases ll with
       |sl t2 f=>
        have hd:dec d'=0:=by simp[Bx]at hsl;exact hsl
        rw[hd]at hr1;have:o1=[]:=L.Bn _ hr1;grind
       |int k=>exact⟨hr1.1,rfl⟩
       |bool=>exact⟨hr1.1,rfl⟩
       |str=>exact⟨hr1.1,rfl⟩
      exact hzero
 |_=>exact hl.elim
end
end Go.Ev
namespace Go.Ev
def Ow(dst:Option Nat)(x:AV):List Wr:=match dst with
 |some d=>[.slot d x]
 |none=>[]
theorem AM{dst:Option Nat}{x:AV}{ws:List Wr}(h:(match dst with|some d=>Step.go [Wr.slot d x]|none=>Step.go []).leads ws):ws=Ow dst x:=by
 cases dst<;>exact h.symm
section
variable {P:Program}{E:Cy}{s:St}{W:Wd}{o:Oper}{a:Act}{ws:List Wr}{cx:Cx}{v:Nat}{β:Type}
theorem AR(h:AU E s a.tmps W){u:Value}{x:AV}(zF:(execOp a.eval o).run P W.w=.ok (.value u) W.w)(hx:BW s W x u):Bc P E o a W.w (s.app (Ow o.dst x)):=Kk h zF hx
theorem Le{l:L}{la lb:LA}{u w:Value}{q:Bool}(ha:AQ s W la u)(hb:AQ s W lb w)(h:OW l la lb=some q){t:TypeId}(ht:JI P t l)(d:Nat)(w0:World):(Op.equalIn (d+1) t u w).run P w0=.ok q w0:=by
 unfold OW at h;cases l with
 |int k=>
  simp only at h;split at h
  ·rename_i i x j y;split at h
   ·rename_i hc;simp only[AAJ]at hc;obtain rfl:=IntKind.Hj hc.1;obtain rfl:=IntKind.Hj hc.2;injection h with h
    rw[show u=.int j x from ha.1,show w=.int j y from hb.1,run_equalIn_int w0 d t j j x y ht];subst h;rfl
   ·cases h
  ·cases h
 |bool=>
  simp only at h;split at h
  ·rename_i x y;injection h with h
   rw[show u=.bool x from ha.1,show w=.bool y from hb.1,run_equalIn_bool' w0 d t x y ht];subst h;rfl
  ·cases h
 |str=>
  simp only at h;split at h
  ·rename_i x y;injection h with h
   rw[show u=.string ⟨(show ADi from x).toArray⟩from ha.1,show w=.string ⟨(show ADi from y).toArray⟩from hb.1,run_equalIn_string w0 d t _ _ ht];have tl:∀l:ADi,(⟨l.toArray⟩:ByteArray).toList=l:=λl=>OF
   subst h;rw[tl,tl]
  ·cases h
 |sl t' e=>cases h
theorem I9{t:TypeId}{l:L}(h:JI P t l)(cs:Array Value)(n:Nat)(x:Value)(hx:cs[n]?=some x)(w:World):(part t cs n).run P w=.ok x w:=by
 unfold part;rw[Sem.run_bind]
 have hagg:(isAgg t).run P w=.ok false w:=by
  unfold isAgg;rw[Sem.run_bind];cases l with
  |int k=>rw[run_underlying (show P.underlying t=some (.int k)from h)];rfl
  |bool=>rw[run_underlying (show P.underlying t=some .bool from h)];rfl
  |str=>rw[run_underlying (show P.underlying t=some .string from h)];rfl
  |sl t' e=>exact h.elim
 rw[hagg];simp[hx]
theorem Gk{d:Nat}{xs ys:Array Value}{w0:World}:∀(fs:List Field)(ls:List L)(as bs:List LA)(n:Nat)(q:Bool),G5 P n fs ls->Fk ls as bs=some q->
  (∀(j:Nat)(b:LA),as[j]?=some b->∃u,xs[n+j]?=some u/\AQ s W b u)->(∀(j:Nat)(b:LA),bs[j]?=some b->∃u,ys[n+j]?=some u/\AQ s W b u)->
  (Op.eqFields (d+1) xs ys fs).run P w0=.ok q w0
 | [],[],[],[],n,q,hf,hq,h1,h2=>by simp only[Fk,Option.some.injEq]at hq;subst hq;rfl
 |f::fs,l::ls,a::as,b::bs,n,q,hf,hq,h1,h2=>by
  obtain⟨f1,f2,f3,f4⟩:=hf;simp only[Fk]at hq;split at hq
  ·rename_i p r hp hr;injection hq with hq;subst hq
   obtain⟨u,hu,hua⟩:=h1 0 a rfl;obtain⟨v,hv,hvb⟩:=h2 0 b rfl;have ih:=Gk (d:=d) (xs:=xs) (ys:=ys) (w0:=w0) fs ls as bs (n+1) r f4 hr (λj b hj=>by rw[show n+1+j=n+(j+1) by omega];exact h1 (j+1) b No) (λj b hj=>by rw[show n+1+j=n+(j+1) by omega];exact h2 (j+1) b No);simp only[Op.eqFields];rw[AAP f1,f2,Sem.run_bind,I9 f3 xs n u J];simp only[Result.andThen_ok];rw[Sem.run_bind,I9 f3 ys n v J];simp only[Result.andThen_ok];rw[Sem.run_bind,Le hua hvb hp f3 d w0];simp only[Result.andThen_ok];cases p with
   |true=>grind
   |false=>simp
  ·cases hq
 | [],[],[],_::_,n,q,hf,hq,h1,h2=>by simp[Fk]at hq
 | [],[],_::_,_,n,q,hf,hq,h1,h2=>by simp[Fk]at hq
 |f::fs,l::ls,[],_,n,q,hf,hq,h1,h2=>by simp[Fk]at hq
 |f::fs,l::ls,_::_,[],n,q,hf,hq,h1,h2=>by simp[Fk]at hq
 | [],_::_,as,bs,n,q,hf,hq,h1,h2=>hf.elim
 |_::_,[],as,bs,n,q,hf,hq,h1,h2=>hf.elim
theorem MJ(hc:Dt P cx){op:BinOp}{tx:TypeId}{x y:Operand}{as bs:List LA}{u w:Value}(hu:E8 s W true as u)(hw:E8 s W true bs w){k:AV->Step β}{t:β}(hl:(MI cx op tx as bs k).leads t)(w0:World):
  ∃z r,(k z).leads t/\BW s W z r/\(do eqGuard op tx x y u w;binOp op tx u w:Sem Value).run P w0=.ok r w0:=by
 unfold MI at hl;split at hl
 ·rename_i ty hty;split at hl
  ·rename_i heq;split at hl
   ·rename_i q hq;obtain⟨cs,rfl,_,h1⟩:=hu;obtain⟨ds,rfl,_,h2⟩:=hw;obtain⟨e1,e2,fs,e3,e4⟩:=(hc tx ty hty).eqs heq;have hfs:P.fieldsOf tx=fs:=by unfold Program.fieldsOf;rw[e3]
    have zF:(Op.equalIn 10000 tx (.agg cs) (.agg ds)).run P w0=.ok q w0:=by
     rw[run_equalIn_struct w0 9999 tx cs ds No e1,hfs];exact Gk (d:=9998) _ _ _ _ 0 q e4 hq (λj b hj=>by rw[AAY];exact h1 j b hj) (λj b hj=>by grind)
    split at hl
    ·refine⟨_,_,hl,Cv _,?_⟩;rw[Sem.run_bind,run_eqGuard_agg w0 _ tx x y cs ds e2];simp only[Result.andThen_ok];rw[run_eql_struct,zF];rfl
    ·refine⟨_,_,hl,Cv _,?_⟩;rw[Sem.run_bind,run_eqGuard_agg w0 _ tx x y cs ds e2];simp only[Result.andThen_ok];rw[run_neq_struct,zF];rfl
    ·exact hl.elim
   ·exact hl.elim
  ·exact hl.elim
 ·exact hl.elim
theorem Mk(hc:Dt P cx)(h:AU E s a.tmps W){op:BinOp}{tx ty:TypeId}{x y:Operand}(ho:o.op=.binOp op tx x y ty)(hl:(AB cx v o s).leads ws):Bc P E o a W.w (s.app ws):=by
 simp only[AB,ho]at hl
 have key:∃z r,(match o.dst with|some d=>Step.go [Wr.slot d z]|none=>Step.go []).leads ws/\BW s W z r/\(do eqGuard op tx x y (a.eval x) (a.eval y);binOp op tx (a.eval x) (a.eval y):Sem Value).run P W.w=.ok r W.w:=by
  split at hl
  ·rename_i as bs h1 h2;exact MJ hc (by have:=BN h x;rw[h1]at this;exact this) (by have:=BN h y;rw[h2]at this;exact this) hl W.w
  ·exact MP (x:=x) hc h hl
 obtain⟨z,r,hl,hz,hr⟩:=key;rw[AM hl];refine AR h ?_ hz;simp only[execOp,ho];rw[Sem.run_bind,hr];rfl
theorem Nj(h:AU E s a.tmps W){op:UnOp}{tx:TypeId}{x:Operand}(ho:o.op=.unOp op tx x)(hl:(AB cx v o s).leads ws):Bc P E o a W.w (s.app ws):=by
 simp only[AB,ho]at hl;have h1:=Ac h x
 revert hl h1
 generalize s.Ai x=p;intro hl h1;split at hl
 ·rw[AM hl];rename_i b;refine AR h (u:=.bool (!b)) ?_ (Cv _);simp[execOp,ho,show a.eval x=.bool b from h1.1,Op.unary]
 ·rename_i k n;rw[AM hl];refine AR h (u:=.int k (k.wrap (OM n))) ?_ (Bi _ _);simp[execOp,ho,show a.eval x=.int k n from h1.1,Op.unary,Op.intArith,OM]
 ·exact hl.elim
theorem Cm{t:TypeId}{ty:Ty}(hc:Dt P cx)(ht:cx.ty t=some ty){l:L}(hl:ty.ls=.one l)(hg:ty.agg=false):Gb P t l:=by obtain⟨l',h1,h2⟩:=(hc t ty ht).lone hg;grind
theorem Ni(h:AU E s a.tmps W){x y z:Operand}(ho:o.op=.pick x y z)(hl:(AB cx v o s).leads ws):Bc P E o a W.w (s.app ws):=by
 simp only[AB,ho]at hl;have h1:=Ac h x
 revert hl h1
 generalize s.Ai x=p;intro hl h1;split at hl
 ·rename_i t;rcases Ag hl with⟨ht,hl⟩|⟨ht,hl⟩
  ·rw[AM hl];refine AR h (u:=a.eval y) ?_ (BN h y);simp[execOp,ho,show a.eval x=.bool t from h1.1,asBool,show t=true from ht]
  ·rw[AM hl];refine AR h (u:=a.eval z) ?_ (BN h z);simp[execOp,ho,show a.eval x=.bool t from h1.1,asBool,show t=false from ht]
 ·exact hl.elim
theorem HR{la:LA}{u:Value}(hv:AQ s W la u)(ha:s.alive la=true):∃ad,u=.pointer (some ad):=by
 unfold St.alive at ha;cases la with
 |ptr r j AA=>
  simp only[AAJ,AAT]at ha;exact⟨_,hv ha.1 ha.2⟩
 |Bm c=>
  simp only at ha;split at ha
  ·rename_i AA gen t e xs d hl;simp only[AAJ,AAT,AAe,AAf]at ha;obtain⟨rfl,hg⟩:=ha;obtain⟨q,i,off,h',e',ad,n,k,_,_,_,_,_,hu⟩:=hv gen t e xs d hl hg;grind
  ·cases ha
 |EC e x off=>obtain⟨ad,g,arr,T,fr,hu,_⟩:=hv;grind
 |_=>cases ha
theorem Kh{a:AV}{v:Value}(h:BW s W a v):AQ s W a.one? v:=by
 cases a with
 |Dr vs=>trivial
 |bx as=>trivial
 |v g as=>
  cases g with
  |true=>trivial
  |false=>cases as with
   |nil=>trivial
   |cons b bs=>cases bs with
    |nil=>exact h
    |cons=>trivial
theorem Ll{tm:Array Value}(h:AU E s tm W){la:AV}{v:Value}(hv:BW s W la v){n:Nat}{β:Type}{t:β}{k:List LA->Step β}(hl:(s.FX la n k).leads t):
  ∃as:List LA,(k as).leads t/\as.length<=n/\∃(b off:Nat),v=.pointer (some ⟨b,off,none⟩)/\∀(j:Nat)(x:LA),as[j]?=some x->∃u,W.w.cell? ⟨b,off+j,none⟩=some u/\AQ s W x u:=by
 cases la with
 |v g as=>exact F0 h (Kh hv) hl
 |Dr vs=>exact F0 h (Kh hv) hl
 |bx as=>
  simp only[St.FX]at hl;split at hl
  ·rename_i hlen;obtain⟨b,off,arr,T,fr,hp,hz,hh,zt,zM⟩:=hv;refine⟨_,hl,No,b,off,hp,λj x hx=>?_⟩
   have hx':as[j]?=some x:=by
    rw[List.getElem?_take]at hx;split at hx
    ·exact hx
    ·cases hx
   obtain⟨u,hu,zh⟩:=zM j x hx';exact⟨u,by simp[World.cell?,hh,hu],zh⟩
  ·exact hl.elim
theorem KN(h:AU E s a.tmps W){x:Operand}(ho:o.op=.nilCheck x)(hl:(AB cx v o s).leads ws):Bc P E o a W.w (s.app ws):=by
 simp only[AB,ho]at hl;have h1:=BN h x
 have zi:∀p:AV,BW s W p (a.eval x)->(if s.alive p.one? then(match o.dst with|some d=>(.go [.slot d (one p.one?)]:Step (List Wr))|none=>.go [])else .none).leads ws->Bc P E o a W.w (s.app ws):=by
  intro p h1 hl;have h1:=Kh h1;split at hl
  ·rename_i hal;obtain⟨ad,hp⟩:=HR h1 hal;rw[AM hl];exact AR h (u:=a.eval x) (by simp[execOp,ho,hp]) h1
  ·exact hl.elim
 generalize s.Ao x=p at hl h1;cases p with
 |bx as=>
  have h2:=h1;obtain⟨b,off,arr,T,fr,hp,_⟩:=h1;rw[AM hl];exact AR h (u:=a.eval x) (by simp[execOp,ho,hp]) h2
 |v g as=>grind
 |Dr vs=>grind
theorem EW{la:LA}{u:Value}(hv:AQ s W la u){β:Type}{k:Int->Step β}{t:β}(hl:(asInt la k).leads t):∃j n,u=.int j n/\(k n).leads t:=by
 unfold asInt at hl;cases la with
 |sc l x=>cases l with
  |int j=>exact⟨j,x,hv.1,hl⟩
  |_=>exact hl.elim
 |_=>exact hl.elim
theorem NY{la:LA}{u:Value}(hv:AQ s W la u){β:Type}{k:Int->Step β}{t:β}(hl:(OJ la k).leads t):∃(n:Int) (b:ByteArray),(k n).leads t/\u=.string b/\n=b.size:=by
 unfold OJ at hl;cases la with
 |sc l x=>cases l with
  |str=>exact⟨_,_,hl,hv.1,rfl⟩
  |_=>exact hl.elim
 |_=>exact hl.elim
theorem MX(h:AU E s a.tmps W){la:LA}{u:Value}(hv:AQ s W la u){β:Type}{k:Int->Step β}{t:β}(hl:(lenOf s la k).leads t):
  ∃n:Int,(k n).leads t/\∃A len c,u=.slice A len c/\n=(len:Int):=by
 unfold lenOf at hl;cases la with
 |sc l x=>cases l with
  |sl t e=>
   obtain⟨A,c,hu,_⟩:=AD.len (show AD e 0 W.w W.fz u x []from hv);grind
  |_=>exact hl.elim
 |DN=>exact⟨_,hl,none,0,0,hv,rfl⟩
 |ref c=>
  obtain⟨t',e',ys,d',o',hl,hr,ho⟩:=DR h hv hl;obtain⟨A,c,hu,_⟩:=hr.len;grind
 |EI c lo hi=>
  obtain⟨t',e',ys,d',o',hl,hr,ho⟩:=EZ h hv hl;obtain⟨A,c,hu,_⟩:=hr.len;grind
 |_=>exact hl.elim
theorem Ng(hc:Dt P cx)(h:AU E s a.tmps W){t:TypeId}{x:Operand}(ho:o.op=.load t x)(hl:(AB cx v o s).leads ws):Bc P E o a W.w (s.app ws):=by
 simp only[AB,ho]at hl;split at hl
 ·rename_i ty ht;have hty:=hc t ty ht;obtain⟨as,hl,_,b,off,hx,zM⟩:=Ll h (BN h x) hl;split at hl
  ·rename_i hlen;have hlen:as.length=ty.ls.n:=ADw
   rw[AM hl];cases hag:ty.agg with
   |false=>
    obtain⟨l,hls,hlo⟩:=hty.lone hag;rw[hls]at hlen
    obtain⟨y,rfl⟩:∃y,as=[y]:=by
     match as,hlen with
     | [y],_=>grind
    obtain⟨u,hu,hy⟩:=zM 0 y rfl;obtain⟨d,hd,hnd⟩:=hlo.JZ;refine AR h (u:=u) ?_ (show BW s W (.v false [y]) u from hy)
    have hagg:(isAgg t).run P W.w=.ok false W.w:=by
     unfold isAgg;rw[Sem.run_bind,run_underlying hd];cases d<;>simp_all
    simp only[AAx]at hu;simp[execOp,ho,Instr.loadAt,hx,Instr.sureAddr,loadVar,hagg,load,Sem.run,hu]
   |true=>
    obtain⟨fs,hfs,_⟩:=hty.agg hag;obtain⟨i,hi,zO,_⟩:=hty.info
    let f:Nat->Value:=λj=>(W.w.cell? ⟨b,off+j,none⟩).getD Go.undef
    let cs:ADh:=(List.range as.length).map f
    have hcs:∀j u,cs[j]?=some u->W.w.cell? ⟨b,off+j,none⟩=some u:=by
     intro j u hj;simp only[cs,AAb]at hj;by_cases zA:j<as.length
     ·rw[List.getElem?_range zA]at hj;simp at hj;obtain⟨u',zG,_⟩:=zM j as[j] (AAI zA);grind
     ·grind
    have zF:=run_loadVar_mid (P:=P) W.w b off t cs (.struct fs) (λj u hj=>hcs j u hj) hfs rfl No;refine AR h (u:=.agg cs.toArray) ?_ ?_
    ·simp[execOp,ho,Instr.loadAt,hx,Instr.sureAddr,zF]
    ·refine⟨cs.toArray,rfl,by simp[cs],λj y hy=>?_⟩;grind
  ·exact hl.elim
 ·exact hl.elim
theorem OP(hc:Dt P cx)(h:AU E s a.tmps W){c:Call}(ho:o.op=.call c)(hb:c.callee=.builtin .len)(hl:(AB cx v o s).leads ws):Bc P E o a W.w (s.app ws):=by
 simp only[AB,ho,hb]at hl;split at hl
 ·rename_i x t hx ht;split at hl
  ·rename_i ty hty;split at hl
   ·exact hl.elim
   ·rename_i hag;have zY:c.args = #[x]:=No
    have hats:c.argTypes = #[t]:=No
    obtain⟨cal,args,ats⟩:=c;dsimp only at hb zY hats;subst hb;subst zY;subst hats;split at hl
    ·rename_i hls;obtain⟨n,b,hl,hu,rfl⟩:=NY (Ac h x) hl;rw[AM hl];refine AR h (u:=.int .i64 b.size) ?_ (Bi _ _);have za:P.underlying t=some .string:=Cm hc hty hls No;simp[execOp,ho,resolve,invoke,builtin,Builtin.len_,hu,run_underlying za,goInt]
    ·rename_i t' e hls;obtain⟨n,hl,A,len,k,hu,rfl⟩:=MX h (Ac h x) hl;rw[AM hl];refine AR h (u:=.int .i64 len) ?_ (Bi _ _);have za:=(Cm hc hty hls No).1;simp[execOp,ho,resolve,invoke,builtin,Builtin.len_,hu,run_underlying za,goInt]
    ·exact hl.elim
  ·exact hl.elim
 ·exact hl.elim
end
end Go.Ev
namespace Go.Ev
theorem F4{α:Type}:∀(l:List α)(i:Nat),IB l i=l[i]?
 | [],i=>by simp[IB]
 |x::xs,0=>by simp[IB]
 |x::xs,i+1=>by simp[IB,F4 xs i]
section
variable {P:Program}{E:Cy}{s:St}{W:Wd}{o:Oper}{a:Act}{ws:List Wr}{cx:Cx}{v:Nat}
theorem B2(b off n:Nat):(⟨b,off,none⟩:Addr).add n=⟨b,off+n,none⟩:=by unfold Addr.add;grind
theorem Kg(ad:Addr)(k n:Nat):(at_ ad k).add n=at_ ad (k+n):=by unfold at_;rw[B2];grind
theorem J2(hc:Dt P cx){t:TypeId}{ty:Ty}(ht:cx.ty t=some ty){f fo:Nat}{ft:TypeId}(hf:(if ty.agg=true then IB ty.fs f else none)=some (fo,ft)):
  ty.agg=true/\∃(fs:Array Field) (fd:Field),P.underlying t=some (.struct fs)/\fs[f]?=some fd/\fd.offset=fo/\fd.type=ft:=by
 split at hf
 ·rename_i hag;obtain⟨fs,hu,hfs,_⟩:=(hc t ty ht).agg hag;rw[F4,<-hfs,AAb]at hf;grind
 ·cases hf
theorem LL(hc:Dt P cx){t:TypeId}{ty:Ty}(ht:cx.ty t=some ty)(w:World):(sizeOf t).run P w=.ok ty.ls.n w:=by obtain⟨i,hi,hs,_⟩:=(hc t ty ht).info;simp[sizeOf,typeInfo,hi,hs]
theorem CY:∀(q:List (Nat×Nat)) (i off:Nat),Aj (q++[(i,off)])=some (q,i,off)
 | [],i,off=>rfl
 | [x],i,off=>rfl
 |x::y::r,i,off=>by have:=CY (y::r) i off;simp only[ABH]at this ⊢;simp only[Aj];rw[this]
theorem Jb(hc:Dt P cx)(h:AU E s a.tmps W){t:TypeId}{x:Operand}{f:Nat}(ho:o.op=.fieldAddr t x f)(hl:(AB cx v o s).leads ws):
  Bc P E o a W.w (s.app ws):=by
 simp only[AB,ho]at hl;split at hl
 ·rename_i ty ht;split at hl
  ·rename_i fo ft hf;obtain⟨hag,fs,fd,hu,hfd,rfl,rfl⟩:=J2 hc ht hf;split at hl
   ·rename_i tf htf;split at hl
    ·exact hl.elim
    ·rename_i zD;have zO:=LL hc htf W.w;simp only[AAT]at zD;have h0:=BN h x
     have run:∀ad:Addr,a.eval x=.pointer (some ad)->(execOp a.eval o).run P W.w=.ok (.value (.pointer (some (ad.add fd.offset)))) W.w:=by intro ad had;simp[execOp,ho,Instr.fieldAt,run_underlying hu,hfd,had,Instr.sureAddr,fieldPlace,zO,zD]
     have zi:∀h1:AQ s W (s.Ai x) (a.eval x),(∀as,s.Ao x≠.bx as)->s.alive (s.Ai x)=true->(match s.Ai x with
       | .ptr r j AA=>(match o.dst with|some d=>(.go [.slot d (one (.ptr r (j+fd.offset) AA))]:Step (List Wr))|none=>.go [])
       | .EC e y j=>(match o.dst with|some d=>(.go [.slot d (one (.EC e y (j+fd.offset)))]:Step (List Wr))|none=>.go [])
       | .Bm c=>match Aj c.p with
        |some (q,i,off)=>(match o.dst with|some d=>(.go [.slot d (one (.Bm { c with p:=q++[(i,off+fd.offset)] }))]:Step (List Wr))|none=>.go [])
        |none=>.none
       |_=>.none:Step (List Wr)).leads ws->Bc P E o a W.w (s.app ws):=by
      intro h1 hnb halive hl;obtain⟨ad,had⟩:=HR h1 halive;have run:=run ad had;clear hnb;generalize s.Ai x=p at hl h1 halive;split at hl
      ·rename_i r j AA;rw[AM hl];refine AR h run ?_;intro hb zC;have:=h1 hb zC;rw[had]at this;injection this with this;injection this with this
       subst this;rw[B2]
      ·rename_i e y j;rw[AM hl];refine AR h run ?_;obtain⟨ad',g,arr,T,fr,hv,rest⟩:=h1;rw[had]at hv;injection hv with hv;injection hv with hv
       subst hv;exact⟨ad',g,arr,T,fr,by rw[Kg],rest⟩
      ·rename_i c;split at hl
       ·rename_i q i off hq;rw[AM hl];refine AR h run ?_;intro gen t0 e0 xs0 d0 yr hp;dsimp only at yr hp
        obtain⟨q',i',off',h',e',ad',n,k,hq',zW,hn,hs,hi,hv⟩:=h1 gen t0 e0 xs0 d0 yr (by
         rcases hp with hp|hp
         ·left;rw[Cn hq];simpa using hp
         omega)
        rw[hq]at hq';injection hq' with hq';injection hq' with z1 z2;injection z2 with z2 z3
        subst z1;subst z2;subst z3;rw[had]at hv;injection hv with hv;injection hv with hv
        subst hv;exact⟨q,i,off+fd.offset,h',e',ad',n,k,CY _ _ _,zW,hn,hs,hi,by rw[Kg,Nat.add_assoc]⟩
       ·exact hl.elim
      ·exact hl.elim
     have hsel:∀p,s.Ao x=p->(∀as,p≠.bx as)->(if !s.alive p.one? then(.none:Step (List Wr))else match p.one? with
       | .ptr r j AA=>(match o.dst with|some d=>(.go [.slot d (one (.ptr r (j+fd.offset) AA))]:Step (List Wr))|none=>.go [])
       | .EC e y j=>(match o.dst with|some d=>(.go [.slot d (one (.EC e y (j+fd.offset)))]:Step (List Wr))|none=>.go [])
       | .Bm c=>match Aj c.p with
        |some (q,i,off)=>(match o.dst with|some d=>(.go [.slot d (one (.Bm { c with p:=q++[(i,off+fd.offset)] }))]:Step (List Wr))|none=>.go [])
        |none=>.none
       |_=>.none).leads ws->Bc P E o a W.w (s.app ws):=by
      intro p hp hnb hl;have h1:AQ s W (s.Ai x) (a.eval x):=Ac h x;split at hl
      ·exact hl.elim
      ·rename_i hal;refine zi h1 (hp▸hnb) (by rw[St.Ai,hp];grind) ?_;rw[St.Ai,hp];exact hl
     generalize hq:s.Ao x=p at hl h0;cases p with
     |bx as=>
      obtain⟨b,off,arr,T,fr,hv,hz,hh,zt,zM⟩:=h0;have run:=run _ hv;rw[AM hl];refine AR h run ?_;refine⟨b,off+fd.offset,arr,T,fr,by rw[B2],hz,hh,zt,λj y hy=>?_⟩;grind
     |v g as=>exact hsel _ hq OF hl
     |Dr vs=>exact hsel _ hq OF hl
   ·exact hl.elim
  ·exact hl.elim
 ·exact hl.elim
theorem Mm(hc:Dt P cx)(h:AU E s a.tmps W){t:TypeId}{x:Operand}{f:Nat}(ho:o.op=.field t x f)(hl:(AB cx v o s).leads ws):Bc P E o a W.w (s.app ws):=by
 simp only[AB,ho]at hl;have h1:=BN h x
 revert hl h1
 generalize s.Ao x=p;intro hl h1;split at hl
 ·rename_i ty as ht;split at hl
  ·rename_i fo ft hf;obtain⟨hag,fs,fd,hu,hfd,rfl,rfl⟩:=J2 hc ht hf;split at hl
   ·rename_i tf htf;split at hl
    ·rename_i hle;have hle:fd.offset+tf.ls.n<=as.length:=AAs hle;rw[AM hl];obtain⟨cs,hcs,zO,zM⟩:=h1
     have hpart:∃u,(part fd.type cs fd.offset).run P W.w=.ok u W.w/\BW s W (.v tf.agg ((as.drop fd.offset).take tf.ls.n)) u:=by
      have htf':=hc _ _ htf;cases hag':tf.agg with
      |false=>
       obtain⟨l,hls,hlo⟩:=htf'.lone hag';obtain⟨d,hd,hnd⟩:=hlo.JZ
       have hagg:(isAgg fd.type).run P W.w=.ok false W.w:=by
        unfold isAgg;rw[Sem.run_bind,run_underlying hd];cases d<;>simp_all
       have hn:tf.ls.n=1:=by rw[hls];rfl
       rw[hn]at hle ⊢;have zA:fd.offset<as.length:=J
       obtain⟨u,hu,zh⟩:=zM fd.offset as[fd.offset] (AAI zA);refine⟨u,by simp[part,hagg,hu],?_⟩
       have:(as.drop fd.offset).take 1=[as[fd.offset]]:=by rw[List.drop_eq_getElem_cons zA];rfl
       rw[this];exact zh
      |true=>
       obtain⟨fs',hfs',_⟩:=htf'.agg hag'
       have hagg:(isAgg fd.type).run P W.w=.ok true W.w:=by unfold isAgg;rw[Sem.run_bind,run_underlying hfs'];rfl
       refine⟨.agg (cs.extract fd.offset (fd.offset+tf.ls.n)),by simp[part,hagg,LL hc htf],_,rfl,ADg,λj y hy=>?_⟩;grind
     obtain⟨u,zF,zh⟩:=hpart;exact AR h (u:=u) (by simp[execOp,ho,Instr.field,run_underlying hu,hfd,hcs,asAgg,zF]) zh
    ·exact hl.elim
   ·exact hl.elim
  ·exact hl.elim
 ·exact hl.elim
theorem Kt(h:AU E s a.tmps W){x:Operand}{i:Nat}(ho:o.op=.extract x i)(hl:(AB cx v o s).leads ws):Bc P E o a W.w (s.app ws):=by
 simp only[AB,ho]at hl;have h1:=BN h x
 revert hl h1
 generalize s.Ao x=p;intro hl h1;split at hl
 ·rename_i vs;split at hl
  ·rename_i g as hn;rw[AM hl];rw[F4]at hn;obtain⟨us,hus,zO,zM⟩:=h1;obtain⟨u,hu,zh⟩:=zM i _ hn;exact AR h (u:=u) (by simp[execOp,ho,Instr.extract,hus,hu]) zh
  ·exact hl.elim
 ·exact hl.elim
theorem Nh(h:AU E s a.tmps W){x:Operand}(ho:o.op=.move x)(hn:H0 (s.Ao x)=false)(hl:(AB cx v o s).leads ws):Bc P E o a W.w (s.app ws):=by simp only[AB,ho,hn]at hl;rw[AM hl];exact AR h (u:=a.eval x) (by simp[execOp,ho]) (BN h x)
theorem OR(h:AU E s a.tmps W){c:Call}(ho:o.op=.call c)(hb:c.callee=.builtin .min)(hl:(AB cx v o s).leads ws):Bc P E o a W.w (s.app ws):=by
 simp only[AB,ho,hb]at hl;split at hl
 ·rename_i x y hx;have h1:=Ac h x;have h2:=Ac h y;generalize s.Ai x=p at hl h1;generalize s.Ai y=q at hl h2;split at hl
  ·rename_i k m j n;change Int at m n;rw[AM hl];have zY:c.args = #[x,y]:=No
   obtain⟨cal,args,ats⟩:=c;dsimp only at hb zY;subst hb;subst zY;have e1:a.eval x=.int k m:=h1.1;have e2:a.eval y=.int j n:=h2.1
   have hr:(Builtin.min_ ats o.type #[.int k m,.int j n]).run P W.w=.ok (.int k (Nc m n)) W.w:=by rw[run_min_int2];unfold Nc;grind
   refine AR h (u:=.int k (Nc m n)) ?_ (Bi _ _);simp[execOp,ho,resolve,invoke,builtin,e1,e2];rw[hr];rfl
  ·exact hl.elim
 ·exact hl.elim
theorem OQ(h:AU E s a.tmps W){c:Call}(ho:o.op=.call c)(hb:c.callee=.builtin .max)(hl:(AB cx v o s).leads ws):Bc P E o a W.w (s.app ws):=by
 simp only[AB,ho,hb]at hl;split at hl
 ·rename_i x y hx;have h1:=Ac h x;have h2:=Ac h y;generalize s.Ai x=p at hl h1;generalize s.Ai y=q at hl h2;split at hl
  ·rename_i k m j n;change Int at m n;rw[AM hl];have zY:c.args = #[x,y]:=No
   obtain⟨cal,args,ats⟩:=c;dsimp only at hb zY;subst hb;subst zY;have e1:a.eval x=.int k m:=h1.1;have e2:a.eval y=.int j n:=h2.1
   have hr:(Builtin.max_ ats o.type #[.int k m,.int j n]).run P W.w=.ok (.int k (Nb m n)) W.w:=by rw[run_max_int2];unfold Nb;grind
   refine AR h (u:=.int k (Nb m n)) ?_ (Bi _ _);simp[execOp,ho,resolve,invoke,builtin,e1,e2];rw[hr];rfl
  ·exact hl.elim
 ·exact hl.elim
end
end Go.Ev
namespace Go.Ev
section
variable {P:Program}{E:Cy}{s:St}{W:Wd}{o:Oper}{a:Act}{ws:List Wr}{cx:Cx}{v:Nat}
theorem Fy(hc:Dt P cx){t:TypeId}{e:Ls}(h:isRow cx t e=true):∃t',P.underlying t=some (.slice t')/\MB P t' e:=by
 unfold isRow at h;split at h
 ·rename_i ty ht;simp only[AAJ,AAU]at h;obtain⟨hg,h⟩:=h;split at h
  ·rename_i t' f hls;obtain rfl:=Ls.Dw h;exact⟨t',Cm hc ht hls hg⟩
  ·cases h
 ·cases h
theorem KZ(hc:Dt P cx){t:TypeId}(h:Il cx t .str=true):P.underlying t=some .string:=by
 unfold Il at h;split at h
 ·rename_i ty ht;simp only[AAJ,AAU]at h;obtain⟨l,hl,hf⟩:=(hc t ty ht).lone h.1;rw[hl]at h;have:=h.2;simp only[Ls.eq?]at this;obtain rfl:=L.Dw this;exact hf
 ·cases h
theorem MB.sizeOf{t:TypeId}{e:Ls}(h:MB P t e)(w:World):(sizeOf t).run P w=.ok e.n w:=by obtain⟨i,hi,hs,_⟩:=h.info;simp[Go.sizeOf,typeInfo,hi,hs]
theorem Iz{α:Type}{xs:List α}{n:Int}{x:α}(h:JQ xs n=some x):0<=n/\∃hx:n.toNat<xs.length,xs[n.toNat]=x:=by unfold JQ at h;grind
theorem MS{α:Type}{xs:List α}{n:Int}(h:O3 xs n=true):0<=n/\n.toNat<xs.length:=by unfold O3 at h;grind
theorem Dp(hc:Dt P cx){ti:TypeId}{e:Ls}(hr:isRow cx ti e=true){j:IntKind}{n:Int}{ad:Addr}{len c:Nat}(h0:0<=n)(hn:n.toNat<len)(w:World):
  (Instr.indexAt ti (.slice (some ad) len c) (.int j n)).run P w=.ok (.pointer (some (ad.add (n.toNat*e.n)))) w:=by
 obtain⟨t',hu,he⟩:=Fy hc hr;have:0<=n/\n<(len:Int):=J
 simp[Instr.indexAt,asIntOf,run_underlying hu,this,he.sizeOf]
theorem ET{ad:Addr}(hs:ad.spot=none)(k:Nat):ad.add k=at_ ad k:=by obtain⟨b,off,sp⟩:=ad;dsimp only at hs;subst hs;exact B2 b off k
theorem Jc(hc:Dt P cx)(h:AU E s a.tmps W){ti:TypeId}{x i:Operand}(ho:o.op=.indexAddr ti x i)(hl:(AB cx v o s).leads ws):Bc P E o a W.w (s.app ws):=by
 simp only[AB,ho]at hl;obtain⟨j,n,hi,hl⟩:=EW (Ac h i) hl;have h1:=Ac h x;generalize s.Ai x=p at hl h1;split at hl
 ·rename_i t e xs;split at hl
  ·rename_i hr;obtain⟨y,hy,hl⟩:=hl;rw[AM hl];obtain⟨h0,hx,he⟩:=Iz hy;have h1:AD e 0 W.w W.fz (a.eval x) xs []:=h1;obtain⟨A,c,hv,hcap,h1⟩:=h1;cases A with
   |none=>omega
   |some ad=>
    rcases h1 with h1|⟨g,os,yz,zN,hfz,_,_⟩
    ·omega
    have zF:=Dp (P:=P) hc hr (j:=j) (ad:=ad) (c:=c) h0 hx W.w;refine AR h (u:=.pointer (some (ad.add (n.toNat*e.n)))) (by simp[execOp,ho,hi,hv,zF]) ?_;obtain⟨hs,arr,T,fr,hh,hnn,_,hg⟩:=yz;rw[ET hs];refine⟨at_ ad (n.toNat*e.n),λj=>g (n.toNat*e.n+j),arr,T,fr,by simp[at_],hfz,hh,λj=>?_,?_⟩
    ·show g _=_;rw[hg];simp[at_,Nat.add_assoc]
    ·have:=zN n.toNat hx;rw[he]at this;have ho:os n.toNat=[]:=Ls.Bn e this;rw[ho]at this;exact this
  ·exact hl.elim
 ·rename_i c;have h1':=h1;obtain⟨t0,e0,xs0,d0,gen,yr,hp,hk⟩:=Cd h hl;obtain⟨u,e',hu,hn⟩:=h1 gen t0 e0 xs0 d0 yr hp;obtain⟨t',ys,d',o',hl,zE,_⟩:=hk u e' _ hu hn;split at hl
  ·rename_i hr;rcases Ag hl with⟨hb,hl⟩|⟨_,hl⟩
   ·rw[AM hl];obtain⟨h0,hx⟩:=MS hb;obtain⟨A,cc,hv,hcap,zE⟩:=zE;cases A with
    |none=>omega
    |some ad=>
     rcases zE with zE|⟨g,os,yz,zN,_⟩
     ·omega
     have zF:=Dp (P:=P) hc hr (j:=j) (ad:=ad) (c:=cc) h0 hx W.w;refine AR h (u:=.pointer (some (ad.add (n.toNat*e'.n)))) (by simp[execOp,ho,hi,hv,zF]) ?_;intro gen2 t2 e2 xs2 d2 zc hp2;dsimp only at zc hp2;rw[yr]at zc;injection zc with z1 z2 z3 z4
     subst z4;rw[hv]at hn;exact⟨c.p,n.toNat,0,u,e',ad,_,cc,CY _ _ _,hu,hn,yz.1,hx,by rw[ET yz.1];rfl⟩
   ·exact hl.elim
  ·exact hl.elim
 ·rename_i c lo hi';obtain⟨t0,e0,xs0,d0,gen,yr,hp,hk⟩:=Cd h hl;obtain⟨u,e',A0,n0,k0,hu,hn,hlo,hhi,hv⟩:=h1 gen t0 e0 xs0 d0 yr hp;obtain⟨t',ys,d',o',hl,zE,_⟩:=hk u e' _ hu hn;split at hl
  ·rename_i hr;rcases Ag hl with⟨hb,hl⟩|⟨_,hl⟩
   ·rw[AM hl];obtain⟨h0,hx⟩:=MS hb;obtain⟨A,cc,hv',hcap,zE⟩:=zE;injection hv' with z1 z2 z3
    subst z1;subst z2;subst z3;have hx':n.toNat<hi'-lo:=by simp[sub]at hx;omega
    cases A0 with
    |none=>omega
    |some ad=>
     rcases zE with zE|⟨g,os,yz,zN,_⟩
     ·omega
     have zD:k0≠lo:=J
     rw[AAQ zD]at hv;have zF:=Dp (P:=P) hc hr (j:=j) (ad:=ad.add (lo*e'.n)) (c:=k0-lo) h0 hx' W.w;refine AR h (u:=.pointer (some ((ad.add (lo*e'.n)).add (n.toNat*e'.n)))) (by simp[execOp,ho,hi,hv,zF]) ?_;intro gen2 t2 e2 xs2 d2 zc hp2;dsimp only at zc hp2;rw[yr]at zc;injection zc with q1 q2 q3 q4
     subst q4;exact⟨c.p,lo+n.toNat,0,u,e',ad,_,k0,CY _ _ _,hu,hn,yz.1,J,by rw[ET yz.1,Kg,AAm];rfl⟩
   ·exact hl.elim
  ·exact hl.elim
 ·exact hl.elim
theorem Mn(hc:Dt P cx)(h:AU E s a.tmps W){ti:TypeId}{x i:Operand}(ho:o.op=.index ti x i)(hl:(AB cx v o s).leads ws):Bc P E o a W.w (s.app ws):=by
 simp only[AB,ho]at hl;obtain⟨j,n,hi,hl⟩:=EW (Ac h i) hl;have h1:=Ac h x;generalize s.Ai x=p at hl h1;split at hl
 ·rename_i b;change ADi at b;split at hl
  ·rename_i hr;have hu:=KZ hc hr;obtain⟨y,hy,hl⟩:=hl;rw[AM hl];obtain⟨h0,hx,he⟩:=Iz hy;have e1:a.eval x=.string ⟨List.toArray (α:=UInt8) b⟩:=h1.1;refine AR h (u:=.int .u8 y.toNat) ?_ (Bi _ _)
   have zM:(⟨List.toArray (α:=UInt8) b⟩:ByteArray)[n.toNat]?=some y:=by rw[getElem?_pos _ _ (by simpa[ByteArray.size]using hx)];congr 1
   simp[execOp,ho,hi,e1,Instr.index,asIntOf,run_underlying hu,h0,zM]
  ·exact hl.elim
 ·exact hl.elim
theorem C1(h:AU E s a.tmps W){x:Option Operand}{d:Int}{β:Type}{k:Int->Step β}{t:β}(hl:(Dg s x d k).leads t):
  ∃n:Int,(k n).leads t/\((x=none/\n=d)\/∃y j,x=some y/\a.eval y=.int j n):=by
 cases x with
 |none=>exact⟨d,hl,.inl ⟨rfl,rfl⟩⟩
 |some y=>
  obtain⟨j,n,hi,hl⟩:=EW (Ac h y) hl;grind
theorem Ff{isS:Bool}{len cap:Nat}{lo hi:Option Operand}{l m:Int}(hlo:(lo=none/\l=0)\/∃y j,lo=some y/\a.eval y=.int j l)
  (hhi:(hi=none/\m=(len:Int))\/∃y j,hi=some y/\a.eval y=.int j m) (h0:0<=l) (h1:l<=m) (h2:m<=(cap:Int)) (w:World):
  (Instr.sliceBounds isS len cap (lo.map a.eval) (hi.map a.eval) none).run P w=.ok (l.toNat,m.toNat,cap) w:=by
 rcases hlo with⟨rfl,rfl⟩|⟨y,j,rfl,hy⟩<;>rcases hhi with⟨rfl,rfl⟩|⟨z,k,rfl,hz⟩
 ·simp[Instr.sliceBounds]
 ·simp[Instr.sliceBounds,hz,Instr.sliceBound,asIntOf,h2,h1]
 ·simp[Instr.sliceBounds,hy,Instr.sliceBound,asIntOf,h0,h1]
 ·have:0<=m:=J
  have h3:l<=(m.toNat:Int):=J
  simp[Instr.sliceBounds,hy,hz,Instr.sliceBound,asIntOf,h0,h1,h2,this,h3];omega
theorem Mo(hc:Dt P cx)(h:AU E s a.tmps W){ti:TypeId}{x:Operand}{lo hi:Option Operand}(ho:o.op=.slice ti x lo hi none)(hl:(AB cx v o s).leads ws):Bc P E o a W.w (s.app ws):=by
 simp only[AB,ho]at hl;have h1:=Ac h x;generalize s.Ai x=p at hl h1;split at hl
 ·rename_i b;change ADi at b;split at hl
  ·rename_i hr;have hu:=KZ hc hr;obtain⟨l,hl,hlo⟩:=C1 h hl;obtain⟨m,hl,hhi⟩:=C1 h hl;rcases Ag hl with⟨hb,hl⟩|⟨_,hl⟩
   ·simp only[AAJ,AAf]at hb;obtain⟨⟨b0,b1⟩,b2⟩:=hb;rw[AM hl];have e1:a.eval x=.string ⟨b.toArray⟩:=h1.1;have zF:=Ff (P:=P) (isS:=false) (len:=b.length) (cap:=b.length) hlo hhi b0 b1 b2 W.w;refine AR h (u:=.string ((⟨b.toArray⟩:ByteArray).extract l.toNat m.toNat)) ?_ ?_
    ·have hs:(⟨b.toArray⟩:ByteArray).size=b.length:=by simp[ByteArray.size]
     simp[execOp,ho,e1,Instr.sliceAt,run_underlying hu,Instr.slice,hs,zF]
    ·have:(⟨b.toArray⟩:ByteArray).extract l.toNat m.toNat=⟨(sub b l.toNat m.toNat).toArray⟩:=by apply ByteArray.ext;rw[ByteArray.data_extract];simp[sub,List.extract_eq_take_drop]
     rw[this];exact Kz _
   ·exact hl.elim
  ·exact hl.elim
 ·rename_i t e b;change List e.D at b;split at hl
  ·rename_i hr;obtain⟨l,hl,hlo⟩:=C1 h hl;obtain⟨m,hl,hhi⟩:=C1 h hl;rcases Ag hl with⟨hb,hl⟩|⟨_,hl⟩
   ·simp only[AAJ,AAf]at hb;obtain⟨⟨b0,b1⟩,b2⟩:=hb;rw[AM hl];obtain⟨t',hu,he⟩:=Fy hc hr;have h1:AD e 0 W.w W.fz (a.eval x) b []:=h1;obtain⟨A,c,hv,hcap⟩:=h1.len;rw[hv]at h1;obtain⟨o',q1,q2,_⟩:=CD.sub h1 (lo:=l.toNat) (hi:=m.toNat) J J;have ho':o'=[]:=CD.zero q1;subst ho';have zF:=Ff (P:=P) (isS:=true) (len:=b.length) (cap:=c) hlo hhi b0 b1 J W.w;refine AR h (u:=.slice (if c=l.toNat then A else A.map (·.add (l.toNat*e.n))) (m.toNat-l.toNat) (c-l.toNat)) ?_ (show AQ s W (.sc (.sl t e) (sub b l.toNat m.toNat)) _ from q1);simp[execOp,ho,hv,Instr.sliceAt,run_underlying hu,Instr.slice,zF,he.sizeOf]
   ·exact hl.elim
  ·exact hl.elim
 ·rename_i c;obtain⟨t0,e0,xs0,d0,gen,yr,hp,hk⟩:=Cd h hl;obtain⟨u,e',zG,hn⟩:=h1 gen t0 e0 xs0 d0 yr hp;obtain⟨t',ys,d',o',hl,zE,_⟩:=hk u e' _ zG hn;split at hl
  ·rename_i hr;obtain⟨l,hl,hlo⟩:=C1 h hl;obtain⟨m,hl,hhi⟩:=C1 h hl;rcases Ag hl with⟨hb,hl⟩|⟨_,hl⟩
   ·simp only[AAJ,AAf]at hb;obtain⟨⟨b0,b1⟩,b2⟩:=hb;rw[AM hl];obtain⟨t2,hu,he⟩:=Fy hc hr;obtain⟨A,cc,hv,hcap⟩:=zE.len;have zF:=Ff (P:=P) (isS:=true) (len:=ys.length) (cap:=cc) hlo hhi b0 b1 J W.w;refine AR h (u:=.slice (if cc=l.toNat then A else A.map (·.add (l.toNat*e'.n))) (m.toNat-l.toNat) (cc-l.toNat)) ?_ ?_
    ·simp[execOp,ho,hv,Instr.sliceAt,run_underlying hu,Instr.slice,zF,he.sizeOf]
    ·intro gen2 t3 e3 xs3 d3 hleaf3 hp3;grind
   ·exact hl.elim
  ·exact hl.elim
 ·exact hl.elim
end
end Go.Ev
namespace Go.Ev
theorem BA(s:St):∀(xs ys:List Wr),s.app (xs++ys)=(s.app xs).app ys
 | [],ys=>rfl
 |x::xs,ys=>by show((s.AF x).app (xs++ys))=((s.AF x).app xs).app ys;exact BA (s.AF x) xs ys
theorem Ef(s:St)(r j:Nat)(x:LA)(r' j':Nat):(s.AF (.leaf r j x)).leaf r' j'=if r=r'/\j=j'/\r<s.ro.length/\j<(s.root r).ls.length then x else s.leaf r' j':=by
 have zX:(s.AF (.leaf r j x)).root r'=if r=r'/\r<s.ro.length then { s.root r with ls:=Ca (s.root r).ls j x }else s.root r':=Aw _ _ _ _ _
 unfold St.leaf;rw[zX];by_cases h:r=r'/\r<s.ro.length
 ·obtain⟨rfl,zA⟩:=h;rw[AAP ⟨rfl,zA⟩];show nth LA.bad (Ca (s.root r).ls j x) j'=_;rw[Aw];by_cases hj:j=j'/\j<(s.root r).ls.length
  ·rw[AAP hj,AAP ⟨rfl,hj.1,zA,hj.2⟩]
  ·rw[AAQ hj,AAQ (λhh=>hj ⟨hh.2.1,hh.2.2.2⟩)]
 grind
structure Jr(s s':St):Prop where
 sl:s'.sl=s.sl
 len:s'.ro.length=s.ro.length
 box:∀r,(s'.root r).box=(s.root r).box/\(s'.root r).AA=(s.root r).AA/\(s'.root r).ls.length=(s.root r).ls.length
theorem BY(s:St)(r j:Nat)(x:LA):Jr s (s.AF (.leaf r j x)) where
 sl:=rfl
 len:=CZ _ _ _
 box r':=by
  have zX:(s.AF (.leaf r j x)).root r'=if r=r'/\r<s.ro.length then { s.root r with ls:=Ca (s.root r).ls j x }else s.root r':=Aw _ _ _ _ _
  rw[zX];by_cases h:r=r'/\r<s.ro.length
  ·obtain⟨rfl,zA⟩:=h;rw[AAP ⟨rfl,zA⟩];exact⟨rfl,rfl,CZ _ _ _⟩
  grind
theorem Dx(s:St):∀us:List (Nat×Nat),Jr s (s.app (gone us))/\∀r j,(s.app (gone us)).leaf r j=if(r,j)∈us then .bad else s.leaf r j
 | []=>⟨⟨rfl,rfl,λ_=>⟨rfl,rfl,rfl⟩⟩,λr j=>by simp[gone,St.app]⟩
 |u::us=>by
  have h1:=BY s u.1 u.2 .bad;have h2:=Ef s u.1 u.2 .bad;obtain⟨a,b⟩:=Dx (s.AF (.leaf u.1 u.2 .bad)) us;refine⟨⟨a.sl.trans h1.sl,a.len.trans h1.len,λr=>⟨(a.box r).1.trans (h1.box r).1,(a.box r).2.1.trans (h1.box r).2.1,(a.box r).2.2.trans (h1.box r).2.2⟩⟩,λr j=>?_⟩;show((s.AF (.leaf u.1 u.2 .bad)).app (gone us)).leaf r j=_;rw[b,h2];by_cases hm:(r,j)∈us
  ·grind
  ·rw[AAQ hm];by_cases he:(r,j)=u
   ·have yt:(r,j)∈u::us:=by rw[he];exact AAg
    rw[AAP yt];subst he;split
    ·rfl
    ·rename_i zD;unfold St.leaf;by_cases hr:r<s.ro.length
     ·rw[Ay];exact AAy λhj=>zD ⟨rfl,rfl,hr,hj⟩
     ·have:s.root r=dead:=Ay _ (AAy hr);rw[this];rfl
   grind
section
variable {P:Program}{E:Cy}{s:St}{tm:Array Value}{W:Wd}{v:Nat}
def AN(W:Wd)(w':World)(us:List (Nat×Nat))(d:Nat)(cvd:Nat->Option Value)(bkd:Nat)(ob:Is)(oj:Nat->Is):Wd:=
 {w:=w',fz:=W.fz
  cv:=λr j=>if r=d then cvd j else W.cv r j
  bk:=λr=>if r=d then bkd else W.bk r
  om:=λk=>match k with
   | .blk r=>if r=d then ob else W.om (.blk r)
   | .lf r j=>if r=d then oj j else if(r,j)∈us then []else W.om (.lf r j)
   | .fl _=>[] }
def Kept(us:List (Nat×Nat))(d:Nat):Key->Prop
 | .blk r=>r≠d
 | .lf r j=>r≠d/\(r,j)∉us
 | .fl _=>False
theorem AU.Kv(h:AU E s tm W)(hv:Ad s v){us:List (Nat×Nat)}{d:Nat}(hd:d<tm.size){x:Bo}{a:AV}{u:Value}{w':World}{cvd:Nat->Option Value}{bkd:Nat}{ob:Is}{oj:Nat->Is}
  (hx:x.AA=v) (hxl:∀(j AA gen:Nat)(t:TypeId)(e:Ls)(xs:List e.D)(dd:Nat),nth .bad x.ls j=.arr AA gen t e xs dd->AA=v)
  (hw:∀b,(W.fz b\/∃k,Kept us d k/\b∈W.om k)->w'.heap[b]?=W.w.heap[b]?)
  (zt:∀b,b<E.base->¬E.io b->w'.heap[b]?=W.w.heap[b]?) (zO:W.w.heap.size<=w'.heap.size) (ho:w'.os=W.w.os/\w'.tape=W.w.tape/\w'.output=W.w.output)
  (hnb:ob.Nodup) (hnj:∀j,(oj j).Nodup) (hdb:∀j,∀b∈ob,b∉oj j) (hdj:∀i j,i≠j->∀b∈oj i,b∉oj j)
  (zv:∀b,(b∈ob\/∃j,b∈oj j)->(∃k,¬Kept us d k/\b∈W.om k)\/(W.w.heap.size<=b/\b<w'.heap.size))
  (zX:ES v s (s.app (gone us++[.root d x,.slot d a])) W (AN W w' us d cvd bkd ob oj)->(s.app (gone us++[.root d x,.slot d a])).root d=x->ER (s.app (gone us++[.root d x,.slot d a])) (AN W w' us d cvd bkd ob oj) d x)
  (hslot:ES v s (s.app (gone us++[.root d x,.slot d a])) W (AN W w' us d cvd bkd ob oj)->(s.app (gone us++[.root d x,.slot d a])).root d=x->BW (s.app (gone us++[.root d x,.slot d a])) (AN W w' us d cvd bkd ob oj) a u):
  AU E (s.app (gone us++[.root d x,.slot d a])) (tm.setIfInBounds d u) (AN W w' us d cvd bkd ob oj):=by
 obtain⟨yx,yr⟩:=Dx s us;generalize hs':s.app (gone us++[.root d x,.slot d a])=s' at *;rw[BA]at hs';generalize s.app (gone us)=s1 at yx yr hs';have hd1:d<s1.ro.length:=by rw[yx.len,h.Bs];exact hd
 have hd2:d<s1.sl.length:=by rw[yx.sl,h.DM];exact hd
 have hroots:∀r,s'.root r=if d=r then x else s1.root r:=by
  intro r;subst hs';show((s1.AF (.root d x)).AF (.slot d a)).root r=_;have:((s1.AF (.root d x)).AF (.slot d a)).root r=(s1.AF (.root d x)).root r:=rfl;rw[this,As];by_cases hdr:d=r
  ·grind
  ·grind
 have hslots:∀t,s'.slot t=if d=t then a else s.slot t:=by
  intro t;subst hs';show((s1.AF (.root d x)).AF (.slot d a)).slot t=_;rw[BO];by_cases hdr:d=t
  ·rw[AAP ⟨hdr,hd2⟩,AAP hdr]
  ·rw[AAQ (λhh=>hdr hh.1),AAQ hdr];show nth _ s1.sl t=_;rw[yx.sl];rfl
 have hleaves:∀r j,s'.leaf r j=if d=r then nth .bad x.ls j else if(r,j)∈us then .bad else s.leaf r j:=by
  intro r j;unfold St.leaf;rw[hroots];by_cases hdr:d=r
  ·grind
  ·rw[AAQ hdr,AAQ hdr];exact yr r j
 have zV:ES v s s' W (AN W w' us d cvd bkd ob oj):={
  fz:=λb hb=>hb
  Lf:=λb hb=>hw b (.inl hb)
  leaf:=by
   intro r j AA gen t e xs dd hl zD;rw[hleaves]at hl;by_cases hdr:d=r
   ·grind
   ·rw[AAQ hdr]at hl;by_cases hm:(r,j)∈us
    ·grind
    ·rw[AAQ hm]at hl;refine⟨AAQ (λe=>hdr e.symm),gen,t,xs,dd,hl,λ_=>⟨rfl,λp h' e' u' hc hn=>?_⟩⟩;obtain⟨u0,z8,zE⟩:=(h.roots r).row hl;rw[hc]at z8;injection z8 with z8;subst z8
     exact BI p zE hn λb hb=>hw b (hb.elim (λhb=>.inr ⟨.lf r j,⟨λe=>hdr e.symm,hm⟩,hb⟩) .inl)
  box:=by
   intro r hb zD;rw[hroots]at hb zD ⊢;by_cases hdr:d=r
   ·grind
   ·rw[AAQ hdr]at hb zD ⊢;obtain⟨b1,b2,b3⟩:=yx.box r;exact⟨b1▸hb,b2.symm,AAQ (λe=>hdr e.symm)⟩ }
 have hsep:Sep E (AN W w' us d cvd bkd ob oj):=by
  refine h.sep.IM (λk=>¬Kept us d k) rfl zO zt ho ?_ ?_ ?_ ?_
  ·intro k hk;have hk:Kept us d k:=ABE.1 hk;cases k with
   |blk r=>exact AAQ hk
   |lf r j=>show(if r=d then oj j else if(r,j)∈us then []else W.om (.lf r j))=_;rw[AAQ hk.1,AAQ hk.2]
   |fl k=>exact hk.elim
  ·intro k hk;cases k with
   |blk r=>
    have:r=d:=ABE.1 hk;show(if r=d then ob else W.om (.blk r)).Nodup;grind
   |lf r j=>
    show(if r=d then oj j else if(r,j)∈us then []else W.om (.lf r j)).Nodup;by_cases hr:r=d
    ·grind
    ·rw[AAQ hr];by_cases hm:(r,j)∈us
     ·grind
     ·exact absurd ⟨hr,hm⟩ hk
   |fl k=>exact AAR
  ·intro k k' hk hk' zD b hb zJ;cases k with
   |fl k=>cases hb
   |blk r=>
    have hr:r=d:=ABE.1 hk;subst hr;have hb:b∈ob:=by have:b∈(if r=r then ob else W.om (.blk r)):=hb;grind
    cases k' with
    |fl k=>cases zJ
    |blk r'=>have zk:r'=r:=ABE.1 hk';grind
    |lf r' j'=>
     have zJ:b∈(if r'=r then oj j' else if(r',j')∈us then []else W.om (.lf r' j')):=zJ;by_cases zk:r'=r
     ·grind
     ·rw[AAQ zk]at zJ;by_cases hm:(r',j')∈us
      ·grind
      ·exact hk' ⟨zk,hm⟩
   |lf r j=>
    have hb:b∈(if r=d then oj j else if(r,j)∈us then []else W.om (.lf r j)):=hb;by_cases hr:r=d
    ·rw[AAP hr]at hb;cases k' with
     |fl k=>cases zJ
     |blk r'=>
      have zk:r'=d:=ABE.1 hk';have zJ:b∈(if r'=d then ob else W.om (.blk r')):=zJ;grind
     |lf r' j'=>
      have zJ:b∈(if r'=d then oj j' else if(r',j')∈us then []else W.om (.lf r' j')):=zJ;by_cases zk:r'=d
      ·grind
      ·rw[AAQ zk]at zJ;by_cases hm:(r',j')∈us
       ·grind
       ·exact hk' ⟨zk,hm⟩
    ·rw[AAQ hr]at hb;by_cases hm:(r,j)∈us
     ·grind
     ·exact hk ⟨hr,hm⟩
  ·intro k hk b hb
   have hb2:b∈ob\/∃j,b∈oj j:=by
    cases k with
    |fl k=>cases hb
    |blk r=>
     have hr:r=d:=ABE.1 hk;have hb:b∈(if r=d then ob else W.om (.blk r)):=hb;grind
    |lf r j=>
     have hb:b∈(if r=d then oj j else if(r,j)∈us then []else W.om (.lf r j)):=hb;by_cases hr:r=d
     ·grind
     ·rw[AAQ hr]at hb;by_cases hm:(r,j)∈us
      ·grind
      ·exact absurd ⟨hr,hm⟩ hk
   exact zv b hb2
 refine h.IM hv zV hsep ?_ ?_ ?_ ?_
 ·subst hs';simp only[St.app,St.AF,CZ,Array.size_setIfInBounds];rw[yx.sl,h.DM]
 ·subst hs';simp only[St.app,St.AF,CZ,Array.size_setIfInBounds];rw[yx.len,h.Bs]
 ·intro t;rw[hslots];by_cases hdt:d=t
  ·right;rw[AAP hdt];have:(tm.setIfInBounds d u).getD t Go.undef=u:=by subst hdt;simp[AAw,hd]
   grind
  ·left;rw[AAQ hdt];exact⟨rfl,by simp[AAw,hdt]⟩
 ·intro r;rw[hroots];by_cases hdr:d=r
  ·grind
  ·rw[AAQ hdr];obtain⟨h1,h2⟩:=h.roots r;obtain⟨b1,b2,b3⟩:=yx.box r;have hdr':¬r=d:=λe=>hdr e.symm;refine⟨λj=>?_,?_⟩
   ·have e1:(AN W w' us d cvd bkd ob oj).cv r j=W.cv r j:=AAQ hdr';have e2:(AN W w' us d cvd bkd ob oj).om (.lf r j)=if(r,j)∈us then []else W.om (.lf r j):=AAQ hdr'
    have e3:nth LA.bad (s1.root r).ls j=if(r,j)∈us then .bad else s.leaf r j:=yr r j
    rw[e1,e2,e3];by_cases hm:(r,j)∈us
    ·rw[AAP hm,AAP hm];exact⟨rfl,λ_ _=>trivial⟩
    ·rw[AAQ hm,AAQ hm];exact Aa.Ds zV (hv.2.1 r j) (λb hb=>hw b (.inr ⟨.lf r j,⟨hdr',hm⟩,hb⟩)) (h1 j)
   ·have e1:(AN W w' us d cvd bkd ob oj).om (.blk r)=W.om (.blk r):=AAQ hdr';have e2:(AN W w' us d cvd bkd ob oj).bk r=W.bk r:=AAQ hdr';rw[b1,e1,e2];split
    ·rename_i hb;rw[AAP hb]at h2;obtain⟨ho',arr,T,fr,hh,a1,a2,a3⟩:=h2;refine⟨ho',arr,T,fr,(hw _ (.inr ⟨.blk r,hdr',by rw[ho'];simp⟩)).trans hh,a1,by rw[b3];exact a2,λj=>?_⟩;show(if r=d then cvd j else W.cv r j)=_;rw[AAQ hdr'];exact a3 j
    grind
theorem AU.place(h:AU E s tm W)(hv:Ad s v){us:List (Nat×Nat)}{d:Nat}(hd:d<tm.size){x:Bo}{a:AV}{u:Value}{w':World}{cvd:Nat->Option Value}{bkd:Nat}{ob:Is}{oj:Nat->Is}
  (hx:x.AA=v) (hxl:∀(j AA gen:Nat)(t:TypeId)(e:Ls)(xs:List e.D)(dd:Nat),nth .bad x.ls j=.arr AA gen t e xs dd->AA=v)
  (hw:∀b,(W.fz b\/∃k,Kept us d k/\b∈W.om k)->w'.heap[b]?=W.w.heap[b]?)
  (zt:∀b,b<E.base->¬E.io b->w'.heap[b]?=W.w.heap[b]?) (zO:W.w.heap.size<=w'.heap.size) (ho:w'.os=W.w.os/\w'.tape=W.w.tape/\w'.output=W.w.output)
  (hnb:ob.Nodup) (hnj:∀j,(oj j).Nodup) (hdb:∀j,∀b∈ob,b∉oj j) (hdj:∀i j,i≠j->∀b∈oj i,b∉oj j)
  (zv:∀b,(b∈ob\/∃j,b∈oj j)->(∃r j,(r,j)∈us/\b∈W.om (.lf r j))\/(W.w.heap.size<=b/\b<w'.heap.size))
  (zX:ES v s (s.app (gone us++[.root d x,.slot d a])) W (AN W w' us d cvd bkd ob oj)->(s.app (gone us++[.root d x,.slot d a])).root d=x->ER (s.app (gone us++[.root d x,.slot d a])) (AN W w' us d cvd bkd ob oj) d x)
  (hslot:ES v s (s.app (gone us++[.root d x,.slot d a])) W (AN W w' us d cvd bkd ob oj)->(s.app (gone us++[.root d x,.slot d a])).root d=x->BW (s.app (gone us++[.root d x,.slot d a])) (AN W w' us d cvd bkd ob oj) a u):
  AU E (s.app (gone us++[.root d x,.slot d a])) (tm.setIfInBounds d u) (AN W w' us d cvd bkd ob oj):=
 h.Kv hv hd hx hxl hw zt zO ho hnb hnj hdb hdj (λb hb=>(zv b hb).imp (λ⟨r,j,hm,h0⟩=>⟨.lf r j,λhk=>hk.2 hm,h0⟩) id) zX hslot
end
end Go.Ev
namespace Go.Ev
section
variable {P:Program}{E:Cy}{s:St}{tm:Array Value}{W:Wd}{v:Nat}{cx:Cx}{β:Type}{t:β}
theorem AU.Cr(h:AU E s tm W)(hv:Ad s v)(us:List (Nat×Nat)){d:Nat}(hd:d<tm.size){t0:TypeId}{e:Ls}{xs:List e.D}{dd:Nat}{u:Value}{w':World}{o:Is}
  (hw:∀b,(W.fz b\/∃k,Kept us d k/\b∈W.om k)->w'.heap[b]?=W.w.heap[b]?)
  (zt:∀b,b<E.base->¬E.io b->w'.heap[b]?=W.w.heap[b]?) (zO:W.w.heap.size<=w'.heap.size) (ho:w'.os=W.w.os/\w'.tape=W.w.tape/\w'.output=W.w.output)
  (hr:AD e dd w' W.fz u xs o) (hn:o.Nodup) (zv:∀b∈o,(∃r j,(r,j)∈us/\b∈W.om (.lf r j))\/(W.w.heap.size<=b/\b<w'.heap.size)):
  ∃W',W'.w=w'/\AU E (s.app (gone us++[.root d ⟨false,v,[.arr v v t0 e xs dd]⟩,.slot d (one (.ref ⟨d,0,v,v,[]⟩))])) (tm.setIfInBounds d u) W':=by
 refine⟨AN W w' us d (λj=>if j=0 then some u else none) 0 [] (λj=>if j=0 then o else []),rfl,?_⟩;obtain⟨yx,yr⟩:=Dx s us;refine h.place hv hd rfl ?_ hw zt zO ho AAR ?_ (λj b hb=>by cases hb) ?_ ?_ ?_ ?_
 ·intro j AA gen t e xs dd' hl;cases j with
  |zero=>simp only[nth]at hl;grind
  |succ j=>simp[nth]at hl
 ·grind
 ·grind
 ·grind
 ·intro _ _;refine⟨λj=>?_,?_⟩
  ·cases j with
   |zero=>
    refine⟨u,by simp[AN],?_⟩;have:(AN W w' us d (λj=>if j=0 then some u else none) 0 [] (λj=>if j=0 then o else [])).om (.lf d 0)=o:=by simp[AN]
    rw[this];exact hr
   |succ j=>
    have h1:nth LA.bad [LA.arr v v t0 e xs dd] (j+1)=.bad:=by simp[nth]
    have h2:(AN W w' us d (λj=>if j=0 then some u else none) 0 [] (λj=>if j=0 then o else [])).om (.lf d (j+1))=[]:=by simp[AN]
    rw[h1,h2];exact⟨rfl,λ_ _=>trivial⟩
  ·show(if false=true then _ else _);simp[AN]
 ·intro _ _ gen t e2 xs2 d2 hl hp;refine⟨u,e2,?_,rfl,rfl⟩;simp[AN]
def Js(s:St)(W:Wd)(v:Nat)(b:LA)(u:Value)(o:Is)(us:List (Nat×Nat)):Prop:=
 u.oneCell'=true/\o.Nodup/\(∀b∈o,∃r j,(r,j)∈us/\b∈W.om (.lf r j))/\match b with
  | .arr AA gen _ e xs d=>AA=v/\gen=v/\AD e d W.w W.fz u xs o
  |b=>o=[]/\AQ s W b u/\v∉b.AG
theorem cells_one{u:Value}(h:u.oneCell'=true):u.cells = #[u]:=by
 cases u<;>first|rfl|cases h
theorem Mz:∀(l:L) {w:World} {fz:Nat->Prop} {u:Value} {x:l.D},l.rd 0 w fz u x []->u.oneCell'=true
 | .int k,_,_,u,x,h=>by rw[show u=.int k x from h.1];rfl
 | .bool,_,_,u,x,h=>by rw[show u=.bool x from h.1];rfl
 | .str,_,_,u,x,h=>by rw[show u=.string ⟨x.toArray⟩from h.1];rfl
 | .sl _ e,_,_,u,x,h=>by obtain⟨A,c,hu,_⟩:=AD.len (show AD e 0 _ _ u x []from h);rw[hu];rfl
theorem LO(h:AU E s tm W){la:LA}(hva:v∉la.AG){u:Value}(hu:AQ s W la u){l:L}{k:LA->List (Nat×Nat)->Step β}(hl:(s.take cx v la l k).leads t):
  ∃b us o,(k b us).leads t/\Js s W v b u o us/\(∀x∈us,cx.Kc x.1=false)/\us.length<=1:=by
 unfold St.take at hl;cases la with
 |sc m x=>
  simp only at hl;split at hl
  ·exact⟨_,_,[],hl,⟨Mz m hu,AAR,(λb hb=>by cases hb),rfl,hu,hva⟩,(λx hx=>by cases hx),OF⟩
  ·exact hl.elim
 |DN=>
  cases l with
  |sl t' e=>
   refine⟨_,_,[],hl,⟨by rw[show u=.slice none 0 0 from hu];rfl,AAR,(λb hb=>by cases hb),rfl,rfl,?_⟩,(λx hx=>by cases hx),OF⟩;rw[show u=.slice none 0 0 from hu];exact Bz
  |_=>exact hl.elim
 |ref c=>
  simp only at hl;split at hl
  ·rename_i AA gen t' e xs d yr;split at hl
   ·obtain⟨t2,e2,ys,d2,o2,hl,hr,ho⟩:=DR h hu hl;split at hl
    ·obtain⟨u0,_,hr0⟩:=(h.roots c.r).row yr;have hz:W.om (.lf c.r c.j)=[]:=AD.zero hr0;obtain⟨A,cc,huv,_⟩:=hr.len;exact⟨_,_,[],hl,⟨by rw[huv];rfl,AAR,(λb hb=>by cases hb),rfl,hr.freeze λb hb=>hb.elim id λhb=>No,by simp[LA.AG]⟩,(λx hx=>by cases hx),OF⟩
    ·exact hl.elim
   ·split at hl
    ·rename_i hc;simp only[AAJ,AAT,AAU]at hc;obtain⟨⟨⟨zC,hp⟩,hpin⟩,hk⟩:=hc;subst zC;have hp:c.p=[]:=by cases hq:c.p<;>simp_all[isNil]
     obtain⟨h',e',zW,hn⟩:=hu _ _ _ _ _ yr (.inl hp);rw[hp]at hn;obtain⟨rfl,rfl⟩:=hn;obtain⟨u',zG,zE⟩:=(h.roots c.r).row yr;rw[zW]at zG;injection zG with zG;subst zG
     obtain⟨A,cc,huv,_⟩:=zE.len;refine⟨_,_,W.om (.lf c.r c.j),hl,⟨by rw[huv];rfl,h.sep.nodup _,λb hb=>⟨c.r,c.j,OF,hb⟩,rfl,rfl,zE⟩,λx hx=>?_,OF⟩;grind
    ·exact hl.elim
  ·exact hl.elim
 |EI c lo hi=>
  simp only at hl;split at hl
  ·rename_i AA gen t' e xs d yr;split at hl
   ·rename_i hc;simp only[AAJ,AAT,AAU]at hc;obtain⟨⟨⟨zC,hp⟩,hpin⟩,hk⟩:=hc;subst zC;have hp:c.p=[]:=by cases hq:c.p<;>simp_all[isNil]
    obtain⟨h',e',A,n,k0,zW,hn,h1,h2,huv⟩:=hu gen t' e xs d yr (.inl hp);rw[hp]at hn;obtain⟨rfl,rfl⟩:=hn;obtain⟨u',zG,zE⟩:=(h.roots c.r).row yr;rw[zW]at zG;injection zG with zG;subst zG
    obtain⟨o',q1,q2,q3⟩:=CD.sub zE h1 h2;refine⟨_,_,o',hl,⟨by rw[huv];rfl,q3 (h.sep.nodup _),λb hb=>⟨c.r,c.j,OF,q2 b hb⟩,rfl,rfl,?_⟩,λx hx=>?_,OF⟩
    ·rw[huv];exact q1
    grind
   ·exact hl.elim
  ·exact hl.elim
 |ptr r j AA=>
  simp only at hl;split at hl
  ·rename_i hc;simp only[AAJ,AAT]at hc;refine⟨_,_,[],hl,⟨by rw[hu hc.1 hc.2];rfl,AAR,(λb hb=>by cases hb),rfl,hu,hva⟩,(λx hx=>by cases hx),OF⟩
  ·exact hl.elim
 |fn f=>exact⟨_,_,[],hl,⟨by rw[show u=_ from hu];rfl,AAR,(λb hb=>by cases hb),rfl,hu,hva⟩,(λx hx=>by cases hx),OF⟩
 |_=>exact hl.elim
theorem En(h:AU E s tm W):∀ {ls:List L} {as:List LA} {g:Nat->Option Value} {k:List LA->List (Nat×Nat)->Step β},(∀(j:Nat)(b:LA),as[j]?=some b->v∉b.AG/\∃u,g j=some u/\AQ s W b u)->
  (s.GA cx v ls as k).leads t->∃(bs:List LA) (us:List (Nat×Nat)) (os:Nat->Is),(k bs us).leads t/\bs.length=as.length/\as.length=ls.length/\us.Nodup/\(∀x∈us,cx.Kc x.1=false)/\
   (∀i j,i≠j->∀b∈os i,b∉os j)/\(∀j,as.length<=j->os j=[])/\∀(j:Nat)(b:LA),bs[j]?=some b->∃u,g j=some u/\Js s W v b u (os j) us
 | [],[],g,k,hg,hl=>⟨[],[],λ_=>[],hl,rfl,rfl,AAR,(λx hx=>by cases hx),(λ_ _ _ b hb=>by cases hb),λ_ _=>rfl,(λj b hb=>by simp at hb)⟩
 | [],_::_,g,k,hg,hl=>hl.elim
 |_::_,[],g,k,hg,hl=>hl.elim
 |l::ls,a::as,g,k,hg,hl=>by
  obtain⟨hva,u,hu,ha⟩:=hg 0 a rfl;obtain⟨b,us,o,hl,hb,hbx,hlen1⟩:=LO h hva ha hl;obtain⟨bs,vs,os,hl,hlen,hlen2,hnd,hbx2,zx,hbig,hbs⟩:=En h (g:=λj=>g (j+1)) (λj b hj=>hg (j+1) b No) hl;split at hl
  ·rename_i zq
   have hapart:∀x∈us,x∉vs:=by intro x hx hx';have:=AAW.1 zq x hx;simp at this;exact this hx'
   refine⟨b::bs,us++vs,λj=>match j with|0=>o|j+1=>os j,hl,by simp[hlen],by simp[hlen2],?_,?_,?_,?_,?_⟩
   ·grind
   ·grind
   ·have cross:∀j,∀y∈o,y∉os j:=by
     intro j y hy hy';obtain⟨r,jj,hm,h1⟩:=hb.2.2.1 y hy;by_cases hj:j<bs.length
     ·obtain⟨u',_,ht⟩:=hbs j bs[j] (AAI hj);obtain⟨r',jj',hm',h1'⟩:=ht.2.2.1 y hy';by_cases he:(r,jj)=(r',jj')
      ·exact hapart _ hm (by rw[he];exact hm')
      ·exact h.sep.A4 (.lf r jj) (.lf r' jj') (λe=>he (by injection e with e1 e2;rw[e1,e2])) y h1 h1'
     ·rw[hbig j J]at hy';cases hy'
    grind
   ·grind
   ·intro j y hy;cases j with
    |zero=>
     simp at hy;subst hy;refine⟨u,hu,hb.1,hb.2.1,λz hz=>?_,hb.2.2.2⟩;obtain⟨r,jj,hm,h1⟩:=hb.2.2.1 z hz;grind
    |succ j=>
     obtain⟨u',zG,ht⟩:=hbs j y AD7;refine⟨u',zG,ht.1,ht.2.1,λz hz=>?_,ht.2.2.2⟩;obtain⟨r,jj,hm,h1⟩:=ht.2.2.1 z hz;grind
  ·exact hl.elim
end
end Go.Ev
namespace Go.Ev
section
variable {P:Program}{E:Cy}{s:St}{W:Wd}{o:Oper}{a:Act}{ws:List Wr}{cx:Cx}{v:Nat}{tm:Array Value}
theorem Be(h:AU E s a.tmps W){u:Value}{w':World}{W':Wd}{d:Nat}(hd:o.dst=some d)(zF:(execOp a.eval o).run P W.w=.ok (.value u) w')(hw:W'.w=w')
  (hr:AU E (s.app ws) (a.tmps.setIfInBounds d u) W'):Bc P E o a W.w (s.app ws):=by
 intro next Q hn
 unfold Oper.wp;rw[zF];show next (a.put o.dst u) w'
 rw[hd,<-hw];exact hn _ W' rfl hr
theorem Ab(x:Value):(ofConst x).AG=[]:=by
 cases x with
 |slice A n c=>
  cases A with
  |none=>cases n with
   |zero=>cases c<;>rfl
   |succ n=>rfl
  |some a=>rfl
 |pointer A=>cases A<;>rfl
 |_=>rfl
theorem F5(hv:Ad s v)(x:Operand):v∉(s.Ao x).AG:=by
 cases x with
 |tmp t=>exact hv.1 t
 |const c=>
  cases c with
  |agg cs=>
   show v∉(cs.toList.map ofConst).flatMap LA.AG;intro yt;obtain⟨b,hb,yt⟩:=AAL.1 yt;obtain⟨y,_,rfl⟩:=AAt.1 hb;rw[Ab]at yt;cases yt
  |bool b=>simp[St.Ao,AV.AG,Ab]
  |int k n=>simp[St.Ao,AV.AG,Ab]
  |float k n=>simp[St.Ao,AV.AG,Ab]
  |complex k x y=>simp[St.Ao,AV.AG,Ab]
  |string b=>simp[St.Ao,AV.AG,Ab]
  |pointer b=>simp[St.Ao,AV.AG,Ab]
  |slice b n c=>simp[St.Ao,AV.AG,Ab]
  |map r=>simp[St.Ao,AV.AG,Ab]
  |chan r=>simp[St.Ao,AV.AG,Ab]
  |func f x y=>simp[St.Ao,AV.AG,Ab]
  |nilFunc=>simp[St.Ao,AV.AG,Ab]
  |iface t x=>simp[St.Ao,AV.AG,Ab]
  |nilIface=>simp[St.Ao,AV.AG,Ab]
  |tuple vs=>simp[St.Ao,AV.AG,Ab]
 |global g=>simp[St.Ao,AV.AG,LA.AG]
 |func f=>simp[St.Ao,AV.AG,LA.AG]
theorem Mi{x:AV}(h:v∉x.AG):v∉x.one?.AG:=by
 cases x with
 |Dr vs=>simp[AV.one?,LA.AG]
 |bx as=>simp[AV.one?,LA.AG]
 |v g as=>
  cases g with
  |true=>simp[AV.one?,LA.AG]
  |false=>cases as with
   |nil=>simp[AV.one?,LA.AG]
   |cons b bs=>cases bs with
    |nil=>simpa[AV.one?,AV.AG]using h
    |cons=>simp[AV.one?,LA.AG]
theorem I7(hv:Ad s v)(x:Operand):v∉(s.Ai x).AG:=Mi (F5 hv x)
theorem Lq(h:AU E s a.tmps W)(hv:Ad s v){x:Operand}(ho:o.op=.assign x)(hd:∀d,o.dst=some d->d<a.tmps.size)(hl:(AB cx v o s).leads ws):Bc P E o a W.w (s.app ws):=by
 simp only[AB,ho]at hl;have zF:(execOp a.eval o).run P W.w=.ok (.value (a.eval x)) W.w:=by simp[execOp,ho]
 have h1:=Ac h x;have hva:=I7 hv x;cases zl:o.dst with
 |none=>rw[zl]at hl;exact hl.elim
 |some d=>
  rw[zl]at hl;dsimp only at hl;generalize s.Ai x=p at hl h1 hva
  have val:∀y,AQ s W y (a.eval x)->ws=[.slot d (one y)]->Bc P E o a W.w (s.app ws):=by intro y hy hws;subst hws;exact Be h zl zF rfl (h.slot d (show BW s W (one y) _ from hy))
  split at hl
  ·exact val _ h1 hl.symm
  ·exact val _ h1 hl.symm
  ·exact val _ h1 hl.symm
  ·exact val _ h1 hl.symm
  ·exact val _ h1 hl.symm
  ·exact val _ h1 hl.symm
  ·split at hl
   ·exact hl.elim
   ·split at hl
    ·rename_i ty hty;split at hl
     ·rename_i l hls;obtain⟨b,us,oo,hl,hb,hbx,_⟩:=LO h hva h1 hl;split at hl
      ·rename_i t e xs dd;have hl:_=ws:=hl;obtain⟨zR,hnd,zv,rfl,rfl,yz⟩:=hb;obtain⟨W',hW',yu⟩:=h.Cr hv us (hd d zl) (t0:=t) (w':=W.w) (λb hb=>rfl) (λb _ _=>rfl) (AAc _) ⟨rfl,rfl,rfl⟩ yz hnd (λb hb=>.inl (zv b hb));rw[hl]at yu;exact Be h zl zF hW' yu
      ·exact hl.elim
     ·exact hl.elim
    ·exact hl.elim
theorem Ku(h:AU E s a.tmps W)(hv:Ad s v){x:Operand}(ho:o.op=.move x)(hn:H0 (s.Ao x)=true)(hd:∀d,o.dst=some d->d<a.tmps.size)(hl:(AB cx v o s).leads ws):Bc P E o a W.w (s.app ws):=by
 simp only[AB,ho,hn,if_true]at hl
 have hval:a.eval x=.slice none 0 0:=by
  have h1:=BN h x
  revert hn h1
  generalize s.Ao x=p;intro hn h1;unfold H0 at hn;split at hn
  ·exact h1
  ·cases hn
 split at hl
 ·rename_i ty d hty zl;split at hl
  ·exact hl.elim
  ·split at hl
   ·rename_i t e hls;have hl:_=ws:=hl;obtain⟨W',hW',yu⟩:=h.Cr hv [] (hd d zl) (t0:=t) (e:=e) (xs:=[]) (dd:=2) (u:=.slice none 0 0) (w':=W.w) (o:=[]) (λb hb=>rfl) (λb _ _=>rfl) (AAc _) ⟨rfl,rfl,rfl⟩ Bz AAR (λb hb=>by cases hb);rw[<-hl];exact Be h zl (by simp[execOp,ho,hval]) hW' yu
   ·exact hl.elim
 ·exact hl.elim
theorem A7(w:World)(x:Obj){b:Nat}(h:b<w.heap.size):(w.alloc x).heap[b]?=w.heap[b]?:=heap_alloc_old w x h
theorem Ax(w:World)(x:Obj):(w.alloc x).heap.size=w.heap.size+1:=by show(w.heap.push x).size=_;simp
theorem El(h:AU E s tm W)(x:Obj){us:List (Nat×Nat)}{d:Nat}:∀b,(W.fz b\/∃k,Kept us d k/\b∈W.om k)->(W.w.alloc x).heap[b]?=W.w.heap[b]?:=by
 intro b hb;refine A7 _ _ ?_;rcases hb with hb|⟨k,_,hb⟩
 ·exact(h.sep.fz b hb).1
 ·exact(h.sep.own k b hb).2.1
theorem AU.IF(h:AU E s tm W)(hv:Ad s v){us:List (Nat×Nat)}{d:Nat}(hd:d<tm.size){bs:List LA}{cs:Array Value}{T:TypeId}{os:Nat->Is}
  (hlen:cs.size=bs.length) (hbs:∀(j:Nat)(b:LA),bs[j]?=some b->∃u,cs[j]?=some u/\Js s W v b u (os j) us) (zx:∀i j,i≠j->∀b∈os i,b∉os j) (hbig:∀j,bs.length<=j->os j=[]):
  ∃W',W'.w=W.w.alloc (.cells cs T)/\AU E (s.app (gone us++GR d v bs)) (tm.setIfInBounds d (.pointer (some ⟨W.w.heap.size,0,none⟩))) W':=by
 refine⟨AN W (W.w.alloc (.cells cs T)) us d (λj=>cs[j]?) W.w.heap.size [W.w.heap.size] os,rfl,?_⟩
 have hnth:∀j,j<bs.length->∃u,cs[j]?=some u/\Js s W v (nth .bad bs j) u (os j) us:=by intro j hj;have:=hbs j bs[j] (AAI hj);rw[Ae,AAI hj];exact this
 have hosub:∀j,∀b∈os j,∃r k,(r,k)∈us/\b∈W.om (.lf r k):=by
  intro j b hb;by_cases hj:j<bs.length
  ·obtain⟨u,_,ht⟩:=hnth j hj;exact ht.2.2.1 b hb
  ·grind
 have hold:∀j,∀b∈os j,b<W.w.heap.size:=by intro j b hb;obtain⟨r,k,_,h1⟩:=hosub j b hb;exact(h.sep.own _ b h1).2.1
 refine h.place hv hd rfl ?_ (El h _) (λb hb _=>A7 _ _ ADv) (by rw[Ax];omega) ⟨rfl,rfl,rfl⟩ (AAa.2 ⟨OF,AAR⟩) ?_ ?_ zx ?_ ?_ ?_
 ·intro j AA gen t e xs dd hl;by_cases hj:j<bs.length
  ·obtain⟨u,_,ht⟩:=hnth j hj;dsimp only at hl;rw[hl]at ht;exact ht.2.2.2.1
  ·dsimp only at hl;rw[Ay LA.bad (AAy hj)]at hl;cases hl
 ·intro j;by_cases hj:j<bs.length
  ·obtain⟨u,_,ht⟩:=hnth j hj;exact ht.2.1
  grind
 ·grind
 ·intro b hb;rcases hb with hb|⟨j,hb⟩
  ·simp at hb;subst hb;exact .inr ⟨AAc _,by rw[Ax];omega⟩
  grind
 ·intro zV zX;refine⟨λj=>?_,?_⟩
  ·have e1:(AN W (W.w.alloc (.cells cs T)) us d (λj=>cs[j]?) W.w.heap.size [W.w.heap.size] os).cv d j=cs[j]?:=by simp[AN]
   have e2:(AN W (W.w.alloc (.cells cs T)) us d (λj=>cs[j]?) W.w.heap.size [W.w.heap.size] os).om (.lf d j)=os j:=by simp[AN]
   rw[e1,e2];show Aa _ _ (nth LA.bad bs j) _ _;by_cases hj:j<bs.length
   ·obtain⟨u,hu,ht⟩:=hnth j hj;obtain⟨_,_,_,ht⟩:=ht;generalize nth LA.bad bs j=b at ht;unfold Aa;cases b with
    |arr AA gen t e xs dd=>
     obtain⟨_,_,hr⟩:=ht;exact⟨u,hu,hr.frame (λb hb=>A7 _ _ (hb.elim (hold j b) λhb=>(h.sep.fz b hb).1)) λb hb=>hb⟩
    |_=>exact⟨ht.1,λu' zG=>by rw[hu]at zG;injection zG with zG;subst zG;exact AQ.Ds zV ht.2.2 ht.2.1⟩
   ·rw[Ay LA.bad (AAy hj),hbig j J];exact⟨rfl,λ_ _=>trivial⟩
  ·show(if true=true then _ else _);rw[AAP rfl];refine⟨by simp[AN],cs,T,(0,0),?_,J,hlen,λj=>by simp[AN]⟩;have:(AN W (W.w.alloc (.cells cs T)) us d (λj=>cs[j]?) W.w.heap.size [W.w.heap.size] os).bk d=W.w.heap.size:=by simp[AN]
   rw[this];exact heap_alloc_new _ _
 ·intro zV zX;intro hb zC;have:(AN W (W.w.alloc (.cells cs T)) us d (λj=>cs[j]?) W.w.heap.size [W.w.heap.size] os).bk d=W.w.heap.size:=by simp[AN]
  rw[this]
theorem A8:∀ls:Ls,ls.kinds.length=ls.n
 | .nil=>rfl
 | .one _=>rfl
 | .cons _ ls=>by simp[Ls.kinds,Ls.n,A8 ls]
theorem MA(l:L):Js s W v (JH v l) (CL l) [] []:=by
 cases l with
 |int k=>exact⟨rfl,AAR,(λb hb=>by cases hb),rfl,⟨rfl,rfl⟩,by simp[JH,LA.AG]⟩
 |bool=>exact⟨rfl,AAR,(λb hb=>by cases hb),rfl,⟨rfl,rfl⟩,by simp[JH,LA.AG]⟩
 |str=>exact⟨rfl,AAR,(λb hb=>by cases hb),rfl,⟨rfl,rfl⟩,by simp[JH,LA.AG]⟩
 |sl t e=>exact⟨rfl,AAR,(λb hb=>by cases hb),rfl,rfl,Bz⟩
theorem Mj(hc:Dt P cx)(hft:MC P cx.env)(h:AU E s a.tmps W)(hv:Ad s v){t:TypeId}(ho:o.op=.alloc t)(hd:∀d,o.dst=some d->d<a.tmps.size)(hl:(AB cx v o s).leads ws):Bc P E o a W.w (s.app ws):=by
 simp only[AB,ho]at hl;split at hl
 ·rename_i ty d ht zl;have hl:_=ws:=hl;obtain⟨i,hi,zO,z,hz,hzc,_⟩:=(hc t ty ht).info
  obtain⟨W',hW',yu⟩:=h.IF hv (us:=[]) (hd d zl) (bs:=ty.ls.kinds.map (JH v)) (cs:=(ty.ls.kinds.map CL).toArray) (T:=t) (os:=λ_=>[]) OF
   (λj b hb=>by
    simp only[AAb]at hb;cases hq:ty.ls.kinds[j]? with
    |none=>grind
    |some l=>
     rw[hq]at hb;injection hb with hb;subst hb
     exact⟨CL l,by simp[hq],MA l⟩) (λi j _ b hb=>by cases hb) (λ_ _=>rfl)
  rw[<-hl];refine Be h zl ?_ hW' yu;simp[execOp,ho,Instr.alloc,zeroValue,typeInfo,hi,hz,newVar,newRow,hzc]
 ·rename_i d ht zl;split at hl
  ·rename_i hf;have hl:_=ws:=hl;obtain⟨i,z,c,hi,zO,hz,hzc,zi⟩:=hft t hf
   obtain⟨W',hW',yu⟩:=h.IF hv (us:=[]) (hd d zl) (bs:=[.bad]) (cs := #[c]) (T:=t) (os:=λ_=>[]) rfl
    (λj b hb=>by
     cases j with
     |zero=>simp at hb;subst hb;exact⟨c,rfl,zi,AAR,(λb hb=>by cases hb),rfl,trivial,by simp[LA.AG]⟩
     |succ j=>simp at hb) (λi j _ b hb=>by cases hb) (λ_ _=>rfl)
   rw[<-hl];refine Be h zl ?_ hW' yu;simp[execOp,ho,Instr.alloc,zeroValue,typeInfo,hi,hz,newVar,newRow,hzc]
  ·exact hl.elim
 ·exact hl.elim
theorem JF{g:Bool}{as:List LA}{u:Value}(hu:E8 s W g as u)(zi:g=false->u.cells = #[u]):u.cells.size=as.length/\∀(j:Nat)(b:LA),as[j]?=some b->∃y,u.cells[j]?=some y/\AQ s W b y:=by
 cases g with
 |true=>
  obtain⟨cs,rfl,zO,zM⟩:=hu;exact⟨zO,zM⟩
 |false=>
  have:=zi rfl;rw[this];cases as with
  |nil=>exact hu.elim
  |cons b bs=>cases bs with
   |cons=>exact hu.elim
   |nil=>
    refine⟨rfl,λj y hy=>?_⟩;cases j with
    |zero=>simp at hy;subst hy;exact⟨u,rfl,hu⟩
    |succ j=>simp at hy
theorem AU.Lr(h:AU E s tm W)(hv:Ad s v){d:Nat}{as:List LA}{cs:Array Value}{T:TypeId}(hva:v∉as.flatMap LA.AG)
  (has:∀(j:Nat)(b:LA),as[j]?=some b->∃u,cs[j]?=some u/\AQ s W b u):
  ∃W',W'.w=W.w.alloc (.cells cs T)/\AU E (s.app [.slot d (.bx as)]) (tm.setIfInBounds d (.pointer (some ⟨W.w.heap.size,0,none⟩))) W':=by
 have hold:∀b,b<W.w.heap.size->(W.w.alloc (.cells cs T)).heap[b]?=W.w.heap[b]?:=λb hb=>A7 _ _ hb
 have yu:AU E s tm { W with w:=W.w.alloc (.cells cs T),fz:=λb=>W.fz b\/b=W.w.heap.size }:=by
  have zV:ES v s s W { W with w:=W.w.alloc (.cells cs T),fz:=λb=>W.fz b\/b=W.w.heap.size }:={
   fz:=λb hb=>.inl hb
   Lf:=λb hb=>hold b (h.sep.fz b hb).1
   leaf:=λr j AA gen t e xs dd hl zD=>⟨rfl,gen,t,xs,dd,hl,λ_=>⟨rfl,λp h' e' u zg hn=>by
    obtain⟨u0,z8,zE⟩:=(h.roots r).row hl;rw[zg]at z8;injection z8 with z8;subst z8
    exact BI p zE hn λb hb=>hold b (hb.elim (λhb=>(h.sep.own _ b hb).2.1) λhb=>(h.sep.fz b hb).1)⟩⟩
   box:=λr hb zD=>⟨hb,rfl,rfl⟩ }
  refine h.IM hv zV ?_ h.DM h.Bs (λt=>.inl ⟨rfl,rfl⟩) λr=>?_
  ·have hs:=h.sep
   exact {
    nodup:=hs.nodup
    A4:=hs.A4
    own:=λk b hb=>by obtain⟨a1,a2,a3⟩:=hs.own k b hb;grind
    fz:=λb hb=>by
     rcases hb with hb|rfl
     ·obtain⟨a1,a2⟩:=hs.fz b hb;grind
     ·exact⟨by rw[Ax];omega,.inr (.inl hs.size)⟩
    frame:=λb h1 h2=>(hold b (by have:=hs.size;omega)).trans (hs.frame b h1 h2)
    size:=by rw[Ax];exact Nat.le_succ_of_le hs.size
    rest:=hs.rest }
  ·obtain⟨h1,h2⟩:=h.roots r;refine⟨λj=>?_,?_⟩
   ·exact Aa.Ds zV (by have:=hv.2.1 r j;exact this) (λb hb=>hold b (h.sep.own _ b hb).2.1) (h1 j)
   grind
 refine⟨_,rfl,yu.slot d ?_⟩;refine⟨W.w.heap.size,0,cs,T,(0,0),rfl,.inr rfl,heap_alloc_new _ _,J,λj b hb=>?_⟩;obtain⟨u,hu,zh⟩:=has j b hb;refine⟨u,No,?_⟩;refine AQ.Ds (v:=v) (s:=s) (W:=W) ?_ (λyt=>hva (AAL.2 ⟨b,AAN hb,yt⟩)) zh
 exact {
   fz:=λb hb=>.inl hb
   Lf:=λb hb=>hold b (h.sep.fz b hb).1
   leaf:=λr j AA gen t e xs dd hl zD=>⟨rfl,gen,t,xs,dd,hl,λ_=>⟨rfl,λp h' e' u zg hn=>by
    obtain⟨u0,z8,zE⟩:=(h.roots r).row hl;rw[zg]at z8;injection z8 with z8;subst z8
    exact BI p zE hn λb hb=>hold b (hb.elim (λhb=>(h.sep.own _ b hb).2.1) λhb=>(h.sep.fz b hb).1)⟩⟩
   box:=λr hb zD=>⟨hb,rfl,rfl⟩ }
theorem OO(hc:Dt P cx)(h:AU E s a.tmps W)(hv:Ad s v){t:TypeId}{x:Operand}(ho:o.op=.box t x)(hd:∀d,o.dst=some d->d<a.tmps.size)(hl:(AB cx v o s).leads ws):Bc P E o a W.w (s.app ws):=by
 simp only[AB,ho]at hl;have h1:=BN h x;have hva:=F5 hv x;generalize s.Ao x=p at hl h1 hva;split at hl
 ·rename_i ty d g as ht zl;split at hl
  ·rename_i hlent;simp only[AAJ]at hlent;obtain⟨hg,_⟩:=hlent;subst hg;have hl:_=ws:=hl;obtain⟨cs,hcs,zO,zM⟩:=h1;obtain⟨W',hW',yu⟩:=h.Lr hv (d:=d) (as:=as) (cs:=cs) (T:=t) hva zM;rw[<-hl];refine Be h zl ?_ hW' yu;simp[execOp,ho,Instr.box,newVar,newRow,hcs,Value.cells]
  let gg:Nat->Option Value:=λj=>match g with|true=>(a.eval x).cells[j]?|false=>if j=0 then some (a.eval x)else none
  have hgg:∀(j:Nat)(b:LA),as[j]?=some b->v∉b.AG/\∃u,gg j=some u/\AQ s W b u:=by
   intro j b hb;refine⟨λyt=>hva (AAL.2 ⟨b,AAN hb,yt⟩),?_⟩;cases g with
   |true=>obtain⟨cs,hcs,_,zM⟩:=h1;obtain⟨u,hu,zh⟩:=zM j b hb;exact⟨u,by simp only[gg,hcs];exact hu,zh⟩
   |false=>
    cases as with
    |nil=>exact h1.elim
    |cons b' bs=>cases bs with
     |cons=>exact h1.elim
     |nil=>cases j with
      |zero=>simp at hb;subst hb;exact⟨a.eval x,by simp[gg],h1⟩
      |succ j=>simp at hb
  obtain⟨bs,us,os,hl,hlen,hlen2,hnd,hbx,zx,hbig,hbs⟩:=En (v:=v) h hgg hl;split at hl
  ·have hl:_=ws:=hl
   have zi:g=false->(a.eval x).cells = #[a.eval x]:=by
    intro hg;subst hg;cases as with
    |nil=>exact h1.elim
    |cons b' bs'=>cases bs' with
     |cons=>exact h1.elim
     |nil=>
      match bs,hlen,hbs with
      | [b],_,hbs=>obtain⟨u,hu,ht⟩:=hbs 0 b rfl;simp[gg]at hu;subst hu;exact cells_one ht.1
   have hcs:=JF h1 zi
   have hgc:∀j u,gg j=some u->(a.eval x).cells[j]?=some u:=by
    intro j u hj;cases g with
    |true=>exact hj
    |false=>
     grind
   obtain⟨W',hW',yu⟩:=h.IF hv (us:=us) (hd d zl) (bs:=bs) (cs:=(a.eval x).cells) (T:=t) (os:=os) J
    (λj b hb=>by grind) zx (λj hj=>hbig j J)
   rw[<-hl];refine Be h zl ?_ hW' yu;simp[execOp,ho,Instr.box,newVar,newRow]
  ·exact hl.elim
 ·exact hl.elim
end
end Go.Ev
namespace Go.Ev
def B9:ADh->Nat->Array Value->Array Value
 | [],_,arr=>arr
 |v::r,o,arr=>B9 r (o+1) (arr.setIfInBounds o v)
theorem Ak:∀(vs:ADh)(o:Nat)(arr:Array Value),(B9 vs o arr).size=arr.size
 | [],_,_=>rfl
 |v::r,o,arr=>by rw[B9,Ak r];simp
theorem CX:∀(vs:ADh)(o:Nat)(arr:Array Value),o+vs.length<=arr.size->∀k,(B9 vs o arr)[k]?=if o<=k/\k<o+vs.length then vs[k-o]? else arr[k]?
 | [],o,arr,h,k=>by rw[B9,AAQ OF]
 |v::r,o,arr,h,k=>by simp only[ABG]at h;rw[B9,CX r (o+1) _ ADg k,AAw];grind
structure NI(w w':World)(b:Nat)(arr':Array Value)(T:TypeId)(fr:Nat×Nat):Prop where
 here:w'.heap[b]?=some (.cells arr' T fr)
 CI:∀c,c≠b->w'.heap[c]?=w.heap[c]?
 size:w'.heap.size=w.heap.size
 rest:w'.os=w.os/\w'.tape=w.tape/\w'.output=w.output
theorem F8(b:Nat){T:TypeId}{fr:Nat×Nat}:∀(vs:ADh)(o:Nat)(w:World)(arr:Array Value),w.heap[b]?=some (.cells arr T fr)->NI w (w.setCells b o vs) b (B9 vs o arr) T fr
 | [],o,w,arr,h=>⟨h,λ_ _=>rfl,rfl,rfl,rfl,rfl⟩
 |v::r,o,w,arr,h=>by
  have h1:(w.setCell ⟨b,o,none⟩ v).heap[b]?=some (.cells (arr.setIfInBounds o v) T fr):=by rw[setCell_eq_setRow w b o arr T fr v h];exact setRow_heap w b arr _ T fr h
  have ih:=F8 b r (o+1) _ _ h1;refine⟨ih.here,λc hc=>(ih.CI c hc).trans ?_,ih.size.trans ?_,ih.rest⟩
  ·rw[setCell_eq_setRow w b o arr T fr v h];exact setRow_other w b c _ hc
  ·rw[setCell_eq_setRow w b o arr T fr v h];exact setRow_size w b _
theorem Db{P:Program}{w:World}{b o:Nat}{arr:Array Value}{T:TypeId}{fr:Nat×Nat}(vs:ADh)(h:w.heap[b]?=some (.cells arr T fr))(hb:∀j,j<arr.size->¬(fr.1<=j/\j<fr.2))(hl:o+vs.length<=arr.size)(h1:∀v∈vs,v.oneCell'=true):
  ∃w',(storeCells ⟨b,o,none⟩ vs).run P w=.ok () w'/\NI w w' b (B9 vs o arr) T fr:=by
 refine⟨_,run_storeCells_cells b o vs 0 w ?_ ?_ h1,?_⟩
 ·intro j hj;simp only[World.cell?,h];simp;omega
 ·intro j hj;have:=hb (o+0+j) J;obtain⟨lo,hi⟩:=fr;simp only[World.frozen?,h];grind
 ·exact F8 b vs o w arr h
theorem L.Dm:∀(l:L) {d:Nat} {w:World} {fz:Nat->Prop} {v:Value} {x:l.D} {o:Is},l.rd d w fz v x o->v.oneCell'=true
 | .int _,_,_,_,_,_,_,h=>by rw[h.1];rfl
 | .bool,_,_,_,_,_,_,h=>by rw[h.1];rfl
 | .str,_,_,_,_,_,_,h=>by rw[h.1];rfl
 | .sl _ e,_,_,_,_,_,_,h=>by obtain⟨A,c,hv,_⟩:=h;rw[hv];rfl
theorem Ls.LG:∀(e:Ls) {d:Nat} {w:World} {fz:Nat->Prop} {g:Nat->Option Value} {x:e.D} {o:Is},e.rd d w fz g x o->∀j,j<e.n->∃v,g j=some v/\v.oneCell'=true
 | .nil,_,_,_,_,_,_,h,j,hj=>by simp[Ls.n]at hj
 | .one l,_,_,_,_,_,_,h,j,hj=>by simp only[Ls.rd]at h;obtain⟨v,hg,h⟩:=h;simp[Ls.n]at hj;subst hj;exact⟨v,hg,L.Dm l h⟩
 | .cons l ls,_,_,_,_,_,_,h,j,hj=>by
  simp only[Ls.rd]at h;obtain⟨v,o1,o2,hg,h1,h2,_⟩:=h;cases j with
  |zero=>exact⟨v,hg,L.Dm l h1⟩
  |succ j=>exact Ls.LG ls h2 j (by simp[Ls.n]at hj;omega)
theorem Ls.BB:∀(e:Ls) {d:Nat} {w:World} {fz:Nat->Prop} {g g':Nat->Option Value} {x:e.D} {o:Is},e.rd d w fz g x o->(∀j,j<e.n->g' j=g j)->e.rd d w fz g' x o
 | .nil,_,_,_,_,_,_,_,h,_=>h
 | .one l,_,_,_,_,_,_,_,h,hg=>by simp only[Ls.rd]at h ⊢;obtain⟨v,h0,h⟩:=h;exact⟨v,(hg 0 (by simp[Ls.n])).trans h0,h⟩
 | .cons l ls,_,_,_,_,_,_,_,h,hg=>by
  simp only[Ls.rd]at h ⊢;obtain⟨v,o1,o2,h0,h1,h2,ho⟩:=h;exact⟨v,o1,o2,(hg 0 (by simp[Ls.n])).trans h0,h1,Ls.BB ls h2 λj hj=>hg (j+1) (by simp[Ls.n];omega),ho⟩
theorem L.AZ:∀(l:L) {d d':Nat} {w w':World} {fz yw:Nat->Prop} {v:Value} {x:l.D} {o:Is},Bx l=false->l.rd d w fz v x o->l.rd d' w' yw v x o/\o=[]
 | .int _,_,_,_,_,_,_,_,_,_,_,h=>⟨h,h.2⟩
 | .bool,_,_,_,_,_,_,_,_,_,_,h=>⟨h,h.2⟩
 | .str,_,_,_,_,_,_,_,_,_,_,h=>⟨h,h.2⟩
 | .sl _ e,_,_,_,_,_,_,_,_,_,hs,h=>by simp[Bx]at hs
theorem Ls.AZ:∀(e:Ls) {d d':Nat} {w w':World} {fz yw:Nat->Prop} {g:Nat->Option Value} {x:e.D} {o:Is},Br e=true->e.rd d w fz g x o->e.rd d' w' yw g x o/\o=[]
 | .nil,_,_,_,_,_,_,_,_,_,_,h=>⟨h,h⟩
 | .one l,_,_,_,_,_,_,_,_,_,hs,h=>by simp only[Ls.rd]at h ⊢;obtain⟨v,h0,h⟩:=h;simp[Br]at hs;obtain⟨a,b⟩:=L.AZ l hs h;exact⟨⟨v,h0,a⟩,b⟩
 | .cons l ls,_,_,_,_,_,_,_,_,_,hs,h=>by simp only[Ls.rd]at h ⊢;obtain⟨v,o1,o2,h0,h1,h2,ho⟩:=h;simp[Br]at hs;obtain⟨a,b⟩:=L.AZ l hs.1 h1;obtain⟨a',b'⟩:=Ls.AZ ls hs.2 h2;exact⟨⟨v,o1,o2,h0,a,a',ho⟩,No⟩
def CB(e:Ls)(d:Nat)(w:World)(fz:Nat->Prop)(g:Nat->Option Value)(xs:List e.D)(os:Nat->Is):Prop:=
 ∀i (h:i<xs.length),e.rd d w fz (λj=>g (i*e.n+j)) xs[i] (os i)
section
variable {e:Ls}{d:Nat}{w w':World}{fz yw:Nat->Prop}{g g':Nat->Option Value}{xs ys:List e.D}{os zn:Nat->Is}
theorem Kq{i n j m:Nat}(hi:i<m)(hj:j<n):i*n+j<m*n:=by have:(i+1)*n<=m*n:=AAo n hi;grind
theorem CB.cell(h:CB e d w fz g xs os)(k:Nat)(hk:k<xs.length*e.n):∃v,g k=some v/\v.oneCell'=true:=by
 have hn:0<e.n:=by
             rcases Nat.eq_zero_or_pos e.n with h0|h0;· rw[h0]at hk;simp at hk
             ·exact h0
 have hi:k / e.n<xs.length:=Nat.div_lt_of_lt_mul (by rwa[Nat.mul_comm]at hk);obtain⟨v,hv,h1⟩:=Ls.LG e (h _ hi) (k%e.n) (Nat.mod_lt _ hn);have:k / e.n*e.n+k%e.n=k:=Nat.div_add_mod' _ _;grind
theorem CB.congr(h:CB e d w fz g xs os)(hg:∀k,k<xs.length*e.n->g' k=g k):CB e d w fz g' xs os:=
 λi hi=>Ls.BB e (h i hi) λj hj=>hg _ (Kq hi hj)
theorem CB.frame(h:CB e d w fz g xs os)(hf:∀b,(∃i,i<xs.length/\b∈os i)\/fz b->w'.heap[b]?=w.heap[b]?)(hz:∀b,fz b->yw b):CB e d w' yw g xs os:=
 λi hi=>Ls.AI e (h i hi) (λb hb=>hf b (hb.imp (λhb=>⟨i,hi,hb⟩) id)) hz
theorem CB.flat(hf:Br e=true)(h:CB e d w fz g xs os)(d':Nat)(w':World)(yw:Nat->Prop):CB e d' w' yw g xs λ_=>[]:=λi hi=>by obtain⟨a,b⟩:=Ls.AZ e hf (h i hi) (d':=d') (w':=w') (yw:=yw);grind
theorem CB.append(h1:CB e d w fz g xs os)(h2:CB e d w fz (λk=>g (xs.length*e.n+k)) ys zn):CB e d w fz g (xs++ys) λi=>if i<xs.length then os i else zn (i-xs.length):=by
 intro i hi;by_cases h:i<xs.length
 ·simp only[AAP h];rw[List.getElem_append_left h];exact h1 i h
 ·simp only[AAQ h];rw[List.getElem_append_right (AAy h)];have:=h2 (i-xs.length) No;refine Ls.BB e this λj hj=>?_;show g (i*e.n+j)=g (xs.length*e.n+((i-xs.length)*e.n+j));congr 1;have:i*e.n=xs.length*e.n+(i-xs.length)*e.n:=by rw[<-AAm];congr 1;omega
  omega
theorem Gs{ad:Addr}{arr:Array Value}{T:TypeId}{fr:Nat×Nat}{c:Nat}(hh:w.heap[ad.block]?=some (.cells arr T fr))(hs:ad.spot=none)(hb:∀j,j<arr.size->¬(fr.1<=j/\j<fr.2))
  (hc:ad.off+c*e.n<=arr.size) (hl:xs.length<=c) (zN:CB e 2 w fz (λk=>arr[ad.off+k]?) xs os):
  AD e 2 w fz (.slice (some ad) xs.length c) xs (ad.block::(List.range xs.length).flatMap os):=
 ⟨some ad,c,rfl,hl,.inr ⟨λk=>arr[ad.off+k]?,os,⟨hs,arr,T,fr,hh,hc,λ_=>hb,λj=>rfl⟩,zN,rfl⟩⟩
theorem AD.Kb{v:Value}{o:Is}(h:AD e d w fz v xs o):∃A c,v=.slice A xs.length c/\xs.length<=c/\(A=none->c=0/\o=[])/\
  ∀ad,A=some ad->(0<c\/0<d)->∃arr T fr os,ad.spot=none/\w.heap[ad.block]?=some (.cells arr T fr)/\ad.off+c*e.n<=arr.size/\(0<d->∀j,j<arr.size->¬(fr.1<=j/\j<fr.2))/\
   CB e (dec d) w fz (λk=>arr[ad.off+k]?) xs os/\(0<d->o=ad.block::(List.range xs.length).flatMap os)/\(d=0->fz ad.block/\∀i,i<xs.length->os i=[]):=by
 obtain⟨A,c,hv,hc,h⟩:=h;refine⟨A,c,hv,hc,?_,?_⟩
 ·grind
 ·intro ad hA hpos;subst hA;rcases h with h|⟨g,os,⟨hs,arr,T,fr,hh,hn,hb,hg⟩,zN,ho⟩
  ·obtain⟨h1,h2,_⟩:=h;have h1:¬0<d:=AD2
   omega
  refine⟨arr,T,fr,os,hs,hh,hn,λhd=>hb (by simpa using hd),?_,?_,?_⟩
  ·intro i hi;refine Ls.BB e (zN i hi) λj _=>(hg _).symm
  all_goals grind
def BT(g:Nat->Option Value)(m:Nat):ADh:=(List.range m).map λj=>(g j).getD Go.undef
theorem AL(g:Nat->Option Value)(m:Nat):(BT g m).length=m:=by simp[BT]
theorem Bg{m:Nat}(h:∀k,k<m->∃v,g k=some v/\v.oneCell'=true)(k:Nat)(hk:k<m):(BT g m)[k]?=g k:=by obtain⟨v,hv,_⟩:=h k hk;simp[BT,hk,hv]
theorem FT{m:Nat}(h:∀k,k<m->∃v,g k=some v/\v.oneCell'=true):∀v∈BT g m,v.oneCell'=true:=by intro v hv;obtain⟨k,hk,rfl⟩:=AAt.1 hv;grind
end
theorem L.GF:∀(l:L) {d:Nat} {w:World} {fz:Nat->Prop},l.rd d w fz (CL l) (LQ l) []
 | .int _,_,_,_=>⟨rfl,rfl⟩
 | .bool,_,_,_=>⟨rfl,rfl⟩
 | .str,_,_,_=>⟨rfl,rfl⟩
 | .sl _ e,_,_,_=>Bz
theorem Ls.GF:∀(e:Ls) {d:Nat} {w:World} {fz:Nat->Prop} {g:Nat->Option Value},(∀j,j<e.n->g j=(e.kinds.map CL)[j]?)->e.rd d w fz g (Fg e) []
 | .nil,_,_,_,_,_=>rfl
 | .one l,_,_,_,_,hg=>by simp only[Ls.rd];exact⟨CL l,(hg 0 (by simp[Ls.n])).trans rfl,L.GF l⟩
 | .cons l ls,_,_,_,_,hg=>by
  simp only[Ls.rd];exact⟨CL l,[],[],(hg 0 (by simp[Ls.n])).trans rfl,L.GF l,Ls.GF ls λj hj=>(hg (j+1) (by simp[Ls.n];omega)).trans (by simp[Ls.kinds]),rfl⟩
end Go.Ev
namespace Go.Ev
theorem DL{P:Program}{w w':World}(t ty e:TypeId)(i:TypeInfo)(ht:P.underlying t=some (.slice e))(hi:P.info? e=some i)(b:Addr)(sLen sCap:Nat)(A:Option Addr)(n c:Nat)(news:ADh)
  (hf:(Builtin.firstCells i.size n (.slice A n c)).run P w=.ok news.toArray w) (zb:sLen+n<=sCap) (hst:(storeCells (b.add (sLen*i.size)) news).run P w=.ok () w'):
  (Builtin.append_ #[t,t] ty #[.slice (some b) sLen sCap,.slice A n c]).run P w=.ok (.slice (some b) (sLen+n) sCap) w':=by
 simp[Builtin.append_,run_underlying ht,sizeOf,typeInfo,hi,Builtin.lenOf,zb,hf,hst]
theorem Ct{P:Program}{w:World}(t ty e:TypeId)(i:TypeInfo)(ht:P.underlying t=some (.slice e))(hi:P.info? e=some i)(sCap:Nat)(A:Option Addr)(c:Nat)(news:ADh)
  (hf:(Builtin.firstCells i.size 0 (.slice A 0 c)).run P w=.ok news.toArray w):
  (Builtin.append_ #[t,t] ty #[.slice none 0 sCap,.slice A 0 c]).run P w=.ok (.slice none 0 sCap) w:=by
 simp[Builtin.append_,run_underlying ht,sizeOf,typeInfo,hi,Builtin.lenOf,hf]
theorem EB{α β:Type}:∀l:List α,(l.flatMap λ_=>([]:List β))=[]
 | []=>rfl
 |_::l=>by simp[EB l]
section
variable {P:Program}{E:Cy}{s:St}{W:Wd}{o:Oper}{a:Act}{ws:List Wr}{cx:Cx}{v:Nat}
theorem Mb(e:Ls)(m k:Nat)(hk:k<m):(madeCells (e.kinds.map CL).toArray m)[k]?=some ((e.kinds.map CL).toArray[k%e.n]!):=by simp[madeCells,hk,A8]
theorem Ma(e:Ls)(hp:0<e.n)(n:Nat){d:Nat}{w:World}{fz:Nat->Prop}:CB e d w fz (λk=>(madeCells (e.kinds.map CL).toArray (n*e.n))[0+k]?) (List.replicate n (Fg e)) λ_=>[]:=by intro i hi;rw[List.getElem_replicate];refine Ls.GF e λj hj=>?_;simp only[AAY];rw[Mb e _ _ (Kq No hj),Nat.mul_add_mod',Nat.mod_eq_of_lt hj];simp[A8,hj]
theorem Jd(hc:Dt P cx)(h:AU E s a.tmps W)(hv:Ad s v){t:TypeId}{x y:Operand}(ho:o.op=.makeSlice t x y)(hd:∀d,o.dst=some d->d<a.tmps.size)(hl:(AB cx v o s).leads ws):Bc P E o a W.w (s.app ws):=by
 simp only[AB,ho]at hl;split at hl
 ·rename_i ty d ht zl;split at hl
  ·exact hl.elim
  ·rename_i hag;split at hl
   ·rename_i t' e hls;obtain⟨kl,n,hx,hl⟩:=EW (Ac h x) hl;obtain⟨kc,m,hy,hl⟩:=EW (Ac h y) hl;rcases Ag hl with⟨hb,hl⟩|⟨_,hl⟩
    ·simp only[AAJ,AAf]at hb;obtain⟨⟨h0,h1⟩,rfl⟩:=hb;obtain⟨za,zN⟩:=(Cm hc ht hls No:Gb P t (.sl t' e));obtain⟨i,hi,zO,hby,z,hz,hzc⟩:=zN.info;have h1':m<=68719476736:=h1
     have zF:=run_make (P:=P) W.w t t' i z za hi hz kl kc m m h0 (Int.le_refl _)
      (Int.le_trans (Int.mul_le_mul (show(i.bytes:Int)<=1024 by omega) h1' h0 ADj) ADj) J
     rw[hzc,zO]at zF
     obtain⟨W',hW',yu⟩:=h.Cr hv [] (hd d zl) (t0:=t') (e:=e) (xs:=List.replicate m.toNat (Fg e)) (dd:=2) (u:=.slice (some ⟨W.w.heap.size,0,none⟩) m.toNat m.toNat) (w':=W.w.alloc (.cells (madeCells (e.kinds.map CL).toArray (m.toNat*e.n)) t')) (o:=[W.w.heap.size]) (El h _) (λb hb _=>A7 _ _ ADv) (by rw[Ax];omega) ⟨rfl,rfl,rfl⟩
      (by
       have:=Gs (e:=e) (w:=W.w.alloc (.cells (madeCells (e.kinds.map CL).toArray (m.toNat*e.n)) t')) (fz:=W.fz) (ad:=⟨W.w.heap.size,0,none⟩) (c:=m.toNat) (xs:=List.replicate m.toNat (Fg e)) (os:=λ_=>[])
        (heap_alloc_new _ _) rfl J (by simp[size_madeCells]) OF (Ma e zN.pos m.toNat)
       simpa[EB]using this) OF (λb hb=>by simp at hb;subst hb;exact .inr ⟨AAc _,by rw[Ax];omega⟩)
     have hl:_=ws:=hl;rw[<-hl];refine Be h zl ?_ hW' yu;simp[execOp,ho,hx,hy,zF]
    ·exact hl.elim
   ·exact hl.elim
 ·exact hl.elim
def Ke(P:Program)(s:St)(W:Wd)(e:Ls)(u:Value)(ys:List e.D)(us:List (Nat×Nat)):Prop:=
 ∃A c g os,u=.slice A ys.length c/\(A=none->ys=[])/\(∀ad,A=some ad->ys≠[]->ad.spot=none/\∀k,W.w.cell? (at_ ad k)=g k)/\CB e 2 W.w W.fz g ys os/\((List.range ys.length).flatMap os).Nodup/\
  (∀i,i<ys.length->∀b∈os i,∃r j,(r,j)∈us/\b∈W.om (.lf r j))/\us.Nodup
theorem JX(h:AU E s a.tmps W){la:LA}{u:Value}(hu:AQ s W la u){t:TypeId}{e:Ls}{β:Type}{k:List e.D->List (Nat×Nat)->Step β}{z:β}(hl:(Eh cx s la t e k).leads z):
  ∃ys us,(k ys us).leads z/\Ke P s W e u ys us:=by
 unfold Eh at hl;split at hl
 ·rename_i hf;obtain⟨ys,hl,hr⟩:=Bk h hu hl;refine⟨ys,[],hl,?_⟩;obtain⟨A,c,hv,hc,hn,zZ⟩:=AD.Kb (L.Kx.1 hr);cases A with
  |none=>
   have:ys=[]:=AAO No;subst this;exact⟨none,c,λ_=>none,λ_=>[],hv,λ_=>rfl,(λad had _=>by cases had),(λi hi=>by simp at hi),OF,(λi hi=>by simp at hi),AAR⟩
  |some ad=>
   by_cases hc0:c=0
   ·have:ys=[]:=AAO J;subst this;exact⟨some ad,c,λ_=>none,λ_=>[],hv,λ_=>rfl,(λad had zD=>absurd rfl zD),(λi hi=>by simp at hi),OF,(λi hi=>by simp at hi),AAR⟩
   obtain⟨arr,T,fr,os,hs,hh,_,_,zN,_,_⟩:=zZ ad rfl (.inl J);refine⟨some ad,c,_,_,hv,(λhA=>by cases hA),?_,CB.flat hf zN 2 W.w W.fz,No,(λi hi b hb=>by cases hb),AAR⟩;intro ad' had _;injection had with had;subst had
   exact⟨hs,λk=>by simp[World.cell?,at_,hh]⟩
 ·split at hl
  ·rename_i c;split at hl
   ·rename_i AA gen t' e' xs d yr;split at hl
    ·rename_i zB;simp only[AAJ,AAT,AAU]at zB;obtain⟨⟨⟨zC,hp⟩,hpin⟩,hd⟩:=zB;subst zC;subst hd;have hp:c.p=[]:=by cases hq:c.p<;>simp_all[isNil]
     split at hl
     ·rename_i ys hys;obtain⟨h1,h2⟩:=L.AH hys;cases h1;have h2:xs=ys:=h2;subst h2;obtain⟨h',e',zW,hn⟩:=hu gen _ _ _ _ yr (.inl hp);rw[hp]at hn;obtain⟨rfl,rfl⟩:=hn;obtain⟨u',zG,zE⟩:=(h.roots c.r).row yr;rw[zW]at zG;injection zG with zG;subst zG
      refine⟨xs,_,hl,?_⟩;obtain⟨A,cc,hv,hc,hn,zZ⟩:=zE.Kb;cases A with
      |none=>
       have:xs=[]:=AAO No;subst this;exact⟨none,cc,λ_=>none,λ_=>[],hv,λ_=>rfl,(λad had _=>by cases had),(λi hi=>by simp at hi),OF,(λi hi=>by simp at hi),OF⟩
      |some ad=>
       obtain⟨arr,T,fr,os,hs,hh,_,_,zN,ho,_⟩:=zZ ad rfl (.inr ADj);have ho:=ho ADj;have hnd:=h.sep.nodup (.lf c.r c.j);rw[ho]at hnd;refine⟨some ad,cc,_,os,hv,(λhA=>by cases hA),?_,zN,(AAa.1 hnd).2,?_,OF⟩
       ·intro ad' had _;injection had with had;subst had
        exact⟨hs,λk=>by simp[World.cell?,at_,hh]⟩
       grind
     ·exact hl.elim
    ·exact hl.elim
   ·exact hl.elim
  ·exact hl.elim
theorem La{w:World}{fz:Nat->Prop}{v:Value}{xs:By}{d:Nat}{oo:Is}{t1 t2 t0:TypeId}(e1:P.underlying t1=some (.slice t0))(e2:P.underlying t2=some .string)(e0:P.underlying t0=some (.int .u8))
  (hr:AD (.one (.int .u8)) d w fz v xs oo):(convert t1 t2 v).run P w=.ok (.string ⟨(bytesOf xs).toArray⟩) w:=by
 obtain⟨A,c,hv,zg,hnone,zZ⟩:=hr.Kb;have hv:v=.slice A (List.length (α:=Int) xs) c:=hv;have zg:List.length (α:=Int) xs<=c:=zg;rw[hv];cases A with
 |none=>
  obtain⟨hc0,_⟩:=hnone rfl;have hx0:xs=[]:=AAO J;subst hx0;rw[run_convert_bytes_nil w t1 t0 e1 e0 _ _ t2 e2];rfl
 |some ad=>
  by_cases hpos:0<c
  ·obtain⟨arr,T,fr,os,hs,hh,zO,_,zN,_⟩:=zZ ad rfl (.inl hpos);obtain⟨b,off,sp⟩:=ad;dsimp only at hs hh zO zN;subst hs
   rw[run_convert_bytes_arg w t1 t0 e1 e0 b off (List.length (α:=Int) xs) c xs rfl (λi hi=>by
    obtain⟨y,hy,hr2⟩:=zN i hi;have hy:arr[off+(i*1+0)]?=some y:=hy;have hy2:y=.int .u8 (xs[i]'hi):=hr2.1;simp only[World.cell?,hh];grind) t2 e2]
   rfl
  ·have hx0:xs=[]:=AAO J;subst hx0;rw[run_convert_bytes_string w t1 t2 t0 (some ad) _ c e1 e0 e2]
   have:=run_bytesToString (P:=P) w ad 0 c [] (by
    have:=run_loadCells_list (P:=P) (w:=w) ad [] (λj v hj=>by simp at hj);grind)
   exact this
theorem Ks(hc:Dt P cx)(h:AU E s a.tmps W){t1 t2:TypeId}{x:Operand}(ho:o.op=.convert t1 t2 x)(hl:(AB cx v o s).leads ws):Bc P E o a W.w (s.app ws):=by
 simp only[AB,ho]at hl;have h1:=Ac h x;generalize s.Ai x=p at hl h1;split at hl
 ·rename_i ta ty k0 n hta ht;split at hl
  ·exact hl.elim
  ·rename_i hag;split at hl
   ·rename_i k hls;rw[AM hl];have hu:P.underlying t2=some (.int k):=Cm hc ht hls No
    have hd:∃d,P.underlying t1=some d:=by
     cases hg:ta.agg with
     |true=>obtain⟨fs,hfs,_⟩:=(hc _ _ hta).agg hg;grind
     |false=>obtain⟨l,_,hlo⟩:=(hc _ _ hta).lone hg;obtain⟨d,hd,_⟩:=hlo.JZ;grind
    obtain⟨d,hd⟩:=hd;refine AR h (u:=.int k (k.wrap n)) ?_ (Bi _ _);have e1:a.eval x=.int k0 n:=h1.1;simp only[execOp,ho,convert,Sem.run_bind,run_underlying hd,run_underlying hu,Result.andThen_ok,e1];simp[Conv.intToInt]
   ·exact hl.elim
 ·rename_i ta ty p hta ht hno;split at hl
  ·exact hl.elim
  ·rename_i hag;simp only[AAe,not_or,Bool.not_eq_true]at hag;obtain⟨hg1,hg2⟩:=hag;split at hl
   ·rename_i t0 hls1 hls2;split at hl
    ·rename_i hu8;have e1:P.underlying t1=some (.slice t0):=(Cm hc hta hls1 hg1).1;have e2:P.underlying t2=some .string:=Cm hc ht hls2 hg2
     have e0:P.underlying t0=some (.int .u8):=by
      unfold Il at hu8;split at hu8
      ·rename_i ty0 hty0;simp only[AAJ,AAU]at hu8;exact Cm hc hty0 (Ls.Dw hu8.2) hu8.1
      ·cases hu8
     obtain⟨xs,hl,hr⟩:=Bk h h1 hl;rw[AM hl];have zF:=La e1 e2 e0 (xs:=xs) hr;refine AR h (u:=.string ⟨(bytesOf xs).toArray⟩) ?_ (Kz _);simp[execOp,ho,zF]
    ·exact hl.elim
   ·exact hl.elim
 ·exact hl.elim
end
end Go.Ev
