/- A plain evaluator for Go's loaded code,and that it is sound;part 1. Conditions: none. -/
import Derived.Calls
import Derived.Orders
import Derived.Below
import Derived.Sort.Defs
import Derived.Laws.Rows
import Derived.Laws.Small
import Derived.Laws.StructEq
import Derived.Laws.Concat
import Derived.Laws.IdiomCopy
import Derived.Deep.MidRow
import Derived.Tactics
import Derived.WalkKit
import Derived.Laws.MakeOwn
import Derived.Laws.Append
set_option linter.all false
namespace Go.Ev
theorem AAF:type_of% @List.getElem?_eq_getElem:=@List.getElem?_eq_getElem
theorem AAG:type_of% @Bool.and_eq_true:=@Bool.and_eq_true
theorem AAH:type_of% @List.getElem?_eq_some_iff:=@List.getElem?_eq_some_iff
theorem AAI:type_of% @List.mem_flatMap:=@List.mem_flatMap
theorem AAJ:type_of% @List.mem_cons_of_mem:=@List.mem_cons_of_mem
theorem AAK:type_of% @if_pos:=@if_pos
theorem AAL:type_of% @List.nodup_nil:=@List.nodup_nil
theorem AAM:type_of% @if_neg:=@if_neg
theorem AAN:type_of% @List.mem_of_getElem?:=@List.mem_of_getElem?
theorem AAO:type_of% @List.mem_append_right:=@List.mem_append_right
theorem AAP:type_of% @List.eq_nil_of_length_eq_zero:=@List.eq_nil_of_length_eq_zero
theorem AAQ:type_of% @List.mem_append_left:=@List.mem_append_left
theorem AAR:type_of% @List.mem_range:=@List.mem_range
theorem AAS:type_of% @beq_iff_eq:=@beq_iff_eq
theorem AAT:type_of% @Bool.not_eq_true':=@Bool.not_eq_true'
theorem AAU:type_of% @List.all_eq_true:=@List.all_eq_true
theorem AAV:type_of% @List.nodup_append:=@List.nodup_append
theorem AAW:type_of% @Nat.zero_add:=@Nat.zero_add
theorem AAX:type_of% @List.getElem?_map:=@List.getElem?_map
theorem AAY:type_of% @List.nodup_cons:=@List.nodup_cons
theorem AAZ:type_of% @List.mem_cons:=@List.mem_cons
theorem AAa:type_of% @Bool.or_eq_true:=@Bool.or_eq_true
theorem AAb:type_of% @decide_eq_true_eq:=@decide_eq_true_eq
theorem AAc:type_of% @Array.getElem?_eq_getElem:=@Array.getElem?_eq_getElem
theorem AAd:type_of% @Nat.le_refl:=@Nat.le_refl
theorem AAe:type_of% @List.mem_cons_self:=@List.mem_cons_self
theorem AAf:type_of% @decide_eq_false_iff_not:=@decide_eq_false_iff_not
theorem AAg:type_of% @Array.getD_eq_getD_getElem?:=@Array.getD_eq_getD_getElem?
theorem AAh:type_of% @Bool.or_eq_false_iff:=@Bool.or_eq_false_iff
theorem AAi:type_of% @List.flatten_cons:=@List.flatten_cons
theorem AAj:type_of% @List.flatMap_cons:=@List.flatMap_cons
theorem AAk:type_of% @Nat.add_mul:=@Nat.add_mul
theorem AAl:type_of% @Array.getElem?_append_left:=@Array.getElem?_append_left
theorem AAm:type_of% @Nat.mul_le_mul_right:=@Nat.mul_le_mul_right
theorem AAn:type_of% @Classical.byContradiction:=@Classical.byContradiction
theorem AAo:type_of% @Nat.lt_or_ge:=@Nat.lt_or_ge
theorem AAp:type_of% @List.getElem?_of_mem:=@List.getElem?_of_mem
theorem AAq:type_of% @of_decide_eq_true:=@of_decide_eq_true
theorem AAr:type_of% @Nat.add_zero:=@Nat.add_zero
theorem AAs:type_of% @List.mem_map:=@List.mem_map
theorem AAt:type_of% @Array.getElem?_eq_some_iff:=@Array.getElem?_eq_some_iff
theorem AAu:type_of% @List.getElem?_append_left:=@List.getElem?_append_left
theorem AAv:type_of% @List.getElem?_eq_none:=@List.getElem?_eq_none
theorem AAw:type_of% @Nat.le_trans:=@Nat.le_trans
theorem AAx:type_of% @List.getElem?_cons_succ:=@List.getElem?_cons_succ
theorem AAy:type_of% @List.mem_append:=@List.mem_append
theorem AAz:type_of% @Array.getElem?_setIfInBounds:=@Array.getElem?_setIfInBounds
theorem AA0:type_of% @Option.getD_some:=@Option.getD_some
theorem AA1:type_of% @Nat.le_of_not_lt:=@Nat.le_of_not_lt
theorem AA2:type_of% @List.length_append:=@List.length_append
theorem AA3:type_of% @List.getElem?_append_right:=@List.getElem?_append_right
theorem AA4:type_of% @List.nil_append:=@List.nil_append
theorem AA5:type_of% @List.drop_left:=@List.drop_left
theorem AA6:type_of% @List.any_eq_true:=@List.any_eq_true
theorem AA7:type_of% @Nat.lt_of_lt_of_le:=@Nat.lt_of_lt_of_le
theorem AA8:type_of% @List.mem_singleton:=@List.mem_singleton
theorem AA9:type_of% @Option.map_some:=@Option.map_some
theorem ABA:type_of% @List.mem_or_eq_of_mem_set:=@List.mem_or_eq_of_mem_set
theorem ABB:type_of% @List.length_map:=@List.length_map
theorem ABC:type_of% @Bool.false_eq_true:=@Bool.false_eq_true
theorem ABD:type_of% @List.size_toArray:=@List.size_toArray
theorem ABE:type_of% @Classical.not_not:=@Classical.not_not
theorem ABF:type_of% @Array.size_append:=@Array.size_append
theorem ABG:type_of% @List.length_cons:=@List.length_cons
theorem ABH:type_of% @List.cons_append:=@List.cons_append
theorem ABI:type_of% @Array.toList_map:=@Array.toList_map
theorem ABJ:type_of% @Array.size_range:=@Array.size_range
theorem ABK:type_of% @List.map_cons:=@List.map_cons
theorem ABL:type_of% @Nat.mul_le_mul:=@Nat.mul_le_mul
theorem ABM:type_of% @Nat.lt_or_gt_of_ne:=@Nat.lt_or_gt_of_ne
theorem ABN:type_of% @List.getElem?_take:=@List.getElem?_take
theorem ABO:type_of% @List.getElem?_drop:=@List.getElem?_drop
theorem ABP:type_of% @Array.size_map:=@Array.size_map
theorem ABQ:type_of% @List.pairwise_iff_getElem:=@List.pairwise_iff_getElem
theorem ABR:type_of% @Nat.one_mul:=@Nat.one_mul
theorem ABS:type_of% @Option.bind_eq_some_iff:=@Option.bind_eq_some_iff
mutual
inductive L where
 |int (k:IntKind)
 |bool
 |str
 |sl (t:TypeId) (e:Ls)
inductive Ls where
 |nil
 |one (l:L)
 |cons (l:L) (ls:Ls)
end
mutual
def L.D:L→Type
 | .int _=>Int
 | .bool=>Bool
 | .str=>List UInt8
 | .sl _ e=>List e.D
def Ls.D:Ls→Type
 | .nil=>Unit
 | .one l=>l.D
 | .cons l ls=>l.D×ls.D
end
def Ls.n:Ls→Nat
 | .nil=>0
 | .one _=>1
 | .cons _ ls=>ls.n+1
def IntKind.code:IntKind→Nat
 | .i8=>0 | .i16=>1 | .i32=>2 | .i64=>3 | .u8=>4 | .u16=>5 | .u32=>6 | .u64=>7
theorem IntKind.EU{a b:IntKind}(h:IntKind.code a=IntKind.code b):a=b:=by cases a<;>cases b<;>first|rfl|cases h
mutual
def L.eq?:(a b:L)→Bool
 | .int j,.int k=>IntKind.code j==IntKind.code k
 | .bool,.bool=>true
 | .str,.str=>true
 | .sl t e,.sl u f=>t==u&&Ls.eq? e f
 |_,_=>false
def Ls.eq?:(a b:Ls)→Bool
 | .nil,.nil=>true
 | .one a,.one b=>L.eq? a b
 | .cons a as,.cons b bs=>L.eq? a b&&Ls.eq? as bs
 |_,_=>false
end
mutual
theorem L.Du:∀ {a b:L},L.eq? a b=true→a=b
 | .int _,.int _,h=>by simp[L.eq?]at h;rw[IntKind.EU h]
 | .bool,.bool,_=>rfl
 | .str,.str,_=>rfl
 | .sl t e,.sl u f,h=>by simp[L.eq?]at h;rw[h.1,Ls.Du h.2]
 | .int _,.bool,h | .int _,.str,h | .int _,.sl ..,h | .bool,.int _,h | .bool,.str,h | .bool,.sl ..,h | .str,.int _,h | .str,.bool,h | .str,.sl ..,h | .sl ..,.int _,h | .sl ..,.bool,h | .sl ..,.str,h=>by simp[L.eq?]at h
theorem Ls.Du:∀ {a b:Ls},Ls.eq? a b=true→a=b
 | .nil,.nil,_=>rfl
 | .one _,.one _,h=>by simp[Ls.eq?]at h;rw[L.Du h]
 | .cons _ _,.cons _ _,h=>by simp[Ls.eq?]at h;rw[L.Du h.1,Ls.Du h.2]
 | .nil,.one _,h | .nil,.cons ..,h | .one _,.nil,h | .one _,.cons ..,h | .cons ..,.nil,h | .cons ..,.one _,h=>by simp[Ls.eq?]at h
end
structure Lv where
 l:L
 x:l.D
def L.cast{a:L}(b:L)(x:a.D):Option b.D:=if h:L.eq? a b=true then some (L.Du h▸x)else none
def Ls.cast{a:Ls}(b:Ls)(x:a.D):Option b.D:=if h:Ls.eq? a b=true then some (Ls.Du h▸x)else none
theorem L.AH{a b:L}{x:a.D}{y:b.D}(h:L.cast b x=some y):∃e:a=b,e▸x=y:=by
 unfold L.cast at h;split at h
 ·rename_i e;exact⟨L.Du e,by injection h⟩
 ·cases h
theorem Ls.AH{a b:Ls}{x:a.D}{y:b.D}(h:Ls.cast b x=some y):∃e:a=b,e▸x=y:=by
 unfold Ls.cast at h;split at h
 ·rename_i e;exact⟨Ls.Du e,by injection h⟩
 ·cases h
def pack:(ls:Ls)→List Lv→Option ls.D
 | .nil=>fun vs=>match vs with
  | []=>some ()
  |_::_=>none
 | .one l=>fun vs=>match vs with
  | []=>none
  |v::vs=>match vs with
   | []=>L.cast l v.x
   |_::_=>none
 | .cons l ls=>fun vs=>match vs with
  | []=>none
  |v::vs=>match L.cast l v.x with
   |none=>none
   |some x=>match pack ls vs with
    |none=>none
    |some xs=>some (x,xs)
def unpack:(ls:Ls)→ls.D→List Lv
 | .nil,_=>[]
 | .one l,x=>[⟨l,x⟩]
 | .cons l ls,x=>⟨l,x.1⟩::unpack ls x.2
def Ls.kinds:Ls→List L
 | .nil=>[]
 | .one l=>[l]
 | .cons l ls=>l::ls.kinds
theorem CE:∀(ls:Ls)(x:ls.D),(unpack ls x).length=ls.n
 | .nil,_=>rfl
 | .one _,_=>rfl
 | .cons _ ls,x=>by simp[unpack,Ls.n,CE ls x.2]
theorem Aw:∀(ls:Ls)(vs:List Lv)(x:ls.D),pack ls vs=some x→unpack ls x=vs
 | .nil,[],_,_=>rfl
 | .nil,_::_,_,h=>by simp[pack]at h
 | .one l,[],_,h=>by simp[pack]at h
 | .one l,[v],x,h=>by
  simp only[pack]at h;obtain⟨l',y⟩:=v;obtain⟨e,he⟩:=L.AH h
  try dsimp only at e he
  subst e;subst he;rfl
 | .one l,_::_::_,_,h=>by simp[pack]at h
 | .cons l ls,[],_,h=>by simp[pack]at h
 | .cons l ls,v::vs,x,h=>by
  obtain⟨l',y⟩:=v;simp only[pack]at h;split at h
  ·cases h
  ·rename_i a ha;split at h
   ·cases h
   ·rename_i b hb;obtain⟨e,he⟩:=L.AH ha
    try dsimp only at e he
    subst e;subst he;injection h with h;subst h
    simp[unpack,Aw ls vs _ hb]
def Row(w:World)(a:Addr)(n:Nat)(bare:Bool)(g:Nat→Option Value):Prop:=
 a.spot=none∧∃arr T fr,w.heap[a.block]?=some (.cells arr T fr)∧a.off+n≤arr.size∧(bare=true→∀j,j<arr.size→¬(fr.1≤j∧j<fr.2))∧∀j,g j=arr[a.off+j]?
def CR{α:Type}(n:Nat)(R:(Nat→Option Value)→α→List Nat→Prop)(own:Bool)(w:World)(fz:Nat→Prop)(v:Value)(xs:List α)(o:List Nat):Prop:=
 ∃(A:Option Addr) (c:Nat),v=.slice A xs.length c∧xs.length≤c∧
  match A with
  |none=>c=0∧o=[]
  |some a=>(own=false∧c=0∧o=[])∨∃(g:Nat→Option Value) (os:Nat→List Nat),Row w a (c*n) own g∧(∀i (h:i<xs.length),R (fun j=>g (i*n+j)) xs[i] (os i))∧
    match own with
    |true=>o=a.block::(List.range xs.length).flatMap os
    |false=>fz a.block∧o=[]∧∀i,i<xs.length→os i=[]
def dec:Nat→Nat
 |0=>0
 |1=>0
 |d+2=>d+2
mutual
def L.rd:(l:L)→Nat→World→(Nat→Prop)→Value→l.D→List Nat→Prop
 | .int k,_,_,_,v,x,o=>v=.int k x∧o=[]
 | .bool,_,_,_,v,x,o=>v=.bool x∧o=[]
 | .str,_,_,_,v,x,o=>v=.string ⟨x.toArray⟩∧o=[]
 | .sl _ e,d,w,fz,v,x,o=>CR e.n (fun g y o=>e.rd (dec d) w fz g y o) (decide (0<d)) w fz v x o
def Ls.rd:(ls:Ls)→Nat→World→(Nat→Prop)→(Nat→Option Value)→ls.D→List Nat→Prop
 | .nil,_,_,_,_,_,o=>o=[]
 | .one l,d,w,fz,g,x,o=>∃v,g 0=some v∧l.rd d w fz v x o
 | .cons l ls,d,w,fz,g,x,o=>∃v o1 o2,g 0=some v∧l.rd d w fz v x.1 o1∧ls.rd d w fz (fun j=>g (j+1)) x.2 o2∧o=o1++o2
end
theorem L.Iy{t:TypeId}{e:Ls}{d:Nat}{w:World}{fz:Nat→Prop}{v:Value}{x:(L.sl t e).D}{o:List Nat}:
  (L.sl t e).rd d w fz v x o↔CR (α:=e.D) e.n (fun g y o=>e.rd (dec d) w fz g y o) (decide (0<d)) w fz v x o:=Iff.rfl
end Go.Ev
namespace Go.Ev
theorem Row.frame{w w':World}{a:Addr}{n:Nat}{bare:Bool}{g:Nat→Option Value}(h:Row w a n bare g)(e:w'.heap[a.block]?=w.heap[a.block]?):Row w' a n bare g:=by obtain⟨hs,arr,T,fr,hh,hn,hb,hg⟩:=h;exact⟨hs,arr,T,fr,e.trans hh,hn,hb,hg⟩
theorem Row.lt{w:World}{a:Addr}{n:Nat}{bare:Bool}{g:Nat→Option Value}(h:Row w a n bare g):a.block<w.heap.size:=by obtain⟨hs,arr,T,fr,hh,_⟩:=h;exact(AAt.1 hh).1
section
variable {α:Type}{n:Nat}{R R':(Nat→Option Value)→α→List Nat→Prop}{own:Bool}{w w':World}{fz tW:Nat→Prop}{v:Value}{xs:List α}{o:List Nat}
theorem CR.imp(h:CR n R own w fz v xs o)(hf:∀b,b∈o∨fz b→w'.heap[b]?=w.heap[b]?)(hz:∀b,fz b→tW b)
  (hr:∀g x oi,(∀b∈oi,b∈o)→R g x oi→R' g x oi):CR n R' own w' tW v xs o:=by
 obtain⟨A,c,hv,hc,h⟩:=h;refine⟨A,c,hv,hc,?_⟩;cases A with
 |none=>exact h
 |some a=>
  rcases h with h|⟨g,os,tY,uD,ho⟩
  ·exact .inl h
  refine .inr ?_;cases own with
  |true=>
   refine⟨g,os,tY.frame (hf _ (.inl (by rw[ho];simp))),fun i hi=>hr _ _ _ ?_ (uD i hi),ho⟩;intro b hb;rw[ho];exact AAJ _ (AAI.2 ⟨i,AAR.2 hi,hb⟩)
  |false=>
   refine⟨g,os,tY.frame (hf _ (.inr ho.1)),fun i hi=>hr _ _ _ ?_ (uD i hi),hz _ ho.1,ho.2⟩;intro b hb;rw[ho.2.2 i hi]at hb;cases hb
theorem CR.freeze(h:CR n R own w fz v xs o)(hz:∀b,fz b∨b∈o→tW b)(hr:∀g x oi,(∀b∈oi,b∈o)→R g x oi→R' g x []):CR n R' false w tW v xs []:=by
 obtain⟨A,c,hv,hc,h⟩:=h;refine⟨A,c,hv,hc,?_⟩;cases A with
 |none=>exact⟨h.1,rfl⟩
 |some a=>
  rcases h with h|⟨g,os,tY,uD,ho⟩
  ·exact .inl ⟨rfl,h.2.1,rfl⟩
  obtain⟨hs,arr,T,fr,hh,hn,hb,hg⟩:=tY;refine .inr ⟨g,fun _=>[],⟨hs,arr,T,fr,hh,hn,fun h=>by simp at h,hg⟩,fun i hi=>hr _ _ _ ?_ (uD i hi),hz _ ?_,rfl,fun _ _=>rfl⟩
  ·cases own with
   |true=>intro b hb;rw[ho];exact AAJ _ (AAI.2 ⟨i,AAR.2 hi,hb⟩)
   |false=>intro b hb;rw[ho.2.2 i hi]at hb;cases hb
  ·cases own with
   |true=>right;rw[ho];simp
   |false=>exact .inl ho.1
theorem CR.zero(h:CR n R false w fz v xs o):o=[]:=by
 obtain⟨A,c,hv,hc,h⟩:=h;cases A with
 |none=>exact h.2
 |some a=>
  rcases h with h|⟨g,os,tY,uD,ho⟩
  ·exact h.2.2
  ·exact ho.2.1
theorem CR.dep(h:CR n R own w fz v xs o)(hr:∀g x oi,R g x oi→∀b∈oi,b<w.heap.size):∀b∈o,b<w.heap.size:=by
 obtain⟨A,c,hv,hc,h⟩:=h;cases A with
 |none=>rw[h.2];simp
 |some a=>
  rcases h with h|⟨g,os,tY,uD,ho⟩
  ·rw[h.2.2];simp
  cases own with
  |false=>rw[ho.2.1];simp
  |true=>
   intro b hb;rw[ho]at hb;rcases AAZ.1 hb with rfl|hb
   ·exact tY.lt
   ·obtain⟨i,hi,hb⟩:=AAI.1 hb;exact hr _ _ _ (uD i (AAR.1 hi)) b hb
end
mutual
theorem L.AJ:∀(l:L) {d:Nat} {w w':World} {fz tW:Nat→Prop} {v:Value} {x:l.D} {o:List Nat},
  l.rd d w fz v x o→(∀b,b∈o∨fz b→w'.heap[b]?=w.heap[b]?)→(∀b,fz b→tW b)→l.rd d w' tW v x o
 | .int _,_,_,_,_,_,_,_,_,h,_,_=>h
 | .bool,_,_,_,_,_,_,_,_,h,_,_=>h
 | .str,_,_,_,_,_,_,_,_,h,_,_=>h
 | .sl _ e,d,w,w',fz,tW,v,x,o,h,hf,hz=>by rw[L.Iy]at h ⊢;exact CR.imp h hf hz fun g y oi ho hr=>Ls.AJ e hr (fun b hb=>hf b (hb.imp (ho b) id)) hz
theorem Ls.AJ:∀(ls:Ls) {d:Nat} {w w':World} {fz tW:Nat→Prop} {g:Nat→Option Value} {x:ls.D} {o:List Nat},
  ls.rd d w fz g x o→(∀b,b∈o∨fz b→w'.heap[b]?=w.heap[b]?)→(∀b,fz b→tW b)→ls.rd d w' tW g x o
 | .nil,_,_,_,_,_,_,_,_,h,_,_=>h
 | .one l,d,w,w',fz,tW,g,x,o,h,hf,hz=>by simp only[Ls.rd]at h ⊢;obtain⟨v,hg,h⟩:=h;exact⟨v,hg,L.AJ l h hf hz⟩
 | .cons l ls,d,w,w',fz,tW,g,x,o,h,hf,hz=>by simp only[Ls.rd]at h ⊢;obtain⟨v,o1,o2,hg,h1,h2,rfl⟩:=h;exact⟨v,o1,o2,hg,L.AJ l h1 (fun b hb=>hf b (hb.imp (AAQ _) id)) hz,Ls.AJ ls h2 (fun b hb=>hf b (hb.imp (AAO _) id)) hz,rfl⟩
end
mutual
theorem L.Ci:∀(l:L) {d:Nat} {w:World} {fz tW:Nat→Prop} {v:Value} {x:l.D} {o:List Nat},
  l.rd d w fz v x o→(∀b,fz b∨b∈o→tW b)→l.rd 0 w tW v x []
 | .int _,_,_,_,_,_,_,_,h,_=>by simp only[L.rd]at h ⊢;exact⟨h.1,trivial⟩
 | .bool,_,_,_,_,_,_,_,h,_=>by simp only[L.rd]at h ⊢;exact⟨h.1,trivial⟩
 | .str,_,_,_,_,_,_,_,h,_=>by simp only[L.rd]at h ⊢;exact⟨h.1,trivial⟩
 | .sl _ e,d,w,fz,tW,v,x,o,h,hz=>by rw[L.Iy]at h ⊢;exact CR.freeze h hz fun g y oi ho hr=>Ls.Ci e hr fun b hb=>hz b (hb.imp id (ho b))
theorem Ls.Ci:∀(ls:Ls) {d:Nat} {w:World} {fz tW:Nat→Prop} {g:Nat→Option Value} {x:ls.D} {o:List Nat},
  ls.rd d w fz g x o→(∀b,fz b∨b∈o→tW b)→ls.rd 0 w tW g x []
 | .nil,_,_,_,_,_,_,_,_,_=>rfl
 | .one l,d,w,fz,tW,g,x,o,h,hz=>by simp only[Ls.rd]at h ⊢;obtain⟨v,hg,h⟩:=h;exact⟨v,hg,L.Ci l h hz⟩
 | .cons l ls,d,w,fz,tW,g,x,o,h,hz=>by simp only[Ls.rd]at h ⊢;obtain⟨v,o1,o2,hg,h1,h2,rfl⟩:=h;exact⟨v,[],[],hg,L.Ci l h1 (fun b hb=>hz b (hb.imp id (AAQ _))),Ls.Ci ls h2 (fun b hb=>hz b (hb.imp id (AAO _))),rfl⟩
end
mutual
theorem L.Bo:∀(l:L) {w:World} {fz:Nat→Prop} {v:Value} {x:l.D} {o:List Nat},l.rd 0 w fz v x o→o=[]
 | .int _,_,_,_,_,_,h=>h.2
 | .bool,_,_,_,_,_,h=>h.2
 | .str,_,_,_,_,_,h=>h.2
 | .sl _ e,w,fz,v,x,o,h=>by rw[L.Iy]at h;exact CR.zero h
theorem Ls.Bo:∀(ls:Ls) {w:World} {fz:Nat→Prop} {g:Nat→Option Value} {x:ls.D} {o:List Nat},ls.rd 0 w fz g x o→o=[]
 | .nil,_,_,_,_,_,h=>h
 | .one l,w,fz,g,x,o,h=>by simp only[Ls.rd]at h;obtain⟨v,hg,h⟩:=h;exact L.Bo l h
 | .cons l ls,w,fz,g,x,o,h=>by simp only[Ls.rd]at h;obtain⟨v,o1,o2,hg,h1,h2,rfl⟩:=h;rw[L.Bo l h1,Ls.Bo ls h2];rfl
end
mutual
theorem L.GK:∀(l:L) {d:Nat} {w:World} {fz:Nat→Prop} {v:Value} {x:l.D} {o:List Nat},l.rd d w fz v x o→∀b∈o,b<w.heap.size
 | .int _,_,_,_,_,_,_,h=>by simp only[L.rd]at h;rw[h.2];simp
 | .bool,_,_,_,_,_,_,h=>by simp only[L.rd]at h;rw[h.2];simp
 | .str,_,_,_,_,_,_,h=>by simp only[L.rd]at h;rw[h.2];simp
 | .sl _ e,d,w,fz,v,x,o,h=>by rw[L.Iy]at h;exact CR.dep h fun g y oi hr=>Ls.GK e hr
theorem Ls.GK:∀(ls:Ls) {d:Nat} {w:World} {fz:Nat→Prop} {g:Nat→Option Value} {x:ls.D} {o:List Nat},ls.rd d w fz g x o→∀b∈o,b<w.heap.size
 | .nil,_,_,_,_,_,_,h=>by simp only[Ls.rd]at h;rw[h];simp
 | .one l,d,w,fz,g,x,o,h=>by simp only[Ls.rd]at h;obtain⟨v,hg,h⟩:=h;exact L.GK l h
 | .cons l ls,d,w,fz,g,x,o,h=>by
  simp only[Ls.rd]at h;obtain⟨v,o1,o2,hg,h1,h2,rfl⟩:=h;intro b hb;rcases AAy.1 hb with hb|hb
  ·exact L.GK l h1 b hb
  ·exact Ls.GK ls h2 b hb
end
def AD(e:Ls)(d:Nat)(w:World)(fz:Nat→Prop)(v:Value)(xs:List e.D)(o:List Nat):Prop:=
 CR e.n (fun g y o=>e.rd (dec d) w fz g y o) (decide (0<d)) w fz v xs o
theorem L.Kg{t:TypeId}{e:Ls}{d:Nat}{w:World}{fz:Nat→Prop}{v:Value}{x:(L.sl t e).D}{o:List Nat}:
  (L.sl t e).rd d w fz v x o↔AD e d w fz v x o:=Iff.rfl
section
variable {e:Ls}{d:Nat}{w w':World}{fz tW:Nat→Prop}{v:Value}{xs:List e.D}{o:List Nat}
theorem AD.frame(h:AD e d w fz v xs o)(hf:∀b,b∈o∨fz b→w'.heap[b]?=w.heap[b]?)(hz:∀b,fz b→tW b):AD e d w' tW v xs o:=L.AJ (.sl 0 e) h hf hz
theorem AD.freeze(h:AD e d w fz v xs o)(hz:∀b,fz b∨b∈o→tW b):AD e 0 w tW v xs []:=L.Ci (.sl 0 e) h hz
theorem AD.zero(h:AD e 0 w fz v xs o):o=[]:=L.Bo (.sl 0 e) h
theorem AD.dep(h:AD e d w fz v xs o):∀b∈o,b<w.heap.size:=L.GK (.sl 0 e) h
end
end Go.Ev
namespace Go.Ev
structure Loc where
 r:Nat
 j:Nat
 AA:Nat
 gen:Nat
 p:List (Nat×Nat)
inductive LA where
 |bad
 |undef
 |DJ
 |JI
 |sc (l:L) (x:l.D)
 |ref (c:Loc)
 |EF (c:Loc) (lo hi:Nat)
 |ptr (r j AA:Nat)
 |Bn (c:Loc)
 |D9 (e:Ls) (x:e.D) (off:Nat)
 |fn (f:FuncId)
 |JC (t:TypeId) (c:Loc)
 |EI (g:FuncId) (ps qs:List (Nat×Nat))
 |arr (AA gen:Nat) (t:TypeId) (e:Ls) (xs:List e.D) (d:Nat)
inductive AV where
 |v (agg:Bool) (ls:List LA)
 |Dp (vs:List (Bool×List LA))
 |bx (ls:List LA)
structure Bp where
 box:Bool
 AA:Nat
 ls:List LA
structure St where
 sl:List AV
 ro:List Bp
 Bq:Nat
def nth{α:Type}(d:α):List α→Nat→α
 | [],_=>d
 |x::_,0=>x
 |_::xs,n+1=>nth d xs n
def Cb{α:Type}:List α→Nat→α→List α
 | [],_,_=>[]
 |_::xs,0,y=>y::xs
 |x::xs,n+1,y=>x::Cb xs n y
def isNil{α:Type}:List α→Bool
 | []=>true
 |_::_=>false
def has(ms:List Nat)(t:Nat):Bool:=match ms with
 | []=>false
 |m::ms=>m==t||has ms t
def dead:Bp:=⟨false,0,[]⟩
def St.slot(s:St)(t:Nat):AV:=nth (.v false [.bad]) s.sl t
def St.root(s:St)(r:Nat):Bp:=nth dead s.ro r
def St.leaf(s:St)(r j:Nat):LA:=nth .bad (s.root r).ls j
inductive Wr where
 |slot (t:Nat) (a:AV)
 |root (r:Nat) (x:Bp)
 |leaf (r j:Nat) (a:LA)
 |half (r j v:Nat)
def LA.Cj(v:Nat):LA→LA
 | .arr AA _ t e xs (_+1)=>.arr AA v t e xs 1
 |a=>a
def St.AF(s:St):Wr→St
 | .slot t a=>{ s with sl:=Cb s.sl t a }
 | .root r x=>{ s with ro:=Cb s.ro r x }
 | .leaf r j a=>{ s with ro:=Cb s.ro r { s.root r with ls:=Cb (s.root r).ls j a } }
 | .half r j v=>{ s with ro:=Cb s.ro r { s.root r with ls:=Cb (s.root r).ls j ((s.leaf r j).Cj v) } }
def St.app(s:St):List Wr→St
 | []=>s
 |w::ws=>(s.AF w).app ws
inductive Step(β:Type) where
 |none
 |go (s:β)
 |Mp {α:Type} (m:Option α) (f:α→Step β)
 |iff (b:Bool) (x y:Step β)
def Step.run{β R:Type}(k:β→Option R):Step β→Option R
 | .none=>Option.none
 | .go s=>k s
 | .Mp m f=>m.bind fun x=>(f x).run k
 | .iff b x y=>bif b then x.run k else y.run k
def Step.leads{β:Type}(t:β):Step β→Prop
 | .none=>False
 | .go s=>s=t
 | .Mp m f=>∃x,m=some x∧(f x).leads t
 | .iff b x y=>match b with
  |true=>x.leads t
  |false=>y.leads t
theorem Step.C3{β R:Type}{k:β→Option R}{r:R}:∀(s:Step β),s.run k=some r→∃t,s.leads t∧k t=some r
 | .none,h=>by simp[Step.run]at h
 | .go s,h=>⟨s,rfl,h⟩
 | .Mp m f,h=>by
  simp only[Step.run]at h;cases m with
  |none=>simp at h
  |some x=>obtain⟨t,a,b⟩:=Step.C3 (f x) h;exact⟨t,⟨x,rfl,a⟩,b⟩
 | .iff b x y,h=>by
  simp only[Step.run]at h;cases b with
  |true=>obtain⟨t,a,b⟩:=Step.C3 x h;exact⟨t,a,b⟩
  |false=>obtain⟨t,a,b⟩:=Step.C3 y h;exact⟨t,a,b⟩
variable {β:Type}
structure Ty where
 agg:Bool
 ls:Ls
 fs:List (Nat×TypeId)
 eq:Bool
def H2{α:Type}:List α→Nat→Option α
 | [],_=>none
 |x::_,0=>some x
 |_::xs,n+1=>H2 xs n
def E2:List L→Ls
 | []=>.nil
 | [l]=>.one l
 |l::m::r=>.cons l (E2 (m::r))
inductive PM where
 |val (agg:Bool) (ls:List L)
 |box (ls:List (L×Nat))
 |row (agg:Bool) (ls:List (L×Nat))
 |fn (f:FuncId)
def PM.ins:PM→List L
 | .val _ ls=>ls
 | .box ls=>ls.map (·.1)
 | .row _ ls=>ls.map (·.1)
 | .fn _=>[]
def PM.outs:PM→List (L×Nat)
 | .val _ _=>[]
 | .box ls=>ls
 | .row _ ls=>ls
 | .fn _=>[]
structure Sm where
 ps:List PM
 rs:List (Bool×List (L×Nat))
def Sm.ins(s:Sm):Ls:=E2 (s.ps.flatMap PM.ins)
def Sm.Gw(s:Sm):List (L×Nat):=s.rs.flatMap (·.2)++s.ps.flatMap PM.outs
def Sm.outs(s:Sm):Ls:=E2 (s.Gw.map (·.1))
def Sm.mk?(s:Sm):Bool:=match s.rs with
 | [(false,_::_::_)]=>true
 |_=>false
def PM.isVal:PM→Bool
 | .val _ _=>true
 |_=>false
def Sm.plain(s:Sm):Bool:=s.ps.all PM.isVal&&s.Gw.all fun p=>p.2==0
structure Mv where
 s:Sm
 f:s.ins.D→Option s.outs.D
inductive KL where
 |box (ls:List L)
 |EI (g:FuncId) (bs:List (List L))
 |row
def KL.kinds:KL→List L
 | .box ls=>ls
 | .EI _ bs=>bs.flatten
 | .row=>[]
structure OJ where
 t:TypeId
 I9:List KL
 lt:(E2 (I9.flatMap KL.kinds)).D→Int→Int→Option Bool
structure Env where
 fn:FuncId→Option Mv
 Oz:FuncId→FuncId→Option OJ
 Oj:TypeId→Bool
structure Cx where
 ty:TypeId→Option Ty
 env:Env
 lock:Nat→Bool
 FD:Nat→Bool
 KN:Nat→Bool
def JG:(e:Ls)→Nat→e.D→((t:TypeId)→(f:Ls)→List f.D→Step β)→Step β
 | .nil,_,_,_=>.none
 | .one l,0,x,k=>match l,x with
  | .sl t f,xs=>k t f xs
  |_,_=>.none
 | .one _,_+1,_,_=>.none
 | .cons l ls,0,x,k=>match l,x with
  | .sl t f,xs=>k t f xs.1
  |_,_=>.none
 | .cons _ ls,j+1,x,k=>JG ls j x.2 k
def OQ(k:(t:TypeId)→(e:Ls)→List e.D→Nat→Step β):(p:List (Nat×Nat))→(t:TypeId)→(e:Ls)→List e.D→Nat→Step β
 | [],t,e,xs,d=>k t e xs d
 |(i,j)::p,_,e,xs,d=>.Mp (xs[i]?) fun x=>JG e j x fun t f ys=>OQ k p t f ys (dec d)
def St.content(s:St)(c:Loc)(k:(t:TypeId)→(e:Ls)→List e.D→Nat→Step β):Step β:=match s.leaf c.r c.j with
 | .arr AA gen t e xs d=>if AA==c.AA&&(isNil c.p||gen==c.gen)then OQ k c.p t e xs d else .none
 |_=>.none
def M8{α:Type}(xs:List α)(i:Int):Option α:=if 0≤i then xs[i.toNat]? else none
def Ob{α:Type}(xs:List α)(i:Int):Bool:=decide (0≤i)&&decide (i<xs.length)
def sub{α:Type}(xs:List α)(lo hi:Nat):List α:=(xs.drop lo).take (hi-lo)
def St.Av(s:St)(l:L)(a:LA)(k:l.D→Step β):Step β:=match a with
 | .sc m x=>match L.cast l (a:=m) x with
  |some y=>k y
  |none=>.none
 | .DJ=>match l,k with
  | .sl _ _,k=>k []
  |_,_=>.none
 | .ref c=>s.content c fun t e xs _=>match L.cast l (a:=.sl t e) xs with
  |some y=>k y
  |none=>.none
 | .EF c lo hi=>s.content c fun t e xs _=>match L.cast l (a:=.sl t e) (sub xs lo hi)with
  |some y=>k y
  |none=>.none
 |_=>.none
def St.data(s:St):List L→List LA→(List Lv→Step β)→Step β
 | [],[],k=>k []
 |l::ls,a::as,k=>s.Av l a fun x=>s.data ls as fun vs=>k (⟨l,x⟩::vs)
 |_,_,_=>.none
def Bv:(e:Ls)→Nat→List Lv→Option (e.D→e.D)
 | .nil=>fun _ _=>none
 | .one l=>fun off vs=>match off,vs with
  |0,[v]=>match L.cast l v.x with
   |some y=>some fun _=>y
   |none=>none
  |_,_=>none
 | .cons l ls=>fun off vs=>match off with
  |0=>match vs with
   | []=>none
   | [v]=>match L.cast l v.x with
    |some y=>some fun x=>(y,x.2)
    |none=>none
   |v::u::vs=>match L.cast l v.x,Bv ls 0 (u::vs)with
    |some y,some f=>some fun x=>(y,f x.2)
    |_,_=>none
  |off+1=>match Bv ls off vs with
   |some f=>some fun x=>(x.1,f x.2)
   |none=>none
def CO:(e:Ls)→Nat→((t:TypeId)→(f:Ls)→Option (List f.D→List f.D))→Option (e.D→e.D)
 | .nil=>fun _ _=>none
 | .one l=>fun j g=>match j with
  |0=>match l with
   | .sl t f=>g t f
   |_=>none
  |_+1=>none
 | .cons l ls=>fun j g=>match j with
  |0=>match l with
   | .sl t f=>match g t f with
    |some h=>some fun x=>(h x.1,x.2)
    |none=>none
   |_=>none
  |j+1=>match CO ls j g with
   |some h=>some fun x=>(x.1,h x.2)
   |none=>none
def Gv(vs:List Lv):(p:List (Nat×Nat))→(e:Ls)→Option (List e.D→List e.D)
 | [],_=>none
 |(i,j)::p,e=>match p with
  | []=>match(if j==0&&vs.length==e.n then pack e vs else none)with
   |some y=>some fun xs=>Cb xs i y
   |none=>match Bv e j vs with
    |some f=>some fun xs=>xs.modify i f
    |none=>none
  |_::_=>match CO e j fun _ f=>Gv vs p f with
   |some h=>some fun xs=>xs.modify i h
   |none=>none
def Hu(g:(t:TypeId)→(e:Ls)→Option (List e.D→List e.D)):(p:List (Nat×Nat))→(t:TypeId)→(e:Ls)→Option (List e.D→List e.D)
 | [],t,e=>g t e
 |(i,j)::p,_,e=>match CO e j fun t f=>Hu g p t f with
  |some h=>some fun xs=>xs.modify i h
  |none=>none
def N4(x:Lv)(t:TypeId)(e:Ls):Option (List e.D→List e.D):=match L.cast (a:=x.l) (.sl t e) x.x with
 |some y=>some fun _=>y
 |none=>none
def ofConst:Value→LA
 | .int k n=>.sc (.int k) (show Int from n)
 | .bool b=>.sc .bool (show Bool from b)
 | .string s=>.sc .str (show List UInt8 from s.data.toList)
 | .slice none 0 0=>.DJ
 | .pointer none=>.JI
 |_=>.bad
def St.Ap(s:St):Operand→AV
 | .tmp t=>s.slot t
 | .const (.agg cs)=>.v true (cs.toList.map ofConst)
 | .const v=>.v false [ofConst v]
 | .func f=>.v false [.fn f]
 | .global _=>.v false [.bad]
def AV.one?:AV→LA
 | .v false [a]=>a
 |_=>.bad
def St.Ah(s:St)(x:Operand):LA:=(s.Ap x).one?
def Bz:L→Bool
 | .sl _ _=>true
 |_=>false
def Bs:Ls→Bool
 | .nil=>true
 | .one l => !Bz l
 | .cons l ls => !Bz l&&Bs ls
def I3(v:Nat):L→LA
 | .int k=>.sc (.int k) (show Int from 0)
 | .bool=>.sc .bool (show Bool from false)
 | .str=>.sc .str (show List UInt8 from [])
 | .sl t e=>.arr v v t e [] 2
def K6:(l:L)→l.D
 | .int _=>(0:Int)
 | .bool=>false
 | .str=>([]:List UInt8)
 | .sl _ e=>([]:List e.D)
def FZ:(ls:Ls)→ls.D
 | .nil=>()
 | .one l=>K6 l
 | .cons l ls=>(K6 l,FZ ls)
def St.take(cx:Cx)(s:St)(v:Nat)(a:LA)(l:L)(k:LA→List (Nat×Nat)→Step β):Step β:=match a with
 | .sc m x=>if L.eq? m l then k (.sc m x) []else .none
 | .DJ=>match l with
  | .sl t e=>k (.arr v v t e [] 2) []
  |_=>.none
 | .ref c=>match s.leaf c.r c.j with
  | .arr AA _ t e xs d=>match d with
   |0=>s.content c fun t e ys _=>if L.eq? l (.sl t e)then k (.sc (.sl t e) ys) []else .none
   |d+1=>if AA==c.AA&&isNil c.p && !cx.KN c.r&&L.eq? l (.sl t e)then k (.arr v v t e xs (d+1)) [(c.r,c.j)]else .none
  |_=>.none
 | .EF c lo hi=>match s.leaf c.r c.j with
  | .arr AA _ t e xs d=>if AA==c.AA&&isNil c.p && !cx.KN c.r&&L.eq? l (.sl t e)then k (.arr v v t e (sub xs lo hi) d) [(c.r,c.j)]else .none
  |_=>.none
 | .ptr r j AA=>if(s.root r).box&&(s.root r).AA==AA then k (.ptr r j AA) []else .none
 | .fn f=>k (.fn f) []
 |_=>.none
def St.F1(cx:Cx)(s:St)(v:Nat):List L→List LA→(List LA→List (Nat×Nat)→Step β)→Step β
 | [],[],k=>k [] []
 |l::ls,a::as,k=>s.take cx v a l fun b us=>s.F1 cx v ls as fun bs vs=>if us.all fun u => !vs.contains u then k (b::bs) (us++vs)else .none
 |_,_,_=>.none
def gone(us:List (Nat×Nat)):List Wr:=us.map fun u=>.leaf u.1 u.2 .bad
end Go.Ev
namespace Go.Ev
variable {β:Type}
def one(a:LA):AV:=.v false [a]
def IS(k:IntKind)(n:Int):AV:=one (.sc (.int k) (show Int from n))
def IQ(b:Bool):AV:=one (.sc .bool (show Bool from b))
def Oc(s:List UInt8):AV:=one (.sc .str (show List UInt8 from s))
def isZero:Operand→Bool
 | .const (.int _ n)=>n==0
 |_=>true
def OK(k:IntKind)(x y:Int):Int:=k.wrap (BitVec.ofInt k.bits x &&& BitVec.ofInt k.bits y).toNat
def Oy(k:IntKind)(x y:Int):Int:=k.wrap (BitVec.ofInt k.bits x ||| BitVec.ofInt k.bits y).toNat
def OW(k:IntKind)(x y:Int):Int:=k.wrap (BitVec.ofInt k.bits x ^^^ BitVec.ofInt k.bits y).toNat
def N7(k:IntKind)(x y:Int):Int:=k.wrap (x*2 ^ (min y.toNat k.bits))
def N8(k:IntKind)(x y:Int):Int:=x.fdiv (2 ^ (min y.toNat k.bits))
def L3(op:BinOp)(y:Operand)(i:IntKind)(a b:Int)(k:AV→Step β):Step β:=match op with
 | .quo=>if isZero y then .iff (b==0) .none (k (IS i (i.wrap (Int.tdiv a b))))else k (IS i (i.wrap (Int.tdiv a b)))
 | .rem=>if isZero y then .iff (b==0) .none (k (IS i (Int.tmod a b)))else k (IS i (Int.tmod a b))
 | .add=>k (IS i (i.wrap (a+b)))
 | .sub=>k (IS i (i.wrap (a-b)))
 | .mul=>k (IS i (i.wrap (a*b)))
 | .eql=>k (IQ (a==b))
 | .neq=>k (IQ (a != b))
 | .lss=>k (IQ (decide (a<b)))
 | .leq=>k (IQ (decide (a≤b)))
 | .gtr=>k (IQ (decide (a>b)))
 | .geq=>k (IQ (decide (a≥b)))
 | .and=>k (IS i (OK i a b))
 | .or=>k (IS i (Oy i a b))
 | .xor=>k (IS i (OW i a b))
 | .shl=>.iff (decide (0≤b)) (k (IS i (N7 i a b))) .none
 | .shr=>.iff (decide (0≤b)) (k (IS i (N8 i a b))) .none
 |_=>.none
def Ni(op:BinOp)(a b:Bool)(k:AV→Step β):Step β:=match op with
 | .eql=>k (IQ (a==b))
 | .neq=>k (IQ (a != b))
 |_=>.none
def Nj(op:BinOp)(a b:List UInt8)(k:AV→Step β):Step β:=match op with
 | .eql=>k (IQ (a==b))
 | .neq=>k (IQ (!(a==b)))
 | .add=>.iff (decide (a.length+b.length≤4611686018427387904)) (k (Oc (a++b))) .none
 |_=>.none
def IW(cx:Cx)(t:TypeId)(l:L):Bool:=match cx.ty t with
 |some ty => !ty.agg&&Ls.eq? ty.ls (.one l)
 |none=>false
def isRow(cx:Cx)(t:TypeId)(e:Ls):Bool:=match cx.ty t with
 |some ty => !ty.agg&&match ty.ls with
  | .one (.sl _ f)=>Ls.eq? f e
  |_=>false
 |none=>false
def G6:BinOp→Bool
 | .shl=>true
 | .shr=>true
 |_=>false
def binop(isb:Bool)(op:BinOp)(y:Operand)(a b:LA)(k:AV→Step β):Step β:=match a,b with
 | .sc l a,.sc m b=>match l,a,m,b with
  | .int i,a,.int j,b=>if IntKind.code i==IntKind.code j||G6 op then L3 op y i a b k else .none
  | .bool,a,.bool,b=>if isb then Ni op a b k else .none
  | .str,a,.str,b=>Nj op a b k
  |_,_,_,_=>.none
 |_,_=>.none
def N6(l:L)(a b:LA):Option Bool:=match l with
 | .int k=>match a,b with
  | .sc (.int i) x,.sc (.int j) y=>if IntKind.code i==IntKind.code k&&IntKind.code j==IntKind.code k then some ((show Int from x)==(show Int from y))else none
  |_,_=>none
 | .bool=>match a,b with
  | .sc .bool x,.sc .bool y=>some ((show Bool from x)==(show Bool from y))
  |_,_=>none
 | .str=>match a,b with
  | .sc .str x,.sc .str y=>some ((show List UInt8 from x)==(show List UInt8 from y))
  |_,_=>none
 | .sl _ _=>none
def Fe:List L→List LA→List LA→Option Bool
 | [],[],[]=>some true
 |l::ls,a::as,b::bs=>match N6 l a b,Fe ls as bs with
  |some p,some q=>some (p&&q)
  |_,_=>none
 |_,_,_=>none
def Lx(cx:Cx)(op:BinOp)(tx:TypeId)(as bs:List LA)(k:AV→Step β):Step β:=match cx.ty tx with
 |some ty=>if ty.eq then match Fe ty.ls.kinds as bs with
   |some q=>match op with
    | .eql=>k (IQ q)
    | .neq=>k (IQ (!q))
    |_=>.none
   |none=>.none
  else .none
 |none=>.none
def Nw(a:Int):Int:=0-a
def NF(a b:Int):Int:=bif decide (b<a)then b else a
def ND(a b:Int):Int:=bif decide (b>a)then b else a
def seen(r j:Nat)(a:LA):LA:=match a with
 | .arr AA _ _ _ _ _=>.ref ⟨r,j,AA,AA,[]⟩
 |b=>b
def Ay(r:Nat):Nat→List LA→List LA
 |_,[]=>[]
 |j,a::as=>seen r j a::Ay r (j+1) as
def IG(r j:Nat)(a:LA):LA:=match a with
 | .arr AA gen t e xs d=>match d with
  |0=>.sc (.sl t e) xs
  |_+1=>.ref ⟨r,j,AA,AA,[]⟩
 |b=>b
def BO(r:Nat):Nat→List LA→List LA
 |_,[]=>[]
 |j,a::as=>IG r j a::BO r (j+1) as
def Br(c:Loc)(i:Nat)(d:Nat):Nat→List Lv→List LA
 |_,[]=>[]
 |off,v::vs=>(if Bz v.l&&decide (0<d)then LA.ref { c with p:=c.p++[(i,off)] }else .sc v.l v.x)::Br c i d (off+1) vs
def Ai:List (Nat×Nat)→Option (List (Nat×Nat)×Nat×Nat)
 | []=>none
 | [x]=>some ([],x.1,x.2)
 |x::y::r=>match Ai (y::r)with
  |some (q,i,off)=>some (x::q,i,off)
  |none=>none
def St.Jv(s:St)(r j:Nat):Nat:=match s.leaf r j with
 | .arr _ gen _ _ _ _=>gen
 |_=>0
def St.DE(s:St)(a:LA)(n:Nat)(k:List LA→Step β):Step β:=match a with
 | .ptr r j AA=>if(s.root r).box&&(s.root r).AA==AA&&decide (j+n≤(s.root r).ls.length)then k (BO r j (((s.root r).ls.drop j).take n))else .none
 | .D9 e x off=>k ((((unpack e x).drop off).take n).map fun v=>.sc v.l v.x)
 | .Bn c=>match Ai c.p with
  |none=>.none
  |some (q,i,off)=>s.content { c with p:=q } fun t e xs d=>.Mp (xs[i]?) fun x=>k (Br { c with p:=q,gen:=s.Jv c.r c.j } i (dec d) off (((unpack e x).drop off).take n))
 |_=>.none
def St.FR(s:St)(a:AV)(n:Nat)(k:List LA→Step β):Step β:=match a with
 | .bx as=>if decide (n≤as.length)then k (as.take n)else .none
 |a=>s.DE a.one? n k
def MD(s:St)(as:List LA):Bool:=as.any fun a=>match a with
 | .ref c=>c.AA==1 && !(s.root c.r).box
 |_=>false
def St.alive(s:St):LA→Bool
 | .ptr r j AA=>(s.root r).box&&(s.root r).AA==AA
 | .Bn c=>match s.leaf c.r c.j with
  | .arr AA gen _ _ _ _=>AA==c.AA&&(decide (c.p.length≤1)||gen==c.gen)
  |_=>false
 | .D9 _ _ _=>true
 |_=>false
def St.setAt(s:St)(g:Nat)(c:Loc)(h:(e:Ls)→Option (List e.D→List e.D)):Option (List Wr):=match s.leaf c.r c.j with
 | .arr AA gen t e xs d=>if AA==c.AA&&(isNil c.p||gen==c.gen)then match h e with
   |some f=>some [.leaf c.r c.j (.arr AA g t e (f xs) d)]
   |none=>none
  else none
 |_=>none
def St.KE(s:St)(g:Nat)(c:Loc)(vs:List Lv):Option (List Wr):=match s.leaf c.r c.j with
 | .arr AA gen t e xs d=>if AA==c.AA&&(decide (c.p.length≤1)||gen==c.gen)&&decide (0<d)&&(decide (c.p.length≤1)||d==2)then match Gv vs c.p e with
   |some f=>some [.leaf c.r c.j (.arr AA g t e (f xs) d)]
   |none=>none
  else none
 |_=>none
def BA(r:Nat):Nat→List LA→List Wr
 |_,[]=>[]
 |j,a::as=>.leaf r j a::BA r (j+1) as
def St.half(s:St)(r j:Nat):Bool:=match s.leaf r j with
 | .arr _ _ _ _ _ 1=>true
 |_=>false
def Nq:LA→Bool
 | .sc _ _=>true
 |_=>false
def St.C4(s:St)(v:Nat)(c:Loc)(ls:List L)(as:List LA)(k:List Wr→Step β):Step β:=match s.leaf c.r c.j with
 | .arr AA _ t e xs 1=>if AA==c.AA&&as.all Nq then s.data ls as fun vs=>match Gv vs c.p e with
   |some f=>k [.leaf c.r c.j (.arr AA v t e (f xs) 1)]
   |none=>.none
  else .none
 |_=>.none
def St.GP(cx:Cx)(s:St)(v:Nat)(a:LA)(ls:List L)(as:List LA)(k:List Wr→Step β):Step β:=match a with
 | .ptr r j AA=>if(s.root r).box&&(s.root r).AA==AA&&decide (j+ls.length≤(s.root r).ls.length)then s.F1 cx v ls as fun bs us=>k (gone us++BA r j bs)else .none
 | .Bn c=>if ls.all fun l => !Bz l then s.data ls as fun vs=>match s.KE v c vs with
   |some ws=>k ws
   |none=>.none
  else match c.p with
   | [_]=>if s.half c.r c.j then s.C4 v c ls as k else s.F1 cx v ls as fun bs us=>if us.all fun u => !(u.1==c.r&&u.2==c.j)then match bs.mapM fun b=>match b with
      | .arr _ _ t e xs 2=>some (⟨.sl t e,xs⟩:Lv)
      | .sc l x=>if Bz l then none else some ⟨l,x⟩
      |_=>none with
     |some vs=>match s.leaf c.r c.j with
      | .arr AA _ t e xs 2=>if AA==c.AA then match Gv vs c.p e with
        |some f=>k (gone us++[.leaf c.r c.j (.arr AA v t e (f xs) 2)])
        |none=>.none
       else .none
      |_=>.none
     |none=>.none
    else .none
   |_=>.none
 |_=>.none
def BE:LA→LA
 | .arr AA gen t e xs _=>.arr AA gen t e xs 0
 |a=>a
def NA:LA→Bool
 | .arr _ _ _ _ _ (_+1)=>false
 |_=>true
def St.B8(s:St)(r:Nat):Bool:=(s.root r).ls.all NA
def DB(s:St)(r:Nat):List Wr:=if s.B8 r then []else BA r 0 ((s.root r).ls.map BE)
def As(cx:Cx)(s:St):List Nat→Option (List Wr)
 | []=>some []
 |r::rs=>if cx.KN r then none else match As cx s rs with
  |some ws=>some (DB s r++ws)
  |none=>none
def Hx:List LA→List Nat
 | []=>[]
 | .ref c::as=>if isNil c.p then Hx as else c.r::Hx as
 |_::as=>Hx as
def MM(q:LA)(as:List LA):List Nat:=match q with
 | .ptr _ _ _=>Hx as
 |_=>[]
def GO(cx:Cx)(v:Nat)(s:St)(dst:Option Tmp)(q:LA)(ls:List L)(as:List LA)(fs:List Wr):Step (List Wr):=s.GP cx v q ls as fun ws=>match dst with
 |none=>.go (fs++ws)
 |some _=>.none
def Nt(a:LA)(k:Int→Step β):Step β:=match a with
 | .sc l x=>match l,x with
  | .str,x=>k (List.length (α:=UInt8) x:Int)
  |_,_=>.none
 |_=>.none
def lenOf(s:St)(a:LA)(k:Int→Step β):Step β:=match a with
 | .sc l x=>match l,x with
  | .sl _ e,x=>k (List.length (α:=e.D) x:Int)
  |_,_=>.none
 | .DJ=>k 0
 | .ref c=>s.content c fun t e xs _=>k (xs.length:Int)
 | .EF c lo hi=>s.content c fun t e xs _=>k ((sub xs lo hi).length:Int)
 |_=>.none
def asInt(a:LA)(k:Int→Step β):Step β:=match a with
 | .sc l n=>match l,n with
  | .int _,n=>k n
  |_,_=>.none
 |_=>.none
def De(s:St)(x:Option Operand)(d:Int)(k:Int→Step β):Step β:=match x with
 |none=>k d
 |some x=>asInt (s.Ah x) k
def ownRow(d v:Nat)(t:TypeId)(e:Ls)(xs:List e.D):List Wr:=[.root d ⟨false,v,[.arr v v t e xs 2]⟩,.slot d (one (.ref ⟨d,0,v,v,[]⟩))]
def GJ(d v:Nat)(ls:List LA):List Wr:=[.root d ⟨true,v,ls⟩,.slot d (one (.ptr d 0 v))]
def Ee(cx:Cx)(s:St)(a:LA)(t:TypeId)(e:Ls)(k:List e.D→List (Nat×Nat)→Step β):Step β:=
 if Bs e then s.Av (.sl t e) a fun ys=>k ys []else match a with
  | .ref c=>match s.leaf c.r c.j with
   | .arr AA _ t' e' xs d=>if AA==c.AA&&isNil c.p && !cx.KN c.r&&d==2 then match L.cast (a:=.sl t' e') (.sl t e) xs with
     |some ys=>k ys [(c.r,c.j)]
     |none=>.none
    else .none
   |_=>.none
  |_=>.none
def Dh:Nat:=68719476736
def C7(cx:Cx)(s:St)(d v:Nat)(t:TypeId)(e:Ls)(a b:LA)(k:List Wr→Step β):Step β:=match a with
 | .DJ=>Ee cx s b t e fun ys us=>.iff (decide (ys.length≤Dh)) (k (gone us++ownRow d v t e ys)) .none
 | .ref c=>match s.leaf c.r c.j with
  | .arr AA _ t' e' xs dd=>if AA==c.AA&&isNil c.p && !cx.KN c.r&&dd==2 then match L.cast (a:=.sl t' e') (.sl t e) xs with
    |some xs=>Ee cx s b t e fun ys us=>if us.contains (c.r,c.j)then .none else .iff (decide (List.length (α:=e.D) xs+ys.length≤Dh)) (k (gone ((c.r,c.j)::us)++ownRow d v t e (List.append (α:=e.D) xs ys))) .none
    |none=>.none
   else .none
  |_=>.none
 | .EF c lo hi=>match s.leaf c.r c.j with
  | .arr AA _ t' e' xs dd=>if AA==c.AA&&isNil c.p && !cx.KN c.r&&dd==2&&Bs e then match L.cast (a:=.sl t' e') (.sl t e) xs with
    |some xs=>Ee cx s b t e fun ys us=>if us.contains (c.r,c.j)then .none else .iff (decide ((sub (α:=e.D) xs lo hi).length+ys.length≤Dh)) (k (gone ((c.r,c.j)::us)++ownRow d v t e (sub (α:=e.D) xs lo hi++ys))) .none
    |none=>.none
   else .none
  |_=>.none
 |_=>.none
def D1(cx:Cx)(s:St)(d v:Nat)(t:TypeId)(e:Ls)(c:Loc)(b:LA)(k:List Wr→Step β):Step β:=match s.leaf c.r c.j with
 | .arr AA gen t0 e0 xs 2=>if AA==c.AA&&gen==c.gen && !cx.KN c.r&&Bs e then
   s.content c fun t' e' ys0 _=>match L.cast (a:=.sl t' e') (.sl t e) ys0 with
    |some ys0=>s.Av (.sl t e) b fun ys=>.iff (decide (List.length (α:=e.D) ys0+List.length (α:=e.D) ys≤Dh)) (k [.half c.r c.j v,.slot d (one (.sc (.sl t e) (List.append (α:=e.D) ys0 ys)))]) .none
    |none=>.none
  else .none
 |_=>.none
def nested(a:LA):Option Loc:=match a with
 | .ref c=>match c.p with
  | [_]=>some c
  |_=>none
 |_=>none
def Ea(s:St)(a:LA):Option Loc:=match a with
 | .ref c=>match c.p with
  | []=>if s.half c.r c.j then some c else none
  |_=>none
 |_=>none
def D0(cx:Cx)(s:St)(d v:Nat)(t:TypeId)(e:Ls)(c:Loc)(b:LA)(k:List Wr→Step β):Step β:=match s.leaf c.r c.j with
 | .arr AA _ t' e' xs 1=>if AA==c.AA && !cx.KN c.r&&Nq b then match L.cast (a:=.sl t' e') (.sl t e) xs with
   |some xs=>s.Av (.sl t e) b fun ys=>.iff (decide (List.length (α:=e.D) xs+List.length (α:=e.D) ys≤Dh)) (k (gone [(c.r,c.j)]++[.root d ⟨false,v,[.arr v v t e (List.append (α:=e.D) xs ys) 1]⟩,.slot d (one (.ref ⟨d,0,v,v,[]⟩))])) .none
   |none=>.none
  else .none
 |_=>.none
def Ds(cx:Cx)(s:St)(d v:Nat)(t:TypeId)(e:Ls)(a b:LA)(k:List Wr→Step β):Step β:=match nested a with
 |some c=>D1 cx s d v t e c b k
 |none=>match Ea s a with
  |some c=>D0 cx s d v t e c b k
  |none=>C7 cx s d v t e a b k
def Ek:List LA→Nat→List LA→List LA
 |ls,_,[]=>ls
 |ls,j,a::as=>Ek (Cb ls j a) (j+1) as
def St.sure(s:St):LA→Bool
 | .sc _ _=>true
 | .DJ=>true
 | .JI=>true
 | .D9 _ _ _=>true
 | .fn _=>true
 | .ptr r j AA=>(s.root r).box&&(s.root r).AA==AA
 | .ref c=>match s.leaf c.r c.j with
  | .arr AA gen _ _ _ _=>AA==c.AA&&(isNil c.p||gen==c.gen)
  |_=>false
 | .EF c _ _=>match s.leaf c.r c.j with
  | .arr AA gen _ _ _ _=>AA==c.AA&&(isNil c.p||gen==c.gen)
  |_=>false
 | .Bn c=>s.alive (.Bn c)
 |_=>false
def Hj(cx:Cx)(s:St)(fs:List (Nat×TypeId)):List (Nat×Operand)→List LA→Option (List LA)
 | [],ls=>some ls
 |(i,x)::ps,ls=>match s.Ap x,H2 fs i with
  | .v g as,some (off,t)=>match cx.ty t with
   |some tf=>if as.length==tf.ls.n&&decide (off+tf.ls.n≤ls.length)&&(g||as.all s.sure)then Hj cx s fs ps (Ek ls off as)else none
   |none=>none
  |_,_=>none
def zeroOf(l:L):LA:=match l with
 | .sl _ _=>.DJ
 |l=>.sc l (K6 l)
def Cl(cx:Cx)(s:St)(v:Nat)(e:Ls):List (Nat×Operand)→Nat→(List e.D→List (Nat×Nat)→Step β)→Step β
 | [],_,k=>k [] []
 |(i,x)::ps,n,k=>if i==n then match s.Ap x with
   | .v _ as=>(if Bs e then s.data e.kinds as fun vs=>match pack e vs with
     |some y=>Cl cx s v e ps (n+1) fun ys us=>k (y::ys) us
     |none=>.none
    else s.F1 cx v e.kinds as fun bs vs=>match bs.mapM fun b=>match b with
      | .arr _ _ t e xs 2=>some (⟨.sl t e,xs⟩:Lv)
      | .sc l x=>if Bz l then none else some ⟨l,x⟩
      |_=>none with
     |some ws=>match pack e ws with
      |some y=>Cl cx s v e ps (n+1) fun ys us=>if vs.all fun u => !us.contains u then k (y::ys) (vs++us)else .none
      |none=>.none
     |none=>.none)
   |_=>.none
  else .none
def Cg:List LA→Option Loc
 | []=>none
 |a::as=>match nested a with
  |some c=>some c
  |none=>Cg as
def EB(s:St)(e:Ls)(ps:List (Nat×Operand)):Option (Operand×Loc):=if Bs e then none else match ps with
 | [(0,x)]=>match s.Ap x with
  | .v _ as=>match Cg as with
   |some c=>some (x,c)
   |none=>none
  |_=>none
 |_=>none
def J1(c:Loc)(a:LA):Bool:=match a with
 | .ref c'=>c'.r==c.r&&c'.j==c.j&&c'.AA==c.AA&&c'.gen==c.gen&&match c'.p with
  | [_]=>true
  |_=>false
 | .sc _ _=>true
 |_=>false
def C1(cx:Cx)(s:St)(d v:Nat)(t:TypeId)(e:Ls)(x:Operand)(c:Loc)(k:List Wr→Step β):Step β:=match s.Ap x with
 | .v _ as=>match s.leaf c.r c.j with
  | .arr AA gen t0 e0 xs 2=>if AA==c.AA&&gen==c.gen && !cx.KN c.r&&as.all (J1 c)then s.data e.kinds as fun vs=>match pack e vs with
    |some y=>k [.half c.r c.j v,.slot d (one (.sc (.sl t e) (show List e.D from [y])))]
    |none=>.none
   else .none
  |_=>.none
 |_=>.none
def EW:List (L×Nat)→List LA→Bool
 | [],[]=>true
 |(l,m)::ls,a::as=>(match a with
  | .arr _ _ _ _ _ d=>d==m
  | .sc _ _ => !Bz l||m==0
  |_=>false)&&EW ls as
 |_,_=>false
abbrev Tg:=Nat×Option Nat
def Tg.Dg(a b:Tg):Bool:=a.1==b.1&&match a.2,b.2 with
 |some i,some j=>i==j
 |_,_=>true
def Fl(rs:List Tg)(a:Tg):Bool:=rs.any fun b=>Tg.Dg b a
def JU(s:St)(l:L)(d:Nat)(a:LA)(k:Lv→List Tg→Step β):Step β:=match l with
 | .sl t e=>match a with
  | .ref c=>if(match s.leaf c.r c.j with
    | .arr _ _ _ _ _ dd=>dd==d&&(isNil c.p||d==2)
    |_=>false)then s.Av (.sl t e) (.ref c) fun x=>k ⟨.sl t e,x⟩ [(c.r,some c.j)]else .none
  |_=>.none
 |l=>s.Av l a fun x=>k ⟨l,x⟩ []
def Ey(s:St):List (L×Nat)→List LA→(List Lv→List Tg→Step β)→Step β
 | [],[],k=>k [] []
 |(l,d)::ls,a::as,k=>JU s l d a fun x us=>Ey s ls as fun y rs=>if us.any (Fl rs)then .none else k (x::y) (us++rs)
 |_,_,_=>.none
def Am(s:St):List PM→List AV→(List Lv→List Tg→Step β)→Step β
 | [],[],k=>k [] []
 | .val g ls::ps,.v g' as::vs,k=>if g==g' then s.data ls as fun x=>Am s ps vs fun y rs=>k (x++y) rs else .none
 | .box ls::ps,.v false [.ptr r 0 AA]::vs,k=>
  if(s.root r).box&&(s.root r).AA==AA&&EW ls (s.root r).ls then
   s.data (ls.map (·.1)) (Ay r 0 (s.root r).ls) fun x=>Am s ps vs fun y rs=>if Fl rs (r,none)then .none else k (x++y) ((r,none)::rs)
  else .none
 | .row g ls::ps,.v g' as::vs,k=>if g==g' then Ey s ls as fun x us=>Am s ps vs fun y rs=>if us.any (Fl rs)then .none else k (x++y) (us++rs)else .none
 | .fn f::ps,.v false [.fn g]::vs,k=>if f==g then Am s ps vs k else .none
 |_,_,_=>.none
def LA.roots:LA→List Nat
 | .ref c=>[c.r]
 | .EF c _ _=>[c.r]
 | .Bn c=>[c.r]
 | .ptr r _ _=>[r]
 | .JC _ c=>[c.r]
 | .EI _ ps qs=>ps.map (·.1)++qs.map (·.1)
 |_=>[]
def AV.roots:AV→List Nat
 | .v _ as=>as.flatMap LA.roots
 | .Dp vs=>vs.flatMap fun v=>v.2.flatMap LA.roots
 | .bx as=>as.flatMap LA.roots
def Af:List PM→List AV→List Nat
 | .val _ _::ps,v::vs=>v.roots++Af ps vs
 |_::ps,_::vs=>Af ps vs
 |_,_=>[]
def Jh(d v:Nat):List (L×Nat)→List Lv→Nat→Option (List LA×List LA×List Lv)
 | [],vs,_=>some ([],[],vs)
 |(l,m)::ls,vs,j=>match vs with
  | []=>none
  |⟨l',x⟩::vs=>match Jh d v ls vs (j+1)with
    |some (as,rs,left)=>match l',x with
     | .sl t e,xs=>match m with
      |0=>some (.sc (.sl t e) xs::as,.bad::rs,left)
      |m+1=>some (.ref ⟨d,j,v,v,[]⟩::as,.arr v v t e xs (m+1)::rs,left)
     |l',x=>some (.sc l' x::as,.bad::rs,left)
    |none=>none
def D4(d v:Nat):List (Bool×List (L×Nat))→List Lv→Nat→Option (List (Bool×List LA)×List LA×List Lv)
 | [],vs,_=>some ([],[],vs)
 |(g,ls)::rs,vs,j=>match Jh d v ls vs j with
  |some (as,own,vs)=>match D4 d v rs vs (j+ls.length)with
   |some (bs,own',vs)=>some ((g,as)::bs,own++own',vs)
   |none=>none
  |none=>none
def BU(v m:Nat)(x:Lv):LA:=match x with
 |⟨.sl t e,xs⟩=>match m with
  |0=>.sc (.sl t e) xs
  |m+1=>.arr v v t e xs (m+1)
 |⟨l,x⟩=>.sc l x
def AM(v:Nat):List (L×Nat)→List Lv→List LA
 |(_,m)::ls,x::xs=>BU v m x::AM v ls xs
 |_,_=>[]
def putRow(s:St)(v:Nat):List (L×Nat)→List LA→List Lv→Option (List Wr)
 | [],[],_=>some []
 |(l,_)::ls,a::as,x::vs=>match putRow s v ls as vs with
  |some ws=>match l with
   | .sl _ _=>match a with
    | .ref c=>match s.leaf c.r c.j with
     | .arr AA _ t0 e0 xs0 d0=>match Hu (N4 x) c.p t0 e0 with
      |some f=>some (.leaf c.r c.j (.arr AA v t0 e0 (f xs0) d0)::ws)
      |none=>none
     |_=>none
    |_=>none
   |_=>some ws
  |none=>none
 |_,_,_=>none
def AY(s:St)(v:Nat):List PM→List AV→List Lv→Option (List Wr)
 | [],[],[]=>some []
 | .val _ _::ps,_::as,vs=>AY s v ps as vs
 | .fn _::ps,_::as,vs=>AY s v ps as vs
 | .box ls::ps,.v false [.ptr r 0 AA]::as,vs=>match AY s v ps as (vs.drop ls.length)with
  |some ws=>some (BA r 0 (AM v ls vs)++ws)
  |none=>none
 | .row _ ls::ps,.v _ bs::as,vs=>match putRow s v ls bs vs,AY s v ps as (vs.drop ls.length)with
  |some us,some ws=>some (us++ws)
  |_,_=>none
 |_,_,_=>none
def ON:L→Bool
 | .sl _ e=>Bs e
 |_=>true
def fresh(ls:List (L×Nat)):Bool:=ls.all fun p => !Bz p.1||p.2==2||(p.2==1&&ON p.1)
def OS(lt:Int→Int→Option Bool)(x y:Int):Bool:=match lt x y with
 |some b=>b
 |none=>false
def Mj(lt:Int→Int→Option Bool)(xs:List Int):Option (List Int):=
 bif decide (xs.length≤1)then some xs else bif decide (xs.length≤20)&&xs.all fun x=>xs.all fun y=>(lt x y).isSome then some (Go.Sort.insertionSort (OS lt) xs.toArray 0 xs.length).toList else none
def NZ:LA→Bool
 | .arr _ _ _ _ _ _=>true
 | .sc _ _=>true
 |_=>false
def DN(s:St)(not:Nat):List (List L)→List (Nat×Nat)→(List Lv→Step β)→Step β
 | [],[],k=>k []
 |ls::bs,(r,AA)::ps,k=>if(s.root r).box&&(s.root r).AA==AA&&r != not&&(s.root r).ls.length==ls.length&&(s.root r).ls.all NZ then
   s.data ls (Ay r 0 (s.root r).ls) fun x=>DN s not bs ps fun y=>k (x++y)
  else .none
 |_,_,_=>.none
def Bx(s:St)(c:Loc)(qs:List (Nat×Nat)):List KL→List (Nat×Nat)→(List Lv→Step β)→Step β
 | [],[],k=>k []
 | .box ls::cs,p::ps,k=>DN s c.r [ls] [p] fun x=>Bx s c qs cs ps fun y=>k (x++y)
 | .EI g bs::cs,(r,AA)::ps,k=>match(s.root r).ls with
  | [.EI g' zB _]=>if(s.root r).box&&(s.root r).AA==AA&&r != c.r&&g==g'&&zB.all fun q=>qs.contains q then DN s c.r bs zB fun x=>Bx s c qs cs ps fun y=>k (x++y)else .none
  |_=>.none
 | .row::cs,(r,AA)::ps,k=>if(s.root r).box&&(s.root r).AA==AA&&r==c.r&&c.j==0&&(s.root r).ls.length==1 then Bx s c qs cs ps k else .none
 |_,_,_=>.none
def Dx(cx:Cx)(s:St)(d v:Nat)(f:FuncId)(vs:List AV)(k:List Wr→Step β):Step β:=match vs with
 | [.v false [.JC t c],.v false [.EI g ps qs]]=>match cx.env.Oz f g with
  |some σ=>match s.leaf c.r c.j with
   | .arr AA _ t0 (.one (.int .i64)) xs 2=>if AA==c.AA&&isNil c.p && !cx.KN c.r&&t==σ.t then Bx s c qs σ.I9 ps fun x=>match pack (E2 (σ.I9.flatMap KL.kinds)) x with
     |some y=>.Mp (Mj (σ.lt y) (show List Int from xs)) fun zs=>k [.leaf c.r c.j (.arr AA v t0 (.one (.int .i64)) (show List Int from zs) 2),.slot d (.Dp [])]
     |none=>.none
    else .none
   |_=>.none
  |none=>.none
 |_=>.none
def Di(s:St):List AV→Option (List (Nat×Nat))
 | []=>some []
 | .v false [.ptr r 0 AA]::vs=>if(s.root r).box&&(s.root r).AA==AA then match Di s vs with
   |some ps=>some ((r,AA)::ps)
   |none=>none
  else none
 |_::_=>none
def behind(s:St):List (Nat×Nat)→List (Nat×Nat)
 | []=>[]
 |(r,_)::ps=>(match(s.root r).ls with
  | [.EI _ qs _]=>qs
  |_=>[])++behind s ps
def Kk(bs:List (Bool×List LA)):AV:=match bs with
 | [(g,as)]=>.v g as
 |bs=>.Dp bs
def call(cx:Cx)(s:St)(d v:Nat)(f:FuncId)(vs:List AV)(k:List Wr→Step β):Step β:=match cx.env.fn f with
 |none=>Dx cx s d v f vs k
 |some g=>if g.s.mk? then Am s g.s.ps vs fun x _=>if g.s.plain&&isNil (Af g.s.ps vs)then match pack g.s.ins x with
   |none=>.none
   |some y=>.Mp (g.f y) fun z=>k (GJ d v (AM v g.s.Gw (unpack g.s.outs z)))
  else .none
  else Am s g.s.ps vs fun x ws=>if(Af g.s.ps vs).all fun r => !Fl ws (r,none)then match pack g.s.ins x with
   |none=>.none
   |some y=>.Mp (g.f y) fun z=>match D4 d v g.s.rs (unpack g.s.outs z) 0 with
    |none=>.none
    |some (bs,own,left)=>match AY s v g.s.ps vs left,(if fresh g.s.Gw then some []else As cx s (Af g.s.ps vs))with
     |some ws,some fs=>k (fs++ws++[.root d ⟨false,v,own⟩,.slot d (Kk bs)])
     |_,_=>.none
  else .none
def II(cx:Cx)(s:St)(t:TypeId)(q:LA)(p:AV)(dst:Option Tmp):Step (List Wr):=match p with
 | .v false [.EI g ps qs]=>if cx.env.Oj t then match q with
  | .ptr r j AA=>match dst with
   |none=>if(s.root r).box&&(s.root r).AA==AA&&decide (j+1≤(s.root r).ls.length)then .go [.leaf r j (.EI g ps qs)]else .none
   |some _=>.none
  |_=>.none
 else .none
 |_=>.none
def Hr:AV→Bool
 | .v false [.DJ]=>true
 |_=>false
def bytesOf(xs:List Int):List UInt8:=xs.map fun n=>UInt8.ofNat n.toNat
def AB(cx:Cx)(v:Nat)(o:Oper)(s:St):Step (List Wr):=
 let out (a:AV):Step (List Wr):=match o.dst with
  |some d=>.go [.slot d a]
  |none=>.go []
 match o.op with
 | .move x=>if Hr (s.Ap x)then match cx.ty o.type,o.dst with
   |some ty,some d=>if ty.agg then .none else match ty.ls with
    | .one (.sl t e)=>.go (ownRow d v t e [])
    |_=>.none
   |_,_=>.none
  else out (s.Ap x)
 | .assign x=>match o.dst with
  |none=>.none
  |some d=>match s.Ah x with
   | .sc l x=>.go [.slot d (one (.sc l x))]
   | .ptr r j AA=>.go [.slot d (one (.ptr r j AA))]
   | .fn f=>.go [.slot d (one (.fn f))]
   | .JI=>.go [.slot d (one .JI)]
   | .Bn c=>.go [.slot d (one (.Bn c))]
   | .D9 e x off=>.go [.slot d (one (.D9 e x off))]
   |a=>if cx.KN d then .none else match cx.ty o.type with
    |some ty=>match ty.ls with
     | .one l=>s.take cx v a l fun b us=>match b with
      | .arr _ _ t e xs dd=>.go (gone us++[.root d ⟨false,v,[.arr v v t e xs dd]⟩,.slot d (one (.ref ⟨d,0,v,v,[]⟩))])
      |_=>.none
     |_=>.none
    |none=>.none
 | .pick c a b=>match s.Ah c with
  | .sc .bool t=>.iff t (out (s.Ap a)) (out (s.Ap b))
  |_=>.none
 | .alloc t=>match cx.ty t,o.dst with
  |some ty,some d=>.go (GJ d v (ty.ls.kinds.map (I3 v)))
  |none,some d=>if cx.env.Oj t then .go (GJ d v [.bad])else .none
  |_,_=>.none
 | .box t x=>match cx.ty t,o.dst,s.Ap x with
  |some ty,some d,.v g as=>if g&&MD s as then .go [.slot d (.bx as)]else s.F1 cx v ty.ls.kinds as fun bs us=>if us.all fun u => !(u.1==d)then .go (gone us++GJ d v bs)else .none
  |_,_,_=>.none
 | .build t parts=>match cx.ty t with
  |some ty=>match(if ty.agg then Hj cx s ty.fs parts.toList (ty.ls.kinds.map zeroOf)else none)with
   |some ls=>out (.v true ls)
   |none=>.none
  |none=>.none
 | .buildSlice t len parts=>match cx.ty t,o.dst with
  |some ty,some d=>if ty.agg then .none else match ty.ls with
   | .one (.sl t e)=>if len==parts.size&&decide (len*e.n≤16777216)then(match EB s e parts.toList with
    |some (x,c)=>C1 cx s d v t e x c fun ws=>.go ws
    |none=>Cl cx s v e parts.toList 0 fun ys us=>if us.all fun u => !(u.1==d)then .go (gone us++ownRow d v t e ys)else .none)else .none
   |_=>.none
  |_,_=>.none
 | .load t x=>match cx.ty t with
  |some ty=>s.FR (s.Ap x) ty.ls.n fun as=>if as.length==ty.ls.n then out (.v ty.agg as)else .none
  |none=>.none
 | .store t x y=>match cx.ty t,s.Ap y with
  |some ty,.v _ as=>match MM (s.Ah x) as with
   | []=>GO cx v s o.dst (s.Ah x) ty.ls.kinds as []
   |r::rs=>match As cx s (r::rs)with
    |some fs=>GO cx v (s.app fs) o.dst (s.Ah x) ty.ls.kinds as fs
    |none=>.none
  |none,p=>II cx s t (s.Ah x) p o.dst
  |_,_=>.none
 | .makeInterface t x=>match cx.ty t,s.Ah x with
  |some ty,.ref c=>if ty.agg then .none else match ty.ls with
   | .one (.sl _ _)=>out (one (.JC t c))
   |_=>.none
  |_,_=>.none
 | .makeFunc (.func g) first captured=>if first.size==0 then match Di s (captured.toList.map s.Ap)with
   |some ps=>out (one (.EI g ps (behind s ps)))
   |none=>.none
  else .none
 | .nilCheck x=>match s.Ap x with
  | .bx as=>out (.bx as)
  |a=>if s.alive a.one? then out (one a.one?)else .none
 | .binOp op tx x y _=>match s.Ap x,s.Ap y with
  | .v true as,.v true bs=>Lx cx op tx as bs fun a=>out a
  |p,q=>binop (IW cx tx .bool) op y p.one? q.one? fun a=>out a
 | .unOp op _ x=>match op,s.Ah x with
  | .not,.sc .bool b=>out (IQ (!b))
  | .neg,.sc (.int k) n=>out (IS k (k.wrap (Nw n)))
  |_,_=>.none
 | .convert a b x=>match cx.ty a,cx.ty b,s.Ah x with
  |some ta,some ty,.sc (.int _) n=>if ty.agg then .none else match ty.ls with
   | .one (.int k)=>out (IS k (k.wrap n))
   |_=>.none
  |some ta,some ty,y=>if ta.agg||ty.agg then .none else match ta.ls,ty.ls with
   | .one (.sl t0 (.one (.int .u8))),.one .str=>if IW cx t0 (.int .u8)then s.Av (.sl t0 (.one (.int .u8))) y fun xs=>out (Oc (bytesOf xs))else .none
   |_,_=>.none
  |_,_,_=>.none
 | .makeSlice t l c=>match cx.ty t,o.dst with
  |some ty,some d=>if ty.agg then .none else match ty.ls with
   | .one (.sl t e)=>asInt (s.Ah l) fun n=>asInt (s.Ah c) fun m=>
     .iff (decide (0≤n)&&decide (n≤(Dh:Int))&&decide (m=n)) (.go (ownRow d v t e (List.replicate n.toNat (FZ e)))) .none
   |_=>.none
  |_,_=>.none
 | .slice ti x lo hi none=>match s.Ah x with
  | .sc .str b=>if IW cx ti .str then De s lo 0 fun l=>De s hi (List.length (α:=UInt8) b:Int) fun h=>
    .iff (decide (0≤l)&&decide (l≤h)&&decide (h≤(List.length (α:=UInt8) b:Int))) (out (Oc (sub (α:=UInt8) b l.toNat h.toNat))) .none
   else .none
  | .sc (.sl t e) b=>if isRow cx ti e then De s lo 0 fun l=>De s hi (List.length (α:=e.D) b:Int) fun h=>
    .iff (decide (0≤l)&&decide (l≤h)&&decide (h≤(List.length (α:=e.D) b:Int))) (out (one (.sc (.sl t e) (sub (α:=e.D) b l.toNat h.toNat)))) .none
   else .none
  | .ref c=>s.content c fun t e xs _=>if isRow cx ti e then De s lo 0 fun l=>De s hi (xs.length:Int) fun h=>
    .iff (decide (0≤l)&&decide (l≤h)&&decide (h≤(xs.length:Int))) (out (one (.EF c l.toNat h.toNat))) .none
   else .none
  |_=>.none
 | .fieldAddr t x f=>match cx.ty t with
  |some ty=>match(if ty.agg then H2 ty.fs f else none)with
   |some (fo,ft)=>match cx.ty ft with
    |some tf=>if tf.ls.n==0 then .none else match s.Ap x with
     | .bx as=>out (.bx (as.drop fo))
     |a=>if !s.alive a.one? then .none else match a.one? with
     | .ptr r j AA=>out (one (.ptr r (j+fo) AA))
     | .D9 e y j=>out (one (.D9 e y (j+fo)))
     | .Bn c=>match Ai c.p with
      |some (q,i,off)=>out (one (.Bn { c with p:=q++[(i,off+fo)] }))
      |none=>.none
     |_=>.none
    |none=>.none
   |none=>.none
  |none=>.none
 | .field t x f=>match cx.ty t,s.Ap x with
  |some ty,.v true as=>match(if ty.agg then H2 ty.fs f else none)with
   |some (fo,ft)=>match cx.ty ft with
    |some tf=>if decide (fo+tf.ls.n≤as.length)then out (.v tf.agg ((as.drop fo).take tf.ls.n))else .none
    |none=>.none
   |none=>.none
  |_,_=>.none
 | .indexAddr ti x i=>asInt (s.Ah i) fun n=>match s.Ah x with
  | .sc (.sl t e) xs=>if isRow cx ti e then .Mp (M8 (α:=e.D) xs n) fun y=>out (one (.D9 e y 0))else .none
  | .ref c=>s.content c fun t e xs _=>if isRow cx ti e then .iff (Ob xs n) (out (one (.Bn { c with p:=c.p++[(n.toNat,0)] }))) .none else .none
  | .EF c lo hi=>s.content c fun t e xs _=>if isRow cx ti e then .iff (Ob (sub xs lo hi) n) (out (one (.Bn { c with p:=c.p++[(lo+n.toNat,0)] }))) .none else .none
  |_=>.none
 | .index ti x i=>asInt (s.Ah i) fun n=>match s.Ah x with
  | .sc .str b=>if IW cx ti .str then .Mp (M8 (α:=UInt8) b n) fun y=>out (IS .u8 (y.toNat:Int))else .none
  |_=>.none
 | .extract x i=>match s.Ap x with
  | .Dp vs=>match H2 vs i with
   |some (g,as)=>out (.v g as)
   |none=>.none
  |_=>.none
 | .call c=>match c.callee with
  | .builtin .len=>match c.args.toList,c.argTypes.toList with
   | [x],[t]=>match cx.ty t with
    |some ty=>if ty.agg then .none else match ty.ls with
     | .one .str=>Nt (s.Ah x) fun n=>out (IS .i64 n)
     | .one (.sl _ _)=>lenOf s (s.Ah x) fun n=>out (IS .i64 n)
     |_=>.none
    |none=>.none
   |_,_=>.none
  | .builtin .append=>match c.args.toList,c.argTypes.toList,cx.ty o.type,o.dst with
   | [x,y],[t1,t2],some ty,some d=>match ty.ls with
    | .one (.sl t e)=>if t1==t2&&isRow cx t1 e then Ds cx s d v t e (s.Ah x) (s.Ah y) fun ws=>.go ws else .none
    |_=>.none
   |_,_,_,_=>.none
  | .builtin .min=>match c.args.toList with
   | [x,y]=>match s.Ah x,s.Ah y with
    | .sc (.int k) a,.sc (.int j) b=>out (IS k (NF a b))
    |_,_=>.none
   |_=>.none
  | .builtin .max=>match c.args.toList with
   | [x,y]=>match s.Ah x,s.Ah y with
    | .sc (.int k) a,.sc (.int j) b=>out (IS k (ND a b))
    |_,_=>.none
   |_=>.none
  | .value f=>match s.Ah f,o.dst with
   | .fn f,some d=>call cx s d v f (c.args.toList.map s.Ap) fun ws=>.go ws
   |_,_=>.none
  |_=>.none
 |_=>.none
end Go.Ev
namespace Go.Ev
variable {β:Type}
def number{α:Type}:Nat→List α→List (Nat×α)
 |_,[]=>[]
 |n,x::xs=>(n,x)::number (n+1) xs
inductive VP where
 |slot (s:Nat) (l:L)
 |own (s:Nat) (t:TypeId) (e:Ls) (d:Nat) (k:Bool)
 |box (r:Nat) (ls:List (Option (L×Nat)))
def VP.kinds:VP→List L
 | .slot _ l=>[l]
 | .own _ t e _ _=>[.sl t e]
 | .box _ ls=>ls.filterMap fun x=>x.map (·.1)
def VP.roots:VP→List Nat
 | .slot _ _=>[]
 | .own s _ _ _ _=>[s]
 | .box r _=>[r]
def VP.AP:VP→List Nat
 | .slot s _=>[s]
 | .own s _ _ _ _=>[s]
 | .box _ _=>[]
def DF(ps:List VP):Ls:=E2 (ps.flatMap VP.kinds)
def Dw(s:St):List (Option (L×Nat))→List LA→(List Lv→Step β)→Step β
 | [],[],k=>k []
 |none::ls,_::as,k=>Dw s ls as k
 |some (l,d)::ls,a::as,k=>match a with
  | .arr _ _ t e xs d'=>if d==0||d==d' then match L.cast (a:=.sl t e) l xs with
    |some y=>Dw s ls as fun vs=>k (⟨l,y⟩::vs)
    |none=>.none
   else .none
  |a=>match d with
   |0=>s.Av l a fun y=>Dw s ls as fun vs=>k (⟨l,y⟩::vs)
   |_+1=>match l with
    | .sl _ _=>.none
    |l=>s.Av l a fun y=>Dw s ls as fun vs=>k (⟨l,y⟩::vs)
 |_,_,_=>.none
def St.still(s:St)(l:L)(a:LA):Bool:=match l with
 | .sl _ _=>match a with
  | .sc _ _=>true
  | .DJ=>true
  | .ref c=>match s.leaf c.r c.j with
   | .arr _ _ _ _ _ 0=>true
   |_=>false
  | .EF c _ _=>match s.leaf c.r c.j with
   | .arr _ _ _ _ _ 0=>true
   |_=>false
  |_=>false
 |_=>true
def KB(s:St)(v:VP)(k:List Lv→Step β):Step β:=match v with
 | .slot t l=>if s.still l (s.slot t).one? then s.Av l (s.slot t).one? fun x=>k [⟨l,x⟩]else .none
 | .own t ty e d k0=>match s.slot t,s.root t with
  | .v false [.ref c],⟨false,_,[.arr AA _ t' e' xs d']⟩=>if c.r==t&&c.j==0&&isNil c.p&&AA==c.AA&&d==d'&&(!k0||AA==1)then match L.cast (a:=.sl t' e') (.sl ty e) xs with
    |some y=>k [⟨.sl ty e,y⟩]
    |none=>.none
   else .none
  |_,_=>.none
 | .box r ls=>if(s.root r).box then Dw s ls (s.root r).ls k else .none
def Kv(s:St):List VP→(List Lv→Step β)→Step β
 | [],k=>k []
 |v::vs,k=>KB s v fun x=>Kv s vs fun y=>k (x++y)
def Aq(ps:List VP)(s:St):Option (DF ps).D:=(Kv s ps .go).run (pack (DF ps))
def AQ(v:Nat):List (Option (L×Nat))→List Lv→List LA
 | [],_=>[]
 |none::ls,vs=>.bad::AQ v ls vs
 |some (l,d)::ls,x::vs=>BU v d x::AQ v ls vs
 |some _::ls,[]=>.bad::AQ v ls []
def FX(v:Nat)(k:Bool):Nat:=match k with
 |true=>1
 |false=>v
def DU(v d:Nat)(k:Bool)(x:Lv):LA:=match BU v d x with
 | .arr _ g t e xs d=>.arr (FX v k) g t e xs d
 |a=>a
def B6(v:Nat)(s:St):List VP→List Lv→List Wr
 | [],_=>[]
 | .slot t _::ps,x::vs=>.slot t (one (.sc x.l x.x))::B6 v s ps vs
 | .own t ty e d k::ps,x::vs=>.root t ⟨false,v,[DU v d k x]⟩::.slot t (one (.ref ⟨t,0,FX v k,v,[]⟩))::B6 v s ps vs
 | .box r ls::ps,vs=>.root r ⟨true,(s.root r).AA,AQ v ls vs⟩::B6 v s ps (vs.drop (ls.filterMap id).length)
 |_,[]=>[]
def LA.clean(ms ch:Nat→Bool)(a:LA):LA:=match a with
 | .ref c=>if ch c.r then .bad else .ref c
 | .EF c lo hi=>if ch c.r then .bad else .EF c lo hi
 | .Bn c=>if ch c.r then .bad else .Bn c
 | .ptr r j AA=>if ms r then .bad else .ptr r j AA
 | .JC t c=>if ch c.r then .bad else .JC t c
 | .EI g ps qs=>if ps.any fun p=>ms p.1 then .bad else .EI g ps qs
 |a=>a
def AV.clean(ms ch:Nat→Bool):AV→AV
 | .v g as=>.v g (as.map (LA.clean ms ch))
 | .Dp _=>one .bad
 | .bx _=>one .bad
def KY{α γ:Type}(f:Nat→α→γ):Nat→List α→List γ
 |_,[]=>[]
 |n,x::xs=>f n x::KY f (n+1) xs
def base(ms:List Nat)(ps:List VP)(s:St):St:=
 {sl:=KY (fun t x=>if has ms t then one .bad else x.clean (fun r=>has ms r||has (ps.flatMap VP.AP) r) fun r=>has ms r||has (ps.flatMap VP.roots) r) 0 s.sl
  ro:=KY (fun r x=>if has ms r then dead else x) 0 s.ro
  Bq:=s.Bq+1 }
def B5(ms:List Nat)(ps:List VP)(s:St)(x:(DF ps).D):St:=(base ms ps s).app (B6 s.Bq s ps (unpack (DF ps) x))
def Cx.in(cx:Cx)(ms:List Nat)(ps:List VP):Cx:=
 { cx with lock:=fun r=>cx.lock r || !(has ms r||has (ps.flatMap VP.roots) r),FD:=fun t=>cx.FD t || !(has ms t||has (ps.flatMap VP.AP) t) }
def distinct:List Nat→Bool
 | []=>true
 |x::xs => !has xs x&&distinct xs
def Cp(cx:Cx)(ms:List Nat)(ps:List VP):Bool:=distinct (ps.flatMap VP.roots)&&distinct (ps.flatMap VP.AP)&&ps.all fun p=>match p with
 | .slot s _ => !cx.FD s
 | .own s _ _ _ _ => !cx.lock s && !cx.FD s && !cx.KN s
 | .box r _ => !has ms r && !cx.lock r && !has (ps.flatMap VP.AP) r
structure An where
 Ol:Nat→Option (List VP)
 AX:Nat→Option (List VP×Bool)
 O3:Nat→Option (List VP×Bool)
 pre:Nat→List Nat
def Gu:List (Nat×Oper)→List Nat
 | []=>[]
 |(_,o)::r=>match o.dst with
  |some d=>d::Gu r
  |none=>Gu r
def CH:Code→List Nat
 | .region _ ops _=>Gu (number 0 ops.toList)
 | .seq a b=>CH a++CH b
 | .cond _ a b=>CH a++CH b
 | .block _ c=>CH c
 | .loop c=>CH c
 |_=>[]
def GC:Code→Nat
 | .region id _ _=>id
 | .seq a _=>GC a
 | .block _ c=>GC c
 | .loop c=>GC c
 |_=>0
def Ns:Code→Nat
 | .seq a _=>3*GC a+3
 | .block id _=>3*id+4
 | .cond _ x y=>3*(match GC x with
  |0=>GC y
  |n+1=>n+1)+5
 |_=>0
def mask(t:Nat):Nat:=2 ^ t
def JQ(r:Nat):Nat:=2 ^ (4*r+1)
def Jw(r:Nat):Nat:=2 ^ (4*r+3)
def AV.mask(a:AV):Nat:=a.roots.foldr (fun r m=>Nat.lor (JQ r) (Nat.lor (Jw r) m)) 0
def BX(ops:Array Oper)(o:Oper):Nat:=match o.guard with
 |some (g,_)=>match(ops[g]?).bind (·.dst)with
  |some t=>2 ^ (2*t)
  |none=>0
 |none=>0
def A6(ops:Array Oper)(o:Oper)(s:St):Nat:=match o.op with
 | .move (.tmp t)=>Nat.lor (2 ^ (2*t)) (BX ops o)
 | .extract (.tmp t) _=>Nat.lor (2 ^ (2*t)) (BX ops o)
 | .field _ (.tmp t) _=>Nat.lor (2 ^ (2*t)) (BX ops o)
 | .load _ (.tmp t)=>Nat.lor (2 ^ (2*t)) (Nat.lor (match s.slot t with
  | .v _ [.ptr r _ _]=>JQ r
  |a=>a.mask) (BX ops o))
 | .fieldAddr _ (.tmp t) _=>Nat.lor (2 ^ (2*t)) (Nat.lor (match s.slot t with
  | .v _ [.ptr r _ _]=>JQ r
  |a=>a.mask) (BX ops o))
 |_=>o.op.operands.toList.foldr (fun x m=>match x with
  | .tmp t=>Nat.lor (2 ^ (2*t)) (Nat.lor (s.slot t).mask m)
  |_=>m) (BX ops o)
def Wr.mask:Wr→Nat
 | .slot t _=>2 ^ (2*t)
 | .root r _=>Nat.lor (JQ r) (Jw r)
 | .leaf r _ _=>Nat.lor (JQ r) (Jw r)
 | .half r _ _=>Jw r
def AE(ws:List Wr):Nat:=ws.foldr (fun w m=>Nat.lor w.mask m) 0
def bit(m i:Nat):Bool:=m.testBit i
def E0:List Oper→List Nat→List Nat
 | [],acc=>acc
 |o::r,acc=>E0 r (acc++[o.after.toList.foldr (fun e m=>if Region.binds .any e then Nat.lor (2 ^ e.on) (Nat.lor (nth 0 acc e.on) m)else m) 0])
def indep(b rm wm:Nat):Nat→List (Nat×Nat)→Bool
 |_,[]=>true
 |j,(r,w)::lg=>(bit b j||(Nat.land w (Nat.lor rm wm)==0&&Nat.land r wm==0))&&indep b rm wm (j+1) lg
def LA.AG:LA→List Nat
 | .ref c=>[c.AA,c.gen]
 | .EF c _ _=>[c.AA,c.gen]
 | .Bn c=>[c.AA,c.gen]
 | .ptr _ _ AA=>[AA]
 | .JC _ c=>[c.AA,c.gen]
 | .EI _ ps _=>ps.map (·.2)
 | .arr AA gen _ _ _ _=>[AA,gen]
 |_=>[]
def AV.AG:AV→List Nat
 | .v _ as=>as.flatMap LA.AG
 | .Dp vs=>vs.flatMap fun v=>v.2.flatMap LA.AG
 | .bx as=>as.flatMap LA.AG
def Bp.AG(r:Bp):List Nat:=r.AA::r.ls.flatMap LA.AG
def Wr.AG:Wr→List Nat
 | .slot _ a=>a.AG
 | .root _ x=>x.AG
 | .leaf _ _ a=>a.AG
 | .half _ _ v=>[v]
def LA.Cf:LA→Bool
 | .ref _=>false
 | .EF _ _ _=>false
 | .Bn _=>false
 | .JC _ _=>false
 |_=>true
def Wr.ok(cx:Cx)(dst:Option Nat):Wr→Bool
 | .slot t _=>match dst with
  |some d=>t==d
  |none=>false
 | .root r x => !cx.lock r&&x.ls.all LA.Cf&&match dst with
  |some d=>r==d
  |none=>false
 | .leaf r _ a => !cx.lock r&&a.Cf
 | .half r _ _ => !cx.lock r
def JK(cx:Cx)(dst:Option Nat)(v0 v b:Nat)(ws:List Wr):Bool:=
 ws.all fun w=>w.ok cx dst&&w.AG.all fun n=>decide (n<v0)||n==v||(decide (v0≤n)&&bit b (n-v0))
def Cv(dst:Option Nat):List Wr:=match dst with
 |some d=>[.slot d (one .undef)]
 |none=>[]
structure Rg where
 ops:Array Oper
 v0:Nat
 draw:Bool
def EY{R:Type}(cx:Cx)(g:Rg):List (Nat×Oper)→List Nat→List (Nat×Nat)→St→(St→Option R)→Option R
 | [],_,_,s,k=>k s
 |(i,o)::r,bs,lg,s,k=>
  let b:=nth 0 bs i
  let rm:=A6 g.ops o s
  let exec (s:St):Option R:=(AB cx (g.v0+i) o s).run fun ws=>
   if JK cx o.dst g.v0 (g.v0+i) b ws&&(!g.draw||indep b rm (AE ws) 0 lg)then EY cx g r bs (lg++[(rm,AE ws)]) (s.app ws) k else none
  let skip (s:St):Option R:=if !g.draw||indep b rm (AE (Cv o.dst)) 0 lg then EY cx g r bs (lg++[(rm,AE (Cv o.dst))]) (s.app (Cv o.dst)) k else none
  match o.guard with
  |none=>exec s
  |some (j,want)=>match(g.ops[j]?).bind (·.dst)with
   |none=>none
   |some t=>match s.slot t with
    | .v false [.undef]=>skip s
    | .v false [.sc .bool c]=>match want with
     |true=>bif c then exec (s.AF (.slot t (IQ true)))else skip (s.AF (.slot t (IQ false)))
     |false=>bif c then skip (s.AF (.slot t (IQ true)))else exec (s.AF (.slot t (IQ false)))
    |_=>none
def JF(os:List Oper):List VP:=match os.getLast? with
 |some o=>match o.dst with
  |some d=>[.slot d .bool]
  |none=>[]
 |none=>[]
def Et{R:Type}(cx:Cx)(an:An)(id:Nat)(ops:Array Oper)(draw:Bool)(s:St)(k:St→Option R):Option R:=
 let os:=number 0 ops.toList
 let g:Rg:=⟨ops,s.Bq,draw⟩
 let bs:=E0 ops.toList []
 if ops.toList.all fun o=>match o.guard with
  |none=>true
  |some _=>false
 then EY cx g os bs [] s fun s'=>k { s' with Bq:=s.Bq+ops.size }
 else
  let ps:=match an.Ol id with
   |some p=>p
   |none=>JF ops.toList
  let ms:=Gu os
  if Cp cx ms ps then(EY (cx.in ms ps) g os bs [] s (Aq ps)).bind fun x=>k (B5 ms ps s x)else none
def Hh{R:Type}(cx:Cx)(an:An)(id:Nat)(ops:Array Oper)(draw:Bool)(s:St)(k:St→Option R):Option R:=match an.pre id with
 | []=>Et cx an id ops draw s k
 |r::rs=>if(r::rs).all fun r => !cx.lock r then match As cx s (r::rs)with
   |some fs=>Et cx an id ops draw (s.app fs) k
   |none=>none
  else none
def iter{α γ:Type}:Nat→(α→Option (α⊕γ))→α→Option γ
 |0,_,_=>none
 |n+1,f,x=>(f x).bind fun y=>match y with
  | .inl x=>iter n f x
  | .inr z=>some z
def ev(an:An)(n:Nat){RD:Type}(rp:St→Option RD):Code→{R:Type}→Cx→St→(St→Option R)→(Nat→St→Option R)→(RD→Option R)→Option R
 | .skip,_,cx,s,kn,kx,kr=>kn s
 | .region id ops draw,_,cx,s,kn,kx,kr=>Hh cx an id ops draw s kn
 | .seq a b,_,cx,s,kn,kx,kr=>match an.O3 (Ns a)with
  |none=>ev an n rp a cx s (fun s=>ev an n rp b cx s kn kx kr) kx kr
  |some (ps,rets)=>
   let ms:=CH a
   if Cp cx ms ps then match rets with
    |false=>(ev an n rp a (R:=(DF ps).D) (cx.in ms ps) s (Aq ps) (fun _ _=>none) (fun _=>none)).bind fun x=>ev an n rp b cx (B5 ms ps s x) kn kx kr
    |true=>(ev an n rp a (R:=(DF ps).D⊕RD) (cx.in ms ps) s (fun s=>(Aq ps s).bind fun x=>some (.inl x)) (fun _ _=>none) (fun r=>some (.inr r))).bind fun q=>match q with
     | .inl x=>ev an n rp b cx (B5 ms ps s x) kn kx kr
     | .inr r=>kr r
   else none
 | .cond c x y,_,cx,s,kn,kx,kr=>match s.Ah c with
  | .sc .bool b=>bif b then ev an n rp x cx s kn kx kr else ev an n rp y cx s kn kx kr
  |_=>none
 | .block id c,_,cx,s,kn,kx,kr=>match an.AX id with
  |none=>ev an n rp c cx s kn (fun i s=>if i==id then kn s else kx i s) kr
  |some (ps,rets)=>match c with
   | .loop c=>
    let ms:=CH c
    if Cp cx ms ps then match rets with
     |false=>(Aq ps s).bind fun x0=>(iter (α:=(DF ps).D) (γ:=(DF ps).D) n (fun x=>ev an n rp c (cx.in ms ps) (B5 ms ps s x)
        (fun s=>(Aq ps s).bind fun x=>some (.inl x)) (fun i s=>if i==id then(Aq ps s).bind fun x=>some (.inr x)else none) (fun _=>none)) x0).bind fun x=>
       kn (B5 ms ps s x)
     |true=>(Aq ps s).bind fun x0=>(iter (α:=(DF ps).D) (γ:=(DF ps).D⊕RD) n (fun x=>ev an n rp c (cx.in ms ps) (B5 ms ps s x)
        (fun s=>(Aq ps s).bind fun x=>some (.inl x)) (fun i s=>if i==id then(Aq ps s).bind fun x=>some (.inr (.inl x))else none) (fun r=>some (.inr (.inr r)))) x0).bind fun q=>match q with
       | .inl x=>kn (B5 ms ps s x)
       | .inr r=>kr r
    else none
   |_=>none
 | .exit id,_,cx,s,kn,kx,kr=>kx id s
 | .ret,_,cx,s,kn,kx,kr=>(rp s).bind kr
 |_,_,_,_,_,_,_=>none
def D8:Nat→List Oper→Bool
 |_,[]=>true
 |i,o::r=>o.after.toList.all (fun e => !Region.binds .any e||decide (e.on<i))&&D8 (i+1) r
def codeOk(n:Nat):Code→Bool
 | .region _ ops _=>D8 0 ops.toList&&ops.toList.all fun o=>match o.dst with
  |some d=>decide (d<n)
  |none=>true
 | .seq a b=>codeOk n a&&codeOk n b
 | .cond _ a b=>codeOk n a&&codeOk n b
 | .block _ c=>codeOk n c
 | .loop c=>codeOk n c
 |_=>true
def BB(i:Nat):Nat→List (L×Nat)→List Lv→List LA
 |j,(l,_)::ls,x::vs=>(match l with
  | .sl _ _=>LA.ref ⟨i,j,1,1,[]⟩
  |_=>.sc x.l x.x)::BB i (j+1) ls vs
 |_,_,_=>[]
def DD:Nat→List PM→List Lv→Option (List Wr)
 |_,[],[]=>some []
 |_,[],_::_=>none
 |i,.val g ls::ps,vs=>match DD (i+1) ps (vs.drop ls.length)with
  |some ws=>some (.slot i (.v g ((vs.take ls.length).map fun x=>.sc x.l x.x))::ws)
  |none=>none
 |i,.box ls::ps,vs=>match DD (i+1) ps (vs.drop ls.length)with
  |some ws=>some (.root i ⟨true,1,AM 1 ls vs⟩::.slot i (one (.ptr i 0 1))::ws)
  |none=>none
 |i,.row g ls::ps,vs=>match DD (i+1) ps (vs.drop ls.length)with
  |some ws=>some (.root i ⟨false,1,AM 1 ls vs⟩::.slot i (.v g (BB i 0 ls vs))::ws)
  |none=>none
 |i,.fn f::ps,vs=>match DD (i+1) ps vs with
  |some ws=>some (.slot i (one (.fn f))::ws)
  |none=>none
def blank(n:Nat):St:={sl:=List.replicate n (one .bad),ro:=List.replicate n dead,Bq:=2 }
def Fg(s:St)(us:List (Nat×Nat))(l:L)(m:Nat)(a:LA)(k:Lv→List (Nat×Nat)→Step β):Step β:=match l with
 | .sl t e=>match m with
  |0=>if s.still (.sl t e) a then s.Av (.sl t e) a fun x=>k ⟨.sl t e,x⟩ us else .none
  |m+1=>match a with
   | .DJ=>k ⟨.sl t e,([]:List e.D)⟩ us
   | .ref c=>match s.leaf c.r c.j with
    | .arr AA _ t' e' xs d=>if AA==c.AA&&isNil c.p&&d==m+1 && !us.contains (c.r,c.j)then match L.cast (a:=.sl t' e') (.sl t e) xs with
      |some y=>k ⟨.sl t e,y⟩ ((c.r,c.j)::us)
      |none=>.none
     else .none
    |_=>.none
   | .EF c lo hi=>match s.leaf c.r c.j with
    | .arr AA _ t' e' xs d=>if AA==c.AA&&isNil c.p&&d==m+1 && !us.contains (c.r,c.j)then match L.cast (a:=.sl t' e') (.sl t e) (sub xs lo hi)with
      |some y=>k ⟨.sl t e,y⟩ ((c.r,c.j)::us)
      |none=>.none
     else .none
    |_=>.none
   |_=>.none
 |l=>s.Av l a fun x=>k ⟨l,x⟩ us
def Cd(s:St):List (L×Nat)→List LA→List (Nat×Nat)→(List Lv→List (Nat×Nat)→Step β)→Step β
 | [],[],us,k=>k [] us
 |(l,m)::ls,a::as,us,k=>Fg s us l m a fun x us=>Cd s ls as us fun xs us=>k (x::xs) us
 |_,_,_,_=>.none
def D5(ty:TypeId→Option Ty)(s:St):List (Bool×List (L×Nat))→List ResultVar→List (Nat×Nat)→(List Lv→List (Nat×Nat)→Step β)→Step β
 | [],[],us,k=>k [] us
 |(g,ls)::rs,.tmp t::vs,us,k=>match s.slot t with
  | .v g' as=>if g==g' then Cd s ls as us fun xs us=>D5 ty s rs vs us fun ys us=>k (xs++ys) us else .none
  |_=>.none
 |(g,ls)::rs,.cell t T::vs,us,k=>match ty T,s.slot t with
  |some y,.v false [.ptr r 0 AA]=>if y.agg==g&&y.ls.n==ls.length then s.DE (.ptr r 0 AA) ls.length fun as=>if as.length==ls.length then Cd s ls as us fun xs us=>D5 ty s rs vs us fun ys us=>k (xs++ys) us else .none else .none
  |_,_=>.none
 |_,_,_,_=>.none
def Ep(s:St)(i:Nat):Nat→List (L×Nat)→List Lv→List (Nat×Nat)→(List Lv→List (Nat×Nat)→Step β)→Step β
 |_,[],_,us,k=>k [] us
 |_,_::_,[],_,_=>.none
 |j,(l,d)::ls,x::vs,us,k=>match l with
  | .sl t e=>Fg s us (.sl t e) d (match s.leaf i j with
    | .arr 1 gen _ _ _ _=>.ref ⟨i,j,1,gen,[]⟩
    |_=>.bad) fun y us=>Ep s i (j+1) ls vs us fun ys us=>k (y::ys) us
  |_=>Ep s i (j+1) ls vs us fun ys us=>k (x::ys) us
def C8(s:St):Nat→List PM→List Lv→List (Nat×Nat)→(List Lv→Step β)→Step β
 |_,[],_,_,k=>k []
 |i,.box ls::ps,vs,us,k=>if(s.root i).box&&(s.root i).AA==1&&(s.root i).ls.length==ls.length then s.DE (.ptr i 0 1) ls.length fun as=>Cd s ls as us fun xs us=>C8 s (i+1) ps (vs.drop ls.length) us fun ys=>k (xs++ys)else .none
 |i,.row _ ls::ps,vs,us,k=>Ep s i 0 ls vs us fun xs us=>C8 s (i+1) ps (vs.drop ls.length) us fun ys=>k (xs++ys)
 |i,.val _ ls::ps,vs,us,k=>C8 s (i+1) ps (vs.drop ls.length) us k
 |i,.fn _::ps,vs,us,k=>C8 s (i+1) ps vs us k
def DV:List L→List LA→Option (List Lv)
 | [],[]=>some []
 |l::ls,.sc m x::as=>match L.cast l (a:=m) x,DV ls as with
  |some y,some vs=>some (⟨l,y⟩::vs)
  |_,_=>none
 |_,_=>none
def Na(sm:Sm)(rv:List ResultVar)(s:St):Option sm.outs.D:=match rv with
 | [.tmp t]=>match s.slot t with
  | .v false [.ptr r 0 AA]=>if sm.plain&&(s.root r).box&&(s.root r).AA==AA then match DV (sm.Gw.map (·.1)) (s.root r).ls with
    |some vs=>pack sm.outs vs
    |none=>none
   else none
  |_=>none
 |_=>none
def Ka(s:St):List (L×Nat)→List LA→List Nat
 |(l,m)::ls,a::as=>(if Bz l&&m==0 && !s.still l a then match a with
   | .ref c=>[c.r]
   | .EF c _ _=>[c.r]
   |_=>[]
  else [])++Ka s ls as
 |_,_=>[]
def Ma(s:St):List (Bool×List (L×Nat))→List ResultVar→List Nat
 |(_,ls)::rs,.tmp t::vs=>(match s.slot t with
  | .v _ as=>Ka s ls as
  |_=>[])++Ma s rs vs
 |(_,ls)::rs,.cell t _::vs=>(match s.slot t with
  | .v false [.ptr r 0 _]=>Ka s ls (Ay r 0 (s.root r).ls)
  |_=>[])++Ma s rs vs
 |_,_=>[]
def IC(ty:TypeId→Option Ty)(sm:Sm)(rv:List ResultVar)(vs:List Lv)(s:St):Option sm.outs.D:=
 (D5 ty s sm.rs rv [] fun xs us=>C8 s 0 sm.ps vs us fun ys=>.go (xs++ys)).run (pack sm.outs)
def O2:Cx:={ty:=fun _=>none,env:=⟨fun _=>none,fun _ _=>none,fun _=>false⟩,lock:=fun _=>false,FD:=fun _=>false,KN:=fun _=>false }
def DW(ty:TypeId→Option Ty)(sm:Sm)(rv:List ResultVar)(vs:List Lv)(s:St):Option sm.outs.D:=if sm.mk? then Na sm rv s else
 match As O2 s (Ma s sm.rs rv)with
 |some fs=>IC ty sm rv vs (s.app fs)
 |none=>none
def L5(ty:TypeId→Option Ty)(env:Env)(an:An)(n:Nat)(fn:Func)(sm:Sm)(x:sm.ins.D):Option sm.outs.D:=
 match fn.body,DD 0 sm.ps (unpack sm.ins x)with
 |some c,some ws=>if !codeOk fn.ntmps c then none else ev an n (DW ty sm fn.results.toList (unpack sm.ins x)) c {ty:=ty,env:=env,lock:=fun _=>false,FD:=fun _=>false,KN:=fun _=>false } ((blank fn.ntmps).app ws) (DW ty sm fn.results.toList (unpack sm.ins x)) (fun _ _=>none) some
 |_,_=>none
end Go.Ev
namespace Go.Ev
theorem Ae{α:Type}(d:α):∀(l:List α)(n:Nat),nth d l n=(l[n]?).getD d
 | [],n=>by simp[nth]
 |x::xs,0=>by simp[nth]
 |x::xs,n+1=>by simp[nth,Ae d xs n]
theorem Ca{α:Type}:∀(l:List α)(n:Nat)(y:α),(Cb l n y).length=l.length
 | [],_,_=>rfl
 |_::xs,0,_=>rfl
 |_::xs,n+1,y=>by simp[Cb,Ca xs n y]
theorem Bl{α:Type}:∀(l:List α)(n:Nat)(y:α),Cb l n y=l.set n y
 | [],_,_=>rfl
 |_::xs,0,_=>rfl
 |x::xs,n+1,y=>by simp[Cb,Bl xs n y]
theorem Ax{α:Type}(d:α)(l:List α)(n m:Nat)(y:α):nth d (Cb l n y) m=if n=m∧n<l.length then y else nth d l m:=by
 rw[Ae,Ae,Bl,List.getElem?_set];by_cases h:n=m
 ·subst h;by_cases h2:n<l.length
  ·simp[h2]
  ·simp[h2]
 ·simp[h]
theorem Az{α:Type}(d:α){l:List α}{n:Nat}(h:l.length≤n):nth d l n=d:=by rw[Ae];simp[AAv h]
structure Cw where
 base:Nat
 io:Nat→Prop
 fa:Nat→Prop
 w0:World
 OL:Nat→Nat→Option Value
 Ow:Nat→Nat
 NU:List (String×Array Value)
def at_(a:Addr)(k:Nat):Addr:=⟨a.block,a.off+k,none⟩
def JW(w:World):List (Nat×Nat)→Ls→Value→Ls→Value→Prop
 | [],e,h,e',v=>e'=e∧v=h
 |(i,j)::p,e,h,e',v=>∃a len c t f h',h=.slice (some a) len c∧a.spot=none∧i<len∧e.kinds[j]?=some (.sl t f)∧w.cell? (at_ a (i*e.n+j))=some h'∧JW w p f h' e' v
inductive Key where
 |AX (r:Nat)
 |lf (r j:Nat)
 |fl (k:Nat)
 deriving DecidableEq
structure Wd where
 w:World
 fz:Nat→Prop
 cv:Nat→Nat→Option Value
 bk:Nat→Nat
 om:Key→List Nat
def AR(s:St)(W:Wd):LA→Value→Prop
 | .bad,_=>True
 | .undef,v=>v=Go.undef
 | .DJ,v=>v=.slice none 0 0
 | .JI,v=>v=.pointer none
 | .sc l x,v=>l.rd 0 W.w W.fz v x []
 | .ref c,v=>∀gen t e xs d,s.leaf c.r c.j=.arr c.AA gen t e xs d→(c.p=[]∨gen=c.gen)→∃h e',W.cv c.r c.j=some h∧JW W.w c.p e h e' v
 | .EF c lo hi,v=>∀gen t e xs d,s.leaf c.r c.j=.arr c.AA gen t e xs d→(c.p=[]∨gen=c.gen)→∃h e' A n k,W.cv c.r c.j=some h∧JW W.w c.p e h e' (.slice A n k)∧
   lo≤hi∧hi≤n∧v=.slice (if k=lo then A else A.map (·.add (lo*e'.n))) (hi-lo) (k-lo)
 | .ptr r j AA,v=>(s.root r).box=true→(s.root r).AA=AA→v=.pointer (some ⟨W.bk r,j,none⟩)
 | .Bn c,v=>∀gen t e xs d,s.leaf c.r c.j=.arr c.AA gen t e xs d→(c.p.length≤1∨gen=c.gen)→∃q i off h e' a n k,Ai c.p=some (q,i,off)∧W.cv c.r c.j=some h∧
   JW W.w q e h e' (.slice (some a) n k)∧a.spot=none∧i<n∧v=.pointer (some (at_ a (i*e'.n+off)))
 | .D9 e x off,v=>∃(a:Addr) (g:Nat→Option Value) (arr:Array Value) (T:TypeId) (fr:Nat×Nat),v=.pointer (some (at_ a off))∧W.fz a.block∧W.w.heap[a.block]?=some (.cells arr T fr)∧
   (∀j,g j=arr[a.off+j]?)∧e.rd 0 W.w W.fz g x []
 | .fn f,v=>v=.func (.func f) #[] #[]
 | .JC t c,v=>∃u,v=.iface t u∧∀gen t e xs d,s.leaf c.r c.j=.arr c.AA gen t e xs d→(c.p=[]∨gen=c.gen)→∃h e',W.cv c.r c.j=some h∧JW W.w c.p e h e' u
 | .EI g ps _,v=>∃bs:List Nat,v=.func (.func g) #[] (bs.map fun b=>Value.pointer (some ⟨b,0,none⟩)).toArray∧bs.length=ps.length∧∀(k:Nat)(p:Nat×Nat)(b:Nat),ps[k]?=some p→bs[k]?=some b→(s.root p.1).box=true→(s.root p.1).AA=p.2→b=W.bk p.1
 | .arr ..,_=>False
def E4(s:St)(W:Wd)(g:Bool)(as:List LA)(v:Value):Prop:=match g with
 |false=>match as with
  | [a]=>AR s W a v
  |_=>False
 |true=>∃cs:Array Value,v=.agg cs∧cs.size=as.length∧∀(j:Nat)(a:LA),as[j]?=some a→∃u,cs[j]?=some u∧AR s W a u
def Ba(s:St)(W:Wd):AV→Value→Prop
 | .v g as,v=>E4 s W g as v
 | .Dp vs,v=>∃us:Array Value,v=.tuple us∧us.size=vs.length∧∀(j:Nat)(p:Bool×List LA),vs[j]?=some p→∃u,us[j]?=some u∧E4 s W p.1 p.2 u
 | .bx as,v=>∃(b off:Nat) (arr:Array Value) (T:TypeId) (fr:Nat×Nat),v=.pointer (some ⟨b,off,none⟩)∧W.fz b∧W.w.heap[b]?=some (.cells arr T fr)∧(∀j,j<arr.size→¬(fr.1≤j∧j<fr.2))∧∀(j:Nat)(a:LA),as[j]?=some a→∃u,arr[off+j]?=some u∧AR s W a u
def Aa(s:St)(W:Wd)(a:LA)(v?:Option Value)(o:List Nat):Prop:=match a with
 | .arr _ _ t e xs d=>∃v,v?=some v∧AD e d W.w W.fz v xs o
 |a=>o=[]∧∀v,v?=some v→AR s W a v
def EM(s:St)(W:Wd)(r:Nat)(x:Bp):Prop:=
 (∀j,Aa s W (nth .bad x.ls j) (W.cv r j) (W.om (.lf r j)))∧
 (if x.box then W.om (.AX r)=[W.bk r]∧∃arr T fr,W.w.heap[W.bk r]?=some (.cells arr T fr)∧(∀j,j<arr.size→¬(fr.1≤j∧j<fr.2))∧arr.size=x.ls.length∧∀j,W.cv r j=arr[j]?
  else W.om (.AX r)=[])
structure Sep(E:Cw)(W:Wd):Prop where
 nodup:∀k,(W.om k).Nodup
 A4:∀k k',k≠k'→∀b∈W.om k,b∉W.om k'
 own:∀k,∀b∈W.om k,¬W.fz b∧b<W.w.heap.size∧(E.base≤b∨E.io b)
 fz:∀b,W.fz b→b<W.w.heap.size∧(E.fa b∨E.base≤b∨E.io b)
 frame:∀b,b<E.base→¬E.io b→W.w.heap[b]?=E.w0.heap[b]?
 size:E.base≤W.w.heap.size
 rest:W.w.os=E.w0.os∧W.w.tape=E.w0.tape∧W.w.output=E.w0.output
structure AW(E:Cw)(s:St)(tm:Array Value)(W:Wd):Prop where
 DH:s.sl.length=tm.size
 B0:s.ro.length=tm.size
 AP:∀t,Ba s W (s.slot t) (tm.getD t Go.undef)
 roots:∀r,EM s W r (s.root r)
 sep:Sep E W
 init:(∀(r j gen:Nat)(t:TypeId)(e:Ls)(xs:List e.D)(d:Nat),s.leaf r j=.arr 1 gen t e xs d→W.cv r j=E.OL r j)∧∀r,(s.root r).box=true→(s.root r).AA=1→W.bk r=E.Ow r
theorem Ls.HB:∀(e:Ls)(j:Nat) {d:Nat} {w:World} {fz:Nat→Prop} {g:Nat→Option Value} {x:e.D} {o:List Nat} {t:TypeId} {f:Ls},
  e.rd d w fz g x o→e.kinds[j]?=some (.sl t f)→∃(h:Value) (ys:List f.D) (o':List Nat),g j=some h∧AD f d w fz h ys o'∧∀b∈o',b∈o
 | .nil,j,_,_,_,_,_,_,_,_,_,hk=>by simp[Ls.kinds]at hk
 | .one l,j,d,w,fz,g,x,o,t,f,h,hk=>by
  simp only[Ls.rd]at h;obtain⟨v,hg,h⟩:=h;cases j with
  |zero=>simp[Ls.kinds]at hk;subst hk;exact⟨v,x,o,hg,h,fun b hb=>hb⟩
  |succ j=>simp[Ls.kinds]at hk
 | .cons l ls,j,d,w,fz,g,x,o,t,f,h,hk=>by
  simp only[Ls.rd]at h;obtain⟨v,o1,o2,hg,h1,h2,rfl⟩:=h;cases j with
  |zero=>simp[Ls.kinds]at hk;subst hk;exact⟨v,x.1,o1,hg,h1,fun b hb=>AAQ _ hb⟩
  |succ j=>
   simp only[Ls.kinds,AAx]at hk;obtain⟨h',ys,o',a,b,c⟩:=Ls.HB ls j h2 hk;exact⟨h',ys,o',a,b,fun x hx=>AAO _ (c x hx)⟩
theorem Row.cell{w:World}{a:Addr}{n:Nat}{own:Bool}{g:Nat→Option Value}(h:Row w a n own g)(j:Nat):w.cell? (at_ a j)=g j:=by obtain⟨hs,arr,T,fr,hh,hn,hb,hg⟩:=h;simp[World.cell?,at_,hh,hg]
theorem ML{w:World}:∀(p:List (Nat×Nat)) {e:Ls} {d:Nat} {fz:Nat→Prop} {h:Value} {xs:List e.D} {o:List Nat} {e':Ls} {v:Value},
  AD e d w fz h xs o→JW w p e h e' v→∃(d':Nat) (ys:List e'.D) (o':List Nat),AD e' d' w fz v ys o'∧∀b∈o',b∈o
 | [],e,d,fz,h,xs,o,e',v,hr,hn=>by obtain⟨rfl,rfl⟩:=hn;exact⟨d,xs,o,hr,fun b hb=>hb⟩
 |(i,j)::p,e,d,fz,h,xs,o,e',v,hr,hn=>by
  obtain⟨a,len,c,t',f,h',rfl,hs,hi,hk,hc,hn⟩:=hn;obtain⟨A,c',hv,hle,hr⟩:=hr;injection hv with hA hl uW
  subst hA;have vF:i<xs.length:=hl▸hi;rcases hr with hr|⟨g,os,tY,uD,ho⟩
  ·have:=hr.2.1;omega
  obtain⟨h2,ys,o',hg,te,uX⟩:=Ls.HB e j (uD i vF) hk
  have:h2=h':=by have:=tY.cell (i*e.n+j);rw[this,hg]at hc;exact Option.some.inj hc
  subst this;obtain⟨d2,zs,o2,hz,w5⟩:=ML p te hn;refine⟨d2,zs,o2,hz,fun b hb=>?_⟩;have th:=uX b (w5 b hb)
  revert ho
  cases decide (0<d)with
  |true=>intro ho;rw[ho];exact AAJ _ (AAI.2 ⟨i,AAR.2 vF,th⟩)
  |false=>intro ho;rw[ho.2.2 i vF]at th;cases th
theorem BN{w w':World}:∀(p:List (Nat×Nat)) {e:Ls} {d:Nat} {fz:Nat→Prop} {h:Value} {xs:List e.D} {o:List Nat} {e':Ls} {v:Value},
  AD e d w fz h xs o→JW w p e h e' v→(∀b,b∈o∨fz b→w'.heap[b]?=w.heap[b]?)→JW w' p e h e' v
 | [],e,d,fz,h,xs,o,e',v,hr,hn,hf=>hn
 |(i,j)::p,e,d,fz,h,xs,o,e',v,hr,hn,hf=>by
  obtain⟨a,len,c,t',f,h',rfl,hs,hi,hk,hc,hn⟩:=hn;obtain⟨A,c',hv,hle,hr⟩:=hr;injection hv with hA hl uW
  subst hA;have vF:i<xs.length:=hl▸hi;rcases hr with hr|⟨g,os,tY,uD,ho⟩
  ·have:=hr.2.1;omega
  obtain⟨h2,ys,o',hg,te,uX⟩:=Ls.HB e j (uD i vF) hk
  have u4:a.block∈o∨fz a.block:=by
   revert ho
   cases decide (0<d)with
   |true=>intro ho;left;rw[ho];simp
   |false=>intro ho;exact .inr ho.1
  have:h2=h':=by have:=tY.cell (i*e.n+j);rw[this,hg]at hc;exact Option.some.inj hc
  subst this;refine⟨a,len,c,t',f,h2,rfl,hs,hi,hk,?_,BN p te hn fun b hb=>hf b ?_⟩
  ·rw[(tY.frame (hf _ u4)).cell,hg]
  ·rcases hb with hb|hb
   ·have th:=uX b hb;left
    revert ho
    cases decide (0<d)with
    |true=>intro ho;rw[ho];exact AAJ _ (AAI.2 ⟨i,AAR.2 vF,th⟩)
    |false=>intro ho;rw[ho.2.2 i vF]at th;cases th
   ·exact .inr hb
section
variable {E:Cw}{s s':St}{tm:Array Value}{W:Wd}{w':World}
theorem EM.row{r:Nat}(h:EM s W r (s.root r)){j AA gen:Nat}{t:TypeId}{e:Ls}{xs:List e.D}{d:Nat}(hl:s.leaf r j=.arr AA gen t e xs d):
  ∃v,W.cv r j=some v∧AD e d W.w W.fz v xs (W.om (.lf r j)):=by
 have:=h.1 j;unfold St.leaf at hl;rw[hl]at this;exact this
def Still(W:Wd)(w':World):Prop:=∀b,(W.fz b∨∃k,b∈W.om k)→w'.heap[b]?=W.w.heap[b]?
theorem AR.world(hr:∀r,EM s W r (s.root r))(hf:Still W w'){a:LA}{v:Value}(h:AR s W a v):AR s { W with w:=w' } a v:=by
 cases a with
 |bad=>trivial
 |undef=>exact h
 |DJ=>exact h
 |JI=>exact h
 |sc l x=>exact L.AJ l h (fun b hb=>hf b (hb.elim (fun hb=>by cases hb) .inl)) fun b hb=>hb
 |ref c=>
  intro gen t e xs d hl hp;obtain⟨h',e',hc,hn⟩:=h gen t e xs d hl hp;obtain⟨u,hu,te⟩:=(hr c.r).row hl;have:u=h':=Option.some.inj (hu.symm.trans hc);subst this;exact⟨u,e',hc,BN _ te hn fun b hb=>hf b (hb.elim (fun hb=>.inr ⟨_,hb⟩) .inl)⟩
 |EF c lo hi=>
  intro gen t e xs d hl hp;obtain⟨h',e',A,n,k,hc,hn,rest⟩:=h gen t e xs d hl hp;obtain⟨u,hu,te⟩:=(hr c.r).row hl;have:u=h':=Option.some.inj (hu.symm.trans hc);subst this;exact⟨u,e',A,n,k,hc,BN _ te hn fun b hb=>hf b (hb.elim (fun hb=>.inr ⟨_,hb⟩) .inl),rest⟩
 |ptr r j AA=>exact h
 |Bn c=>
  intro gen t e xs d hl hp;obtain⟨q,i,off,h',e',a,n,k,hs,hc,hn,rest⟩:=h gen t e xs d hl hp;obtain⟨u,hu,te⟩:=(hr c.r).row hl;have:u=h':=Option.some.inj (hu.symm.trans hc);subst this;exact⟨q,i,off,u,e',a,n,k,hs,hc,BN _ te hn fun b hb=>hf b (hb.elim (fun hb=>.inr ⟨_,hb⟩) .inl),rest⟩
 |D9 e x off=>
  obtain⟨a,g,arr,T,fr,hv,hz,hh,hg,te⟩:=h;exact⟨a,g,arr,T,fr,hv,hz,(hf _ (.inl hz)).trans hh,hg,Ls.AJ e te (fun b hb=>hf b (hb.elim (fun hb=>by cases hb) .inl)) fun b hb=>hb⟩
 |fn f=>exact h
 |JC t c=>
  obtain⟨u,hv,h⟩:=h;refine⟨u,hv,fun gen t e xs d hl hp=>?_⟩;obtain⟨h',e',hc,hn⟩:=h gen t e xs d hl hp;obtain⟨u',hu,te⟩:=(hr c.r).row hl;have:u'=h':=Option.some.inj (hu.symm.trans hc);subst this;exact⟨u',e',hc,BN _ te hn fun b hb=>hf b (hb.elim (fun hb=>.inr ⟨_,hb⟩) .inl)⟩
 |EI g ps qs=>exact h
 |arr=>exact h
theorem E4.map{s s':St}{W W':Wd}(f:∀a v,AR s W a v→AR s' W' a v){g:Bool}{as:List LA}{v:Value}(h:E4 s W g as v):E4 s' W' g as v:=by
 unfold E4 at *;cases g with
 |false=>cases as with
  |nil=>exact h
  |cons a as=>cases as with
   |nil=>exact f _ _ h
   |cons=>exact h
 |true=>
  obtain⟨cs,hv,hs,h⟩:=h;exact⟨cs,hv,hs,fun j a ha=>let ⟨u,hu,hl⟩:=h j a ha;⟨u,hu,f _ _ hl⟩⟩
theorem Ba.map{s s':St}{W W':Wd}(hz:∀b,W.fz b→W'.fz b∧W'.w.heap[b]?=W.w.heap[b]?)(f:∀a v,AR s W a v→AR s' W' a v){a:AV}{v:Value}(h:Ba s W a v):Ba s' W' a v:=by
 cases a with
 |v g as=>exact E4.map f h
 |Dp vs=>
  obtain⟨us,hv,hs,h⟩:=h;exact⟨us,hv,hs,fun j p hp=>let ⟨u,hu,hl⟩:=h j p hp;⟨u,hu,E4.map f hl⟩⟩
 |bx as=>
  obtain⟨b,off,arr,T,fr,hv,h1,h2,h3,h⟩:=h;exact⟨b,off,arr,T,fr,hv,(hz b h1).1,(hz b h1).2.trans h2,h3,fun j a ha=>let ⟨u,hu,hl⟩:=h j a ha;⟨u,hu,f _ _ hl⟩⟩
theorem Aa.map{s s':St}{W W':Wd}(f:∀a v,AR s W a v→AR s' W' a v){a:LA}{v?:Option Value}{o:List Nat}
  (g:∀(e:Ls)(d:Nat)(xs:List e.D)(v:Value),AD e d W.w W.fz v xs o→AD e d W'.w W'.fz v xs o) (h:Aa s W a v? o):Aa s' W' a v? o:=by
 unfold Aa at *;cases a with
 |arr AA gen t e xs d=>obtain⟨v,hv,h⟩:=h;exact⟨v,hv,g _ _ _ _ h⟩
 |_=>exact⟨h.1,fun v hv=>f _ _ (h.2 v hv)⟩
theorem AW.world(h:AW E s tm W)(hf:Still W w')(hb:∀b,b<E.base→¬E.io b→w'.heap[b]?=W.w.heap[b]?)(hs:W.w.heap.size≤w'.heap.size)(ho:w'.os=W.w.os∧w'.tape=W.w.tape∧w'.output=W.w.output):AW E s tm { W with w:=w' } where
 DH:=h.DH
 B0:=h.B0
 AP t:=Ba.map (W:=W) (W':={ W with w:=w' }) (fun b hb=>⟨hb,hf b (.inl hb)⟩) (fun _ _=>AR.world h.roots hf) (h.AP t)
 roots r:=by
  obtain⟨h1,h2⟩:=h.roots r;refine⟨fun j=>(h1 j).map (fun _ _=>AR.world h.roots hf) fun e d xs v te=>te.frame (fun b hb=>hf b (hb.elim (fun hb=>.inr ⟨_,hb⟩) .inl)) fun b hb=>hb,?_⟩;split
  ·rename_i wP;rw[AAK wP]at h2;obtain⟨ho,arr,T,fr,hh,rest⟩:=h2;exact⟨ho,arr,T,fr,(hf _ (.inr ⟨.AX r,by rw[ho];simp⟩)).trans hh,rest⟩
  ·rename_i wP;rw[AAM wP]at h2;exact h2
 sep:={
  nodup:=h.sep.nodup
  A4:=h.sep.A4
  own:=fun k b hb=>let ⟨a,c,d⟩:=h.sep.own k b hb;⟨a,AA7 c hs,d⟩
  fz:=fun b th=>let ⟨a,c⟩:=h.sep.fz b th;⟨AA7 a hs,c⟩
  frame:=fun b vC wA=>(hb b vC wA).trans (h.sep.frame b vC wA)
  size:=AAw h.sep.size hs
  rest:=⟨ho.1.trans h.sep.rest.1,ho.2.1.trans h.sep.rest.2.1,ho.2.2.trans h.sep.rest.2.2⟩ }
 init:=h.init
theorem AW.KG(h:AW E s tm W)(hf:∀b,b<W.w.heap.size→w'.heap[b]?=W.w.heap[b]?):Still W w':=by
 intro b hb;rcases hb with hb|⟨k,hb⟩
 ·exact hf b (h.sep.fz b hb).1
 ·exact hf b (h.sep.own k b hb).2.1
end
end Go.Ev
namespace Go.Ev
def LA.CN:LA→Bool
 | .arr _ _ _ _ _ _=>true
 |_=>false
def Ad(s:St)(v:Nat):Prop:=(∀t,v∉(s.slot t).AG)∧(∀r j,(s.leaf r j).CN=true∨v∉(s.leaf r j).AG)∧1<v
structure EN(v:Nat)(s s':St)(W W':Wd):Prop where
 fz:∀b,W.fz b→W'.fz b
 LN:∀b,W.fz b→W'.w.heap[b]?=W.w.heap[b]?
 leaf:∀r j AA gen t e xs d,s'.leaf r j=.arr AA gen t e xs d→AA≠v→W'.cv r j=W.cv r j∧
  ∃gen0 t0 xs0 d0,s.leaf r j=.arr AA gen0 t0 e xs0 d0∧(gen≠v→gen=gen0∧∀p h e' u,W.cv r j=some h→JW W.w p e h e' u→JW W'.w p e h e' u)
 box:∀r,(s'.root r).box=true→(s'.root r).AA≠v→(s.root r).box=true∧(s.root r).AA=(s'.root r).AA∧W'.bk r=W.bk r
section
variable {v:Nat}{E:Cw}{s s':St}{tm tm':Array Value}{W W':Wd}
theorem Cn:∀ {p q:List (Nat×Nat)} {i off:Nat},Ai p=some (q,i,off)→p=q++[(i,off)]
 | [],_,_,_,h=>by simp[Ai]at h
 | [x],q,i,off,h=>by simp[Ai]at h;grind
 |x::y::r,q,i,off,h=>by
  simp only[Ai]at h;split at h
  ·rename_i q' i' off' hq;injection h with h
   injection h with h1 h2
   injection h2 with h2 h3
   subst h1;subst h2;subst h3;rw[Cn hq];rfl
  ·cases h
theorem AR.Dq(h:EN v s s' W W'){a:LA}{u:Value}(hv:v∉a.AG)(ha:AR s W a u):AR s' W' a u:=by
 cases a with
 |bad=>trivial
 |undef=>exact ha
 |DJ=>exact ha
 |JI=>exact ha
 |sc l x=>exact L.AJ l ha (fun b hb=>h.LN b (hb.elim (fun hb=>by cases hb) id)) h.fz
 |ref c=>
  intro gen t e xs d hl hp;have tj:c.AA≠v∧c.gen≠v:=by simp[LA.AG]at hv;exact⟨fun e=>hv.1 e.symm,fun e=>hv.2 e.symm⟩
  obtain⟨hc,gen0,t0,xs0,d0,vP,hg⟩:=h.leaf _ _ _ _ _ _ _ _ hl tj.1;by_cases hn:c.p=[]
  ·obtain⟨h',e',uW,yJ⟩:=ha _ _ _ _ _ vP (.inl hn);rw[hn]at yJ;exact⟨h',e',hc.trans uW,by rw[hn];exact yJ⟩
  ·have uh:gen=c.gen:=hp.resolve_left hn;obtain⟨rfl,u5⟩:=hg (by rw[uh];exact tj.2);obtain⟨h',e',uW,yJ⟩:=ha _ _ _ _ _ vP (.inr uh);grind
 |EF c lo hi=>
  intro gen t e xs d hl hp;have tj:c.AA≠v∧c.gen≠v:=by simp[LA.AG]at hv;exact⟨fun e=>hv.1 e.symm,fun e=>hv.2 e.symm⟩
  obtain⟨hc,gen0,t0,xs0,d0,vP,hg⟩:=h.leaf _ _ _ _ _ _ _ _ hl tj.1;by_cases hn:c.p=[]
  ·obtain⟨h',e',A,n,k,uW,yJ,rest⟩:=ha _ _ _ _ _ vP (.inl hn);rw[hn]at yJ;exact⟨h',e',A,n,k,hc.trans uW,by rw[hn];exact yJ,rest⟩
  ·have uh:gen=c.gen:=hp.resolve_left hn;obtain⟨rfl,u5⟩:=hg (by rw[uh];exact tj.2);obtain⟨h',e',A,n,k,uW,yJ,rest⟩:=ha _ _ _ _ _ vP (.inr uh);grind
 |ptr r j AA=>
  intro hb tc;have tj:AA≠v:=by simp[LA.AG]at hv;exact fun e=>hv e.symm
  obtain⟨b1,b2,b3⟩:=h.box r hb (by omega);rw[b3];exact ha b1 (b2.trans tc)
 |Bn c=>
  intro gen t e xs d hl hp;have tj:c.AA≠v∧c.gen≠v:=by simp[LA.AG]at hv;exact⟨fun e=>hv.1 e.symm,fun e=>hv.2 e.symm⟩
  obtain⟨hc,gen0,t0,xs0,d0,vP,hg⟩:=h.leaf _ _ _ _ _ _ _ _ hl tj.1;by_cases hn:c.p.length≤1
  ·obtain⟨q,i,off,h',e',a,n,k,hs,uW,yJ,rest⟩:=ha _ _ _ _ _ vP (.inl hn)
   have hq:q=[]:=by have h1:=Cn hs;rw[h1,AA2]at hn;simpa using hn
   subst hq;exact⟨[],i,off,h',e',a,n,k,hs,hc.trans uW,yJ,rest⟩
  ·have uh:gen=c.gen:=hp.resolve_left hn;obtain⟨rfl,u5⟩:=hg (by rw[uh];exact tj.2);obtain⟨q,i,off,h',e',a,n,k,hs,uW,yJ,rest⟩:=ha _ _ _ _ _ vP (.inr uh);grind
 |D9 e x off=>
  obtain⟨a,g,arr,T,fr,vE,hz,hh,hg,te⟩:=ha;exact⟨a,g,arr,T,fr,vE,h.fz _ hz,(h.LN _ hz).trans hh,hg,Ls.AJ e te (fun b hb=>h.LN b (hb.elim (fun hb=>by cases hb) id)) h.fz⟩
 |fn f=>exact ha
 |JC tt c=>
  obtain⟨u',vE,ha⟩:=ha;refine⟨u',vE,fun gen t e xs d hl hp=>?_⟩;have tj:c.AA≠v∧c.gen≠v:=by simp[LA.AG]at hv;exact⟨fun e=>hv.1 e.symm,fun e=>hv.2 e.symm⟩
  obtain⟨hc,gen0,t0,xs0,d0,vP,hg⟩:=h.leaf _ _ _ _ _ _ _ _ hl tj.1;by_cases hn:c.p=[]
  ·obtain⟨h',e',uW,yJ⟩:=ha _ _ _ _ _ vP (.inl hn);rw[hn]at yJ;exact⟨h',e',hc.trans uW,by rw[hn];exact yJ⟩
  grind
 |EI g ps qs=>
  obtain⟨bs,hu,hlen,hk⟩:=ha;refine⟨bs,hu,hlen,fun k p b hp hb h1 h2=>?_⟩;have tj:p.2≠v:=fun e=>hv (by simp only[LA.AG];exact AAs.2 ⟨p,AAN hp,e⟩);obtain⟨b1,b2,b3⟩:=h.box p.1 h1 (by rw[h2];exact tj);grind
 |arr=>exact ha
theorem E4.Dq(h:EN v s s' W W'){g:Bool}{as:List LA}{u:Value}(hv:∀a∈as,v∉a.AG)(ha:E4 s W g as u):E4 s' W' g as u:=by
 unfold E4 at *;cases g with
 |false=>cases as with
  |nil=>exact ha
  |cons a as=>cases as with
   |nil=>exact AR.Dq h (hv a (by simp)) ha
   |cons=>exact ha
 |true=>
  obtain⟨cs,hc,hs,ha⟩:=ha;exact⟨cs,hc,hs,fun j a hj=>let ⟨u,hu,hl⟩:=ha j a hj;⟨u,hu,AR.Dq h (hv a (AAN hj)) hl⟩⟩
theorem Ba.Dq(h:EN v s s' W W'){a:AV}{u:Value}(hv:v∉a.AG)(ha:Ba s W a u):Ba s' W' a u:=by
 cases a with
 |v g as=>exact E4.Dq h (fun a hm hx=>hv (AAI.2 ⟨a,hm,hx⟩)) ha
 |Dp vs=>
  obtain⟨us,hu,hs,ha⟩:=ha;refine⟨us,hu,hs,fun j p hp=>?_⟩;obtain⟨u,hu,hl⟩:=ha j p hp;exact⟨u,hu,E4.Dq h (fun a hm hx=>hv (AAI.2 ⟨p,AAN hp,AAI.2 ⟨a,hm,hx⟩⟩)) hl⟩
 |bx as=>
  obtain⟨b,off,arr,T,fr,hu,h1,h2,h3,ha⟩:=ha;refine⟨b,off,arr,T,fr,hu,h.fz b h1,(h.LN b h1).trans h2,h3,fun j a hj=>?_⟩;obtain⟨u,hu,hl⟩:=ha j a hj;exact⟨u,hu,AR.Dq h (fun hx=>hv (AAI.2 ⟨a,AAN hj,hx⟩)) hl⟩
theorem G8{α:Type}{d:α}{l:List α}{n:Nat}(h:n<l.length):nth d l n∈l:=by rw[Ae,AAF h];simp
theorem Aa.Dq(h:EN v s s' W W'){a:LA}{v?:Option Value}{o:List Nat}(hv:a.CN=true∨v∉a.AG)(ho:∀b∈o,W'.w.heap[b]?=W.w.heap[b]?)(ha:Aa s W a v? o):Aa s' W' a v? o:=by
 unfold Aa at *;cases a with
 |arr AA gen t e xs d=>
  obtain⟨u,hu,hr⟩:=ha;exact⟨u,hu,hr.frame (fun b hb=>hb.elim (ho b) (h.LN b)) h.fz⟩
 |_=>exact⟨ha.1,fun u hu=>AR.Dq h (hv.resolve_left (by simp[LA.CN])) (ha.2 u hu)⟩
theorem Sep.IA(h:Sep E W)(ch:Key→Prop)(vO:W'.fz=W.fz)(uC:W.w.heap.size≤W'.w.heap.size)
  (um:∀b,b<E.base→¬E.io b→W'.w.heap[b]?=W.w.heap[b]?) (ho:W'.w.os=W.w.os∧W'.w.tape=W.w.tape∧W'.w.output=W.w.output)
  (tU:∀k,¬ch k→W'.om k=W.om k) (ur:∀k,ch k→(W'.om k).Nodup) (uj:∀k k',ch k→ch k'→k≠k'→∀b∈W'.om k,b∉W'.om k')
  (ue:∀k,ch k→∀b∈W'.om k,(∃k0,ch k0∧b∈W.om k0)∨(W.w.heap.size≤b∧b<W'.w.heap.size)):Sep E W' where
 nodup k:=by
  by_cases hk:ch k
  ·grind
  ·rw[tU k hk];exact h.nodup k
 A4 k k' tj b hb th:=by
  by_cases hk:ch k<;>by_cases u7:ch k'
  ·grind
  ·rw[tU k' u7]at th;rcases ue k hk b hb with⟨k0,xy,h0⟩|⟨h0,_⟩
   ·exact h.A4 k0 k' (fun e=>u7 (e▸xy)) b h0 th
   ·have:=(h.own k' b th).2.1;omega
  ·rw[tU k hk]at hb;rcases ue k' u7 b th with⟨k0,xy,h0⟩|⟨h0,_⟩
   ·exact h.A4 k0 k (fun e=>hk (e▸xy)) b h0 hb
   ·have:=(h.own k b hb).2.1;omega
  ·rw[tU k hk]at hb;rw[tU k' u7]at th;exact h.A4 k k' tj b hb th
 own k b hb:=by
  rw[vO];by_cases hk:ch k
  ·rcases ue k hk b hb with⟨k0,_,h0⟩|⟨h0,h1⟩
   ·obtain⟨a,c,d⟩:=h.own k0 b h0;grind
   ·exact⟨fun hz=>by have:=(h.fz b hz).1;omega,h1,.inl (by have:=h.size;omega)⟩
  ·rw[tU k hk]at hb;obtain⟨a,c,d⟩:=h.own k b hb;grind
 fz b hb:=by rw[vO]at hb;obtain⟨a,c⟩:=h.fz b hb;grind
 frame b h1 h2:=(um b h1 h2).trans (h.frame b h1 h2)
 size:=AAw h.size uC
 rest:=⟨ho.1.trans h.rest.1,ho.2.1.trans h.rest.2.1,ho.2.2.trans h.rest.2.2⟩
theorem AW.IA(h:AW E s tm W)(hv:Ad s v)(ht:EN v s s' W W')(va:Sep E W')(l1:s'.sl.length=tm'.size)(l2:s'.ro.length=tm'.size)
  (hs:∀t,(s'.slot t=s.slot t∧tm'.getD t Go.undef=tm.getD t Go.undef)∨Ba s' W' (s'.slot t) (tm'.getD t Go.undef))
  (hr:∀r,EM s' W' r (s'.root r)):AW E s' tm' W' where
 DH:=l1
 B0:=l2
 AP t:=by
  rcases hs t with⟨a,b⟩|a
  ·rw[a,b];exact Ba.Dq ht (hv.1 t) (h.AP t)
  ·exact a
 roots:=hr
 sep:=va
 init:=by
  have h1:1≠v:=Nat.ne_of_lt hv.2.2;refine⟨fun r j gen t e xs d hl=>?_,fun r hb tc=>?_⟩
  ·obtain⟨hc,gen0,t0,xs0,d0,vP,_⟩:=ht.leaf r j 1 gen t e xs d hl h1;exact hc.trans (h.init.1 _ _ _ _ _ _ _ vP)
  ·obtain⟨b1,b2,b3⟩:=ht.box r hb (by omega);exact b3.trans (h.init.2 r b1 (b2.trans tc))
end
end Go.Ev
namespace Go.Ev
def CQ:L→Value
 | .int k=>.int k 0
 | .bool=>.bool false
 | .str=>.string .empty
 | .sl _ _=>.slice none 0 0
structure Lr(P:Program)(t:TypeId)(e:Ls):Prop where
 info:∃i,P.info? t=some i∧i.size=e.n∧i.bytes≤1024∧∃z,i.zero=some z∧z.cells=(e.kinds.map CQ).toArray
 pos:0<e.n
def GQ(P:Program)(t:TypeId):L→Prop
 | .int k=>P.underlying t=some (.int k)
 | .bool=>P.underlying t=some .bool
 | .str=>P.underlying t=some .string
 | .sl t' e=>P.underlying t=some (.slice t')∧Lr P t' e
def I4(P:Program)(t:TypeId):L→Prop
 | .int k=>P.underlying t=some (.int k)
 | .bool=>P.underlying t=some .bool
 | .str=>P.underlying t=some .string
 | .sl _ _=>False
def Gy(P:Program):Nat→List Field→List L→Prop
 |_,[],[]=>True
 | n, f :: fs, l :: ls => f.name ≠ "_" ∧ f.offset = n ∧ I4 P f.type l ∧ Gy P (n + 1) fs ls
 |_,_,_=>False
structure Ot(P:Program)(t:TypeId)(ls:List L):Prop where
 held:P.stoodInHeld t=false
 guard:P.eqGuardType P.depth t=false
 fields:∃fs:Array Field,P.underlying t=some (.struct fs)∧Gy P 0 fs.toList ls
structure NY(P:Program)(t:TypeId)(ty:Ty):Prop where
 info:∃i,P.info? t=some i∧i.size=ty.ls.n∧∃z,i.zero=some z∧z.cells=(ty.ls.kinds.map CQ).toArray∧(z=.agg (ty.ls.kinds.map CQ).toArray∨ty.agg=false)
 agg:ty.agg=true→∃fs:Array Field,P.underlying t=some (.struct fs)∧fs.toList.map (fun f=>(f.offset,f.type))=ty.fs∧∃pl,fs.toList.mapM (fun f=>(P.info? f.type).map fun i=>(f.offset,i.size))=some pl
 lone:ty.agg=false→∃l,ty.ls=.one l∧GQ P t l
 eqs:ty.eq=true→Ot P t ty.ls.kinds
def Of(P:Program)(t:TypeId):Prop:=∃i z c,P.info? t=some i∧i.size=1∧i.zero=some z∧z.cells = #[c]∧c.oneCell'=true
def Lt(P:Program)(env:Env):Prop:=∀t,env.Oj t=true→Of P t
def Dr(P:Program)(cx:Cx):Prop:=∀t ty,cx.ty t=some ty→NY P t ty
theorem GQ.JJ{P:Program}{t:TypeId}{l:L}(h:GQ P t l):∃d,P.underlying t=some d∧(match d with | .struct _ | .array _ _=>true|_=>false)=false:=by
 cases l with
 |int k=>exact⟨_,h,rfl⟩
 |bool=>exact⟨_,h,rfl⟩
 |str=>exact⟨_,h,rfl⟩
 |sl t' e=>exact⟨_,h.1,rfl⟩
def Be(P:Program)(E:Cw)(o:Oper)(a:Act)(w:World)(s':St):Prop:=
 ∀(next:Act→World→Prop)(Q:Exit→Act→World→Prop),(∀a' W',a'.defers=a.defers→AW E s' a'.tmps W'→next a' W'.w)→o.wp P a w next Q
section
variable {P:Program}{E:Cw}{s:St}{tm:Array Value}{W:Wd}{o:Oper}{a:Act}
theorem BS(s:St)(d:Nat)(x:AV)(t:Nat):(s.AF (.slot d x)).slot t=if d=t∧d<s.sl.length then x else s.slot t:=Ax _ _ _ _ _
theorem Au(s:St)(d:Nat)(x:Bp)(t:Nat):(s.AF (.root d x)).root t=if d=t∧d<s.ro.length then x else s.root t:=Ax _ _ _ _ _
theorem AW.slot(h:AW E s tm W)(d:Nat){x:AV}{u:Value}(hx:Ba s W x u):AW E (s.AF (.slot d x)) (tm.setIfInBounds d u) W where
 DH:=by simp[St.AF,Ca,h.DH]
 B0:=by simp[St.AF,h.B0]
 AP t:=by
  rw[BS];by_cases hd:d=t∧d<s.sl.length
  ·obtain⟨rfl,tX⟩:=hd;rw[AAK ⟨rfl,tX⟩]
   have:(tm.setIfInBounds d u).getD d Go.undef=u:=by rw[h.DH]at tX;simp[AAz,tX]
   rw[this];exact hx
  ·rw[AAM hd]
   have:(tm.setIfInBounds d u).getD t Go.undef=tm.getD t Go.undef:=by
    by_cases hdt:d=t
    ·have:¬d<tm.size:=fun hl=>hd ⟨hdt,by rw[h.DH];exact hl⟩;grind
    ·simp[AAz,hdt]
   rw[this];exact h.AP t
 roots r:=h.roots r
 sep:=h.sep
 init:=h.init
theorem AW.outs(h:AW E s tm W)(dst:Option Nat){x:AV}{u:Value}(hx:Ba s W x u):
  AW E (s.app (match dst with|some d=>[.slot d x]|none=>[])) (match dst with|some d=>tm.setIfInBounds d u|none=>tm) W:=by
 cases dst with
 |none=>exact h
 |some d=>exact h.slot d hx
theorem BR(v:Value):AR s W (ofConst v) v:=by
 cases v with
 |int k n=>exact⟨rfl,rfl⟩
 |bool b=>exact⟨rfl,rfl⟩
 |string b=>exact⟨by simp,rfl⟩
 |slice A n c=>
  cases A with
  |none=>cases n with
   |zero=>cases c with
    |zero=>exact rfl
    |succ c=>trivial
   |succ n=>trivial
  |some a=>trivial
 |pointer A=>cases A with
  |none=>exact rfl
  |some a=>trivial
 |_=>trivial
theorem BF(h:AW E s a.tmps W)(x:Operand):Ba s W (s.Ap x) (a.eval x):=by
 cases x with
 |tmp t=>exact h.AP t
 |const v=>
  cases v with
  |agg cs=>
   refine⟨cs,rfl,by simp,fun j b hj=>?_⟩;simp only[AAX]at hj;cases hc:cs.toList[j]? with
   |none=>grind
   |some u=>
    rw[hc]at hj;injection hj with hj;subst hj
    exact⟨u,by grind,BR u⟩
  |bool b=>exact BR (s:=s) (W:=W) (.bool b)
  |int k n=>exact BR (s:=s) (W:=W) (.int k n)
  |float k n=>exact BR (s:=s) (W:=W) (.float k n)
  |complex k x y=>exact BR (s:=s) (W:=W) (.complex k x y)
  |string b=>exact BR (s:=s) (W:=W) (.string b)
  |pointer b=>exact BR (s:=s) (W:=W) (.pointer b)
  |slice b n c=>exact BR (s:=s) (W:=W) (.slice b n c)
  |map r=>exact BR (s:=s) (W:=W) (.map r)
  |chan r=>exact BR (s:=s) (W:=W) (.chan r)
  |func f x y=>exact BR (s:=s) (W:=W) (.func f x y)
  |nilFunc=>exact BR (s:=s) (W:=W) .nilFunc
  |iface t x=>exact BR (s:=s) (W:=W) (.iface t x)
  |nilIface=>exact BR (s:=s) (W:=W) .nilIface
  |tuple vs=>exact BR (s:=s) (W:=W) (.tuple vs)
 |global g=>exact trivial
 |func f=>exact rfl
theorem Ac(h:AW E s a.tmps W)(x:Operand):AR s W (s.Ah x) (a.eval x):=by
 have:=BF h x;unfold St.Ah
 revert this
 cases s.Ap x with
 |Dp vs=>intro _;trivial
 |bx as=>intro _;trivial
 |v g as=>
  cases g with
  |true=>intro _;cases as with
   |nil=>trivial
   |cons b bs=>cases bs<;>trivial
  |false=>cases as with
   |nil=>intro _;trivial
   |cons b bs=>cases bs with
    |nil=>intro h;exact h
    |cons=>intro _;trivial
theorem Hn(h:AW E s a.tmps W){u:Value}{x:AV}(tn:(execOp a.eval o).run P W.w=.ok (.value u) W.w)(hx:Ba s W x u):
  Be P E o a W.w (s.app (match o.dst with|some d=>[.slot d x]|none=>[])):=by
 intro next Q hn
 unfold Oper.wp;rw[tn];show next (a.put o.dst u) W.w
 refine hn _ W ?_ ?_
 ·cases o.dst<;>rfl
 ·have:=h.outs o.dst hx;cases hd:o.dst with
  |none=>rw[hd]at this;exact this
  |some d=>rw[hd]at this;exact this
theorem OH(h:AW E s a.tmps W){x:Operand}(ho:o.op=.move x):Be P E o a W.w (s.app (match o.dst with|some d=>[.slot d (s.Ap x)]|none=>[])):=
 Hn h (by simp[execOp,ho]) (BF h x)
theorem IntKind.Ha{i j:IntKind}(h:(IntKind.code i==IntKind.code j)=true):i=j:=IntKind.EU (by simpa using h)
theorem Bk(k:IntKind)(n:Int):Ba s W (IS k n) (.int k n):=⟨rfl,rfl⟩
theorem Ct(b:Bool):Ba s W (IQ b) (.bool b):=⟨rfl,rfl⟩
theorem Ki(b:List UInt8):Ba s W (Oc b) (.string ⟨b.toArray⟩):=⟨rfl,rfl⟩
theorem Ln{cx:Cx}(hc:Dr P cx){t:TypeId}(h:IW cx t .bool=true):P.underlying t=some .bool:=by
 unfold IW at h;split at h
 ·rename_i ty ht;simp at h;obtain⟨l,hl,hf⟩:=(hc t ty ht).lone h.1;rw[hl]at h;have:=h.2;simp only[Ls.eq?]at this;obtain rfl:=L.Du this;exact hf
 ·cases h
variable {T:Type}{β:Type}
theorem Ag{b:Bool}{x y:Step β}{t:β}(h:(Step.iff b x y).leads t):(b=true∧x.leads t)∨(b=false∧y.leads t):=by
 cases b
 ·exact .inr ⟨rfl,h⟩
 ·exact .inl ⟨rfl,h⟩
theorem M0{op:BinOp}{y:Operand}{i:IntKind}{m n:Int}{k:AV→Step β}{t:β}(hz:isZero y=false→n≠0)(h:(L3 op y i m n k).leads t)(tx:TypeId)(x:Operand)(w:World):
  ∃z r,(k z).leads t∧Ba s W z r∧(do eqGuard op tx x y (.int i m) (.int i n);binOp op tx (.int i m) (.int i n):Sem Value).run P w=.ok r w:=by
 cases op<;>simp only[L3]at h
 case add=>exact⟨_,_,h,Bk _ _,by simp[eqGuard,binOp,Op.intArith]⟩
 case sub=>exact⟨_,_,h,Bk _ _,by simp[eqGuard,binOp,Op.intArith]⟩
 case mul=>exact⟨_,_,h,Bk _ _,by simp[eqGuard,binOp,Op.intArith]⟩
 case quo=>
  have h0:n≠0∧(k (IS i (i.wrap (Int.tdiv m n)))).leads t:=by
   split at h
   ·rcases Ag h with⟨_,h⟩|⟨hb,h⟩
    ·exact h.elim
    grind
   ·grind
  exact⟨_,_,h0.2,Bk _ _,by simp[eqGuard,binOp,Op.intDiv,h0.1]⟩
 case rem=>
  have h0:n≠0∧(k (IS i (Int.tmod m n))).leads t:=by
   split at h
   ·rcases Ag h with⟨_,h⟩|⟨hb,h⟩
    ·exact h.elim
    grind
   ·grind
  exact⟨_,_,h0.2,Bk _ _,by simp[eqGuard,binOp,Op.intDiv,h0.1]⟩
 case eql=>exact⟨_,_,h,Ct _,by simp[eqGuard,binOp,Op.intCmp]⟩
 case neq=>exact⟨_,_,h,Ct _,by simp[eqGuard,binOp,Op.intCmp]⟩
 case lss=>exact⟨_,_,h,Ct _,by simp[eqGuard,binOp,Op.intCmp]⟩
 case leq=>exact⟨_,_,h,Ct _,by simp[eqGuard,binOp,Op.intCmp]⟩
 case gtr=>exact⟨_,_,h,Ct _,by simp[eqGuard,binOp,Op.intCmp]⟩
 case geq=>exact⟨_,_,h,Ct _,by simp[eqGuard,binOp,Op.intCmp]⟩
 case and=>exact⟨_,_,h,Bk _ _,by simp[eqGuard,binOp,Op.intBits,OK]⟩
 case or=>exact⟨_,_,h,Bk _ _,by simp[eqGuard,binOp,Op.intBits,Oy]⟩
 case xor=>exact⟨_,_,h,Bk _ _,by simp[eqGuard,binOp,Op.intBits,OW]⟩
 case shl=>
  rcases Ag h with⟨hb,h⟩|⟨_,h⟩
  ·have hb:¬n<0:=by have:=AAq hb;omega
   exact⟨_,_,h,Bk _ _,by simp[eqGuard,binOp,Op.shift,N7,hb]⟩
  ·exact h.elim
 case shr=>
  rcases Ag h with⟨hb,h⟩|⟨_,h⟩
  ·have hb:¬n<0:=by have:=AAq hb;omega
   exact⟨_,_,h,Bk _ _,by simp[eqGuard,binOp,Op.shift,N8,hb]⟩
  ·exact h.elim
 all_goals exact h.elim
theorem Mi{op:BinOp}(hs:G6 op=true){y:Operand}{i j:IntKind}{m n:Int}{k:AV→Step β}{t:β}(h:(L3 op y i m n k).leads t)(tx:TypeId)(x:Operand)(w:World):
  ∃z r,(k z).leads t∧Ba s W z r∧(do eqGuard op tx x y (.int i m) (.int j n);binOp op tx (.int i m) (.int j n):Sem Value).run P w=.ok r w:=by
 cases op<;>simp only[G6,ABC]at hs<;>simp only[L3]at h
 case shl=>
  rcases Ag h with⟨hb,h⟩|⟨_,h⟩
  ·have hb:¬n<0:=by have:=AAq hb;omega
   exact⟨_,_,h,Bk _ _,by simp[eqGuard,binOp,Op.shift,N7,hb]⟩
  ·exact h.elim
 case shr=>
  rcases Ag h with⟨hb,h⟩|⟨_,h⟩
  ·have hb:¬n<0:=by have:=AAq hb;omega
   exact⟨_,_,h,Bk _ _,by simp[eqGuard,binOp,Op.shift,N8,hb]⟩
  ·exact h.elim
theorem Mz{op:BinOp}{y:Operand}{m n:Bool}{k:AV→Step β}{t:β}(h:(Ni op m n k).leads t)(tx:TypeId)(htx:P.underlying tx=some .bool)(x:Operand)(w:World):
  ∃z r,(k z).leads t∧Ba s W z r∧(do eqGuard op tx x y (.bool m) (.bool n);binOp op tx (.bool m) (.bool n):Sem Value).run P w=.ok r w:=by
 cases op<;>simp only[Ni]at h
 case eql=>exact⟨_,_,h,Ct _,by simp[eqGuard,run_eql_bool _ tx m n htx]⟩
 case neq=>exact⟨_,.bool (!(m==n)),h,⟨rfl,rfl⟩,by simp[eqGuard,run_neq_bool _ tx m n htx]⟩
 all_goals exact h.elim
theorem M1{op:BinOp}{y:Operand}{m n:List UInt8}{k:AV→Step β}{t:β}(h:(Nj op m n k).leads t)(tx:TypeId)(x:Operand)(w:World):
  ∃z r,(k z).leads t∧Ba s W z r∧(do eqGuard op tx x y (.string ⟨m.toArray⟩) (.string ⟨n.toArray⟩);binOp op tx (.string ⟨m.toArray⟩) (.string ⟨n.toArray⟩):Sem Value).run P w=.ok r w:=by
 have tl:∀l:List UInt8,(⟨l.toArray⟩:ByteArray).toList=l:=fun l=>by simp
 cases op<;>simp only[Nj]at h
 case eql=>exact⟨_,_,h,Ct _,by simp[eqGuard,binOp,Op.stringOp,tl]⟩
 case neq=>exact⟨_,_,h,Ct _,by simp[eqGuard,binOp,Op.stringOp,tl]⟩
 case add=>
  rcases Ag h with⟨hb,h⟩|⟨_,h⟩
  ·refine⟨_,_,h,Ki _,?_⟩;have hb:m.length+n.length≤4611686018427387904:=AAq hb;have hr:=run_string_add_sum (P:=P) w ⟨m.toArray⟩ ⟨n.toArray⟩ (by simp[ByteArray.size];omega);rw[ByteArray.mk_append_mk]at hr;simp only[eqGuard,binOp];grind
  ·exact h.elim
 all_goals exact h.elim
theorem L4{cx:Cx}(hc:Dr P cx){op:BinOp}{tx:TypeId}{x y:Operand}(h:AW E s a.tmps W){k:AV→Step β}{t:β}
  (hl:(binop (IW cx tx .bool) op y (s.Ah x) (s.Ah y) k).leads t):
  ∃z r,(k z).leads t∧Ba s W z r∧(do eqGuard op tx x y (a.eval x) (a.eval y);binOp op tx (a.eval x) (a.eval y):Sem Value).run P W.w=.ok r W.w:=by
 have h1:=Ac h x;have h2:=Ac h y
 have hz:∀(k:IntKind)(n:Int),s.Ah y=.sc (.int k) n→isZero y=false→n≠0:=by
  intro k n hy h0;cases y with
  |const v=>
   cases v with
   |int j m=>
    simp only[St.Ah,St.Ap,AV.one?,ofConst]at hy;injection hy with e1 e2
    injection e1 with e1
    subst e1;subst e2;simp[isZero]at h0;exact h0
   |_=>simp[isZero]at h0
  |_=>simp[isZero]at h0
 revert h1 h2 hl hz
 generalize s.Ah x=p;generalize s.Ah y=q;intro hl h1 h2 hz;unfold binop at hl;split at hl
 ·rename_i l m n r;cases l with
  |int i=>cases n with
   |int j=>
    simp only at hl;split at hl
    ·rename_i xM;rw[h1.1,h2.1];cases hs:G6 op with
     |true=>exact Mi hs hl tx x _
     |false=>
      rw[hs,Bool.or_false]at xM;obtain rfl:=IntKind.Ha xM;exact M0 (hz _ _ rfl) hl tx x _
    ·exact hl.elim
   |_=>exact hl.elim
  |bool=>cases n with
   |bool=>
    simp only at hl;split at hl
    ·rename_i hb;rw[h1.1,h2.1];exact Mz hl tx (Ln hc hb) x _
    ·exact hl.elim
   |_=>exact hl.elim
  |str=>cases n with
   |str=>
    rw[h1.1,h2.1];exact M1 hl tx x _
   |_=>exact hl.elim
  |sl t e=>cases n<;>exact hl.elim
 ·exact hl.elim
theorem Io{d:Nat}{w:World}{fz:Nat→Prop}{k:(t:TypeId)→(f:Ls)→List f.D→Step β}{t:β}:∀(e:Ls)(j:Nat) {g:Nat→Option Value} {x:e.D} {o:List Nat} {t':TypeId} {f:Ls} {h:Value},
  (JG e j x k).leads t→e.rd d w fz g x o→e.kinds[j]?=some (.sl t' f)→g j=some h→∃(ys:List f.D) (o':List Nat),(k t' f ys).leads t∧AD f d w fz h ys o'∧∀b∈o',b∈o
 | .nil,j,_,_,_,_,_,_,hl,_,_,_=>hl.elim
 | .one l,0,g,x,o,t',f,h,hl,hr,hk,hg=>by
  simp only[Ls.rd]at hr;obtain⟨v,hv,hr⟩:=hr;simp[Ls.kinds]at hk;subst hk;rw[hg]at hv;injection hv with hv;subst hv
  exact⟨x,o,hl,hr,fun b hb=>hb⟩
 | .one _,_+1,_,_,_,_,_,_,hl,_,_,_=>hl.elim
 | .cons l ls,0,g,x,o,t',f,h,hl,hr,hk,hg=>by
  simp only[Ls.rd]at hr;obtain⟨v,o1,o2,hv,hr,yq,rfl⟩:=hr;simp[Ls.kinds]at hk;subst hk;rw[hg]at hv;injection hv with hv;subst hv
  exact⟨x.1,o1,hl,hr,fun b hb=>AAQ _ hb⟩
 | .cons l ls,j+1,g,x,o,t',f,h,hl,hr,hk,hg=>by simp only[Ls.rd]at hr;obtain⟨v,o1,o2,hv,hr,yq,rfl⟩:=hr;obtain⟨ys,o',a,b,c⟩:=Io ls j hl yq (by simpa[Ls.kinds]using hk) hg;grind
theorem L6{w:World}{fz:Nat→Prop}{k:(t:TypeId)→(e:Ls)→List e.D→Nat→Step β}{t:β}:∀(p:List (Nat×Nat)) {t0:TypeId} {e:Ls} {xs:List e.D} {d:Nat} {h:Value} {o:List Nat} {e':Ls} {v:Value},
  (OQ k p t0 e xs d).leads t→AD e d w fz h xs o→JW w p e h e' v→∃(t':TypeId) (ys:List e'.D) (d':Nat) (o':List Nat),(k t' e' ys d').leads t∧AD e' d' w fz v ys o'∧∀b∈o',b∈o
 | [],t0,e,xs,d,h,o,e',v,hl,hr,hn=>by obtain⟨rfl,rfl⟩:=hn;exact⟨t0,xs,d,o,hl,hr,fun b hb=>hb⟩
 |(i,j)::p,t0,e,xs,d,h,o,e',v,hl,hr,hn=>by
  obtain⟨a,len,c,t',f,h',rfl,hs,hi,hk,hc,hn⟩:=hn;obtain⟨A,c',hv,hle,hr⟩:=hr;injection hv with hA uz uW
  subst hA;have vF:i<xs.length:=uz▸hi;rcases hr with hr|⟨g,os,tY,uD,ho⟩
  ·have:=hr.2.1;omega
  obtain⟨x,hx,hl⟩:=hl;rw[AAF vF]at hx;injection hx with hx;subst hx
  have hg:(fun j=>g (i*e.n+j)) j=some h':=by rw[tY.cell (i*e.n+j)]at hc;exact hc
  obtain⟨ys,o',hl,te,uX⟩:=Io e j hl (uD i vF) hk hg;obtain⟨t2,zs,d2,o2,hl,hz,w5⟩:=L6 p hl te hn;grind
theorem Ce(h:AW E s tm W){c:Loc}{k:(t:TypeId)→(e:Ls)→List e.D→Nat→Step β}{t:β}(hl:(s.content c k).leads t):
  ∃(t0:TypeId) (e0:Ls) (xs0:List e0.D) (d0 gen:Nat),s.leaf c.r c.j=.arr c.AA gen t0 e0 xs0 d0∧(c.p=[]∨gen=c.gen)∧
   ∀(u:Value)(e':Ls)(v:Value),W.cv c.r c.j=some u→JW W.w c.p e0 u e' v→∃(t':TypeId) (ys:List e'.D) (d':Nat) (o':List Nat),(k t' e' ys d').leads t∧AD e' d' W.w W.fz v ys o'∧∀b∈o',b∈W.om (.lf c.r c.j):=by
 unfold St.content at hl;split at hl
 ·rename_i AA gen t0 e0 xs0 d0 tR;split at hl
  ·rename_i tZ;simp only[AAG,AAS,AAa]at tZ;obtain⟨hv,hg⟩:=tZ;subst hv;refine⟨t0,e0,xs0,d0,gen,tR,hg.imp (fun h=>by cases hp:c.p<;>simp_all[isNil]) id,fun u e' v hu hn=>?_⟩;obtain⟨u',tu,hr⟩:=(h.roots c.r).row tR;rw[hu]at tu;injection tu with tu;subst tu
   exact L6 c.p hl hr hn
  ·exact hl.elim
 ·exact hl.elim
theorem DO(h:AW E s tm W){c:Loc}{v:Value}(hv:AR s W (.ref c) v){k:(t:TypeId)→(e:Ls)→List e.D→Nat→Step β}{t:β}(hl:(s.content c k).leads t):
  ∃(t':TypeId) (e':Ls) (ys:List e'.D) (d':Nat) (o':List Nat),(k t' e' ys d').leads t∧AD e' d' W.w W.fz v ys o'∧∀b∈o',b∈W.om (.lf c.r c.j):=by
 obtain⟨t0,e0,xs0,d0,gen,tR,hp,hk⟩:=Ce h hl;obtain⟨u,e',hu,hn⟩:=hv gen t0 e0 xs0 d0 tR hp;grind
theorem AD.len{e:Ls}{d:Nat}{w:World}{fz:Nat→Prop}{v:Value}{xs:List e.D}{o:List Nat}(h:AD e d w fz v xs o):∃A c,v=.slice A xs.length c∧xs.length≤c:=by obtain⟨A,c,hv,hc,_⟩:=h;grind
theorem CR.sub{α:Type}{n:Nat}{R:(Nat→Option Value)→α→List Nat→Prop}{own:Bool}{w:World}{fz:Nat→Prop}{A:Option Addr}{len c:Nat}{xs:List α}{o:List Nat}
  (h:CR n R own w fz (.slice A len c) xs o) {lo hi:Nat} (h1:lo≤hi) (h2:hi≤len):
  ∃o',CR n R own w fz (.slice (if c=lo then A else A.map (·.add (lo*n))) (hi-lo) (c-lo)) (Ev.sub xs lo hi) o'∧(∀b∈o',b∈o)∧(o.Nodup→o'.Nodup):=by
 obtain⟨A',c',hv,hc,h⟩:=h;injection hv with hA hl uW
 subst hA;subst hl;subst uW;have hlen:(Ev.sub xs lo hi).length=hi-lo:=by simp[Ev.sub];omega
 cases A with
 |none=>
  refine⟨[],⟨none,c-lo,?_,by rw[hlen];omega,?_⟩,by simp,by simp⟩
  all_goals grind
 |some a=>
  rcases h with h|⟨g,os,tY,uD,ho⟩
  ·obtain⟨rfl,rfl,rfl⟩:=h;have vP:xs.length=0:=by omega
   have xL:hi=0:=by omega
   have vS:lo=0:=by omega
   subst xL;subst vS;have hnil:xs=[]:=AAP vP;subst hnil;exact⟨[],⟨some a,0,by simp[Ev.sub],by simp[Ev.sub],.inl ⟨rfl,rfl,rfl⟩⟩,by simp,by simp⟩
  obtain⟨hs,arr,T,fr,hh,hn,hb,hg⟩:=tY
  have tv:∀i (vF:i<(Ev.sub xs lo hi).length),∃hx:lo+i<xs.length,(Ev.sub xs lo hi)[i]=xs[lo+i]:=by
   intro i vF;have:lo+i<xs.length:=by rw[hlen]at vF;omega
   exact⟨this,by simp[Ev.sub]⟩
  by_cases zG:c=lo
  ·have xL:hi=lo:=by omega
   have hnil:Ev.sub xs lo hi=[]:=by simp[Ev.sub,xL]
   rw[AAK zG,hnil,xL];refine⟨match own with|true=>[a.block]|false=>[],⟨some a,c-lo,by simp,by simp,.inr ⟨fun j=>arr[a.off+j]?,fun _=>[],⟨hs,arr,T,fr,hh,by rw[zG];simp;omega,hb,fun j=>rfl⟩,fun i hi=>by simp at hi,?_⟩⟩,?_,?_⟩
   ·cases own with
    |true=>simp
    |false=>exact⟨ho.1,rfl,fun _ _=>rfl⟩
   all_goals grind
  ·rw[AAM zG]
   have vN:(a.add (lo*n)).block=a.block∧(a.add (lo*n)).off=a.off+lo*n∧(a.add (lo*n)).spot=none:=by
    unfold Addr.add;split
    ·grind
    ·grind
   refine⟨match own with|true=>a.block::(List.range (hi-lo)).flatMap fun i=>os (lo+i)|false=>[],
    ⟨some (a.add (lo*n)),c-lo,by grind,by omega,.inr ⟨fun j=>g (lo*n+j),fun i=>os (lo+i),⟨vN.2.2,arr,T,fr,by grind,?_,hb,fun j=>by grind⟩,fun i vF=>?_,?_⟩⟩,?_,?_⟩
   ·rw[vN.2.1];have:lo*n+(c-lo)*n=c*n:=by rw[←AAk];congr 1;omega
    omega
   ·grind
   ·grind
   ·grind
   ·cases own with
    |false=>simp
    |true=>
     intro ur;rw[ho]at ur;obtain⟨vc,wO⟩:=AAY.1 ur;refine AAY.2 ⟨fun hm=>?_,?_⟩
     ·grind
     ·have e:(List.range (hi-lo)).flatMap (fun i=>os (lo+i))=((List.range (hi-lo)).map (lo + ·)).flatMap os:=by simp[List.flatMap_map]
      rw[e,←List.range'_eq_map_range];rw[List.range_eq_range']at wO
      have:List.range' 0 xs.length=List.range' 0 lo++(List.range' lo (hi-lo)++List.range' hi (xs.length-hi)):=by have e1:=List.range'_append_1 (s:=lo) (m:=hi-lo) (n:=xs.length-hi);have e2:=List.range'_append_1 (s:=0) (m:=lo) (n:=xs.length-lo);rw[show lo+(hi-lo)=hi by omega]at e1;rw[e1,show hi-lo+(xs.length-hi)=xs.length-lo by omega];rw[AAW]at e2;rw[e2];congr 1;omega
      grind
end
end Go.Ev
namespace Go.Ev
def Seen(W:Wd)(rs:List Nat)(b:Nat):Prop:=W.fz b∨∃r∈rs,∃j,b∈W.om (.lf r j)
theorem GM:∀(ls:Ls) {d:Nat} {w:World} {fz:Nat→Prop} {g:Nat→Option Value} {x:ls.D} {o:List Nat},
  ls.rd d w fz g x o→∀(j:Nat)(lv:Lv),(unpack ls x)[j]?=some lv→∃u o',g j=some u∧lv.l.rd d w fz u lv.x o'∧∀b∈o',b∈o
 | .nil,_,_,_,_,_,_,_,j,lv,hj=>by simp[unpack]at hj
 | .one l,d,w,fz,g,x,o,h,j,lv,hj=>by
  simp only[Ls.rd]at h;obtain⟨v,hg,h⟩:=h;cases j with
  |zero=>simp[unpack]at hj;subst hj;exact⟨v,o,hg,h,fun b hb=>hb⟩
  |succ j=>simp[unpack]at hj
 | .cons l ls,d,w,fz,g,x,o,h,j,lv,hj=>by
  simp only[Ls.rd]at h;obtain⟨v,o1,o2,hg,h1,h2,rfl⟩:=h;cases j with
  |zero=>simp[unpack]at hj;subst hj;exact⟨v,o1,hg,h1,fun b hb=>AAQ _ hb⟩
  |succ j=>
   simp only[unpack,AAx]at hj;obtain⟨u,o',a,b,c⟩:=GM ls h2 j lv hj;exact⟨u,o',a,b,fun x hx=>AAO _ (c x hx)⟩
theorem Bj:∀(ls:Ls) {w:World} {fz:Nat→Prop} {g:Nat→Option Value} {x:ls.D},
  (∀(j:Nat)(lv:Lv),(unpack ls x)[j]?=some lv→∃u,g j=some u∧lv.l.rd 0 w fz u lv.x [])→ls.rd 0 w fz g x []
 | .nil,_,_,_,_,_=>by simp only[Ls.rd]
 | .one l,w,fz,g,x,h=>by simp only[Ls.rd];exact h 0 ⟨l,x⟩ rfl
 | .cons l ls,w,fz,g,x,h=>by simp only[Ls.rd];obtain⟨u,hu,hr⟩:=h 0 ⟨l,x.1⟩ rfl;exact⟨u,[],[],hu,hr,Bj ls fun j lv hj=>h (j+1) lv (by simpa[unpack]using hj),rfl⟩
theorem B1{e:Ls}{d:Nat}{w:World}{fz:Nat→Prop}:AD e d w fz (.slice none 0 0) ([]:List e.D) []:=⟨none,0,rfl,AAd _,rfl,rfl⟩
section
variable {P:Program}{E:Cw}{s:St}{tm:Array Value}{W:Wd}{o:Oper}{a:Act}{β:Type}{t:β}
theorem Seen.mono{rs rs':List Nat}(h:∀r∈rs,r∈rs'){b:Nat}(hb:Seen W rs b):Seen W rs' b:=hb.imp id fun⟨r,hr,x⟩=>⟨r,h r hr,x⟩
theorem EV(h:AW E s tm W){c:Loc}{lo hi:Nat}{v:Value}(hv:AR s W (.EF c lo hi) v){k:(t:TypeId)→(e:Ls)→List e.D→Nat→Step β}(hl:(s.content c k).leads t):
  ∃(t':TypeId) (e':Ls) (ys:List e'.D) (d':Nat) (o':List Nat),(k t' e' ys d').leads t∧AD e' d' W.w W.fz v (sub ys lo hi) o'∧(∀b∈o',b∈W.om (.lf c.r c.j)):=by
 obtain⟨t0,e0,xs0,d0,gen,tR,hp,hk⟩:=Ce h hl;obtain⟨u,e',A,n,k',hu,hn,h1,h2,rfl⟩:=hv gen t0 e0 xs0 d0 tR hp;obtain⟨t',ys,d',o',a,b,c'⟩:=hk u e' _ hu hn;obtain⟨o2,q1,q2,_⟩:=CR.sub b h1 h2;exact⟨t',e',ys,d',o2,a,q1,fun b hb=>c' b (q2 b hb)⟩
theorem Bm(h:AW E s tm W){l:L}{la:LA}{v:Value}(hv:AR s W la v){k:l.D→Step β}(hl:(s.Av l la k).leads t):
  ∃x,(k x).leads t∧l.rd 0 W.w (Seen W la.roots) v x []:=by
 unfold St.Av at hl;cases la with
 |sc m x=>
  simp only at hl;split at hl
  ·rename_i y hy;obtain⟨e,he⟩:=L.AH hy;subst e;subst he;exact⟨x,hl,L.AJ m hv (fun b hb=>rfl) fun b hb=>.inl hb⟩
  ·exact hl.elim
 |DJ=>
  cases l with
  |sl t' e=>exact⟨_,hl,by rw[show v=.slice none 0 0 from hv];exact B1⟩
  |_=>exact hl.elim
 |ref c=>
  obtain⟨t',e',ys,d',o',hl,hr,ho⟩:=DO h hv hl;split at hl
  ·rename_i y hy;obtain⟨e,he⟩:=L.AH hy;subst e;subst he;exact⟨ys,hl,hr.freeze fun b hb=>hb.elim .inl fun hb=>.inr ⟨c.r,by simp[LA.roots],c.j,ho b hb⟩⟩
  ·exact hl.elim
 |EF c lo hi=>
  obtain⟨t',e',ys,d',o',hl,hr,ho⟩:=EV h hv hl;split at hl
  ·rename_i y hy;obtain⟨e,he⟩:=L.AH hy;subst e;subst he;exact⟨_,hl,hr.freeze fun b hb=>hb.elim .inl fun hb=>.inr ⟨c.r,by simp[LA.roots],c.j,ho b hb⟩⟩
  ·exact hl.elim
 |_=>exact hl.elim
theorem Es(h:AW E s tm W):∀ {ls:List L} {as:List LA} {g:Nat→Option Value} {k:List Lv→Step β},(∀(j:Nat)(b:LA),as[j]?=some b→∃u,g j=some u∧AR s W b u)→(s.data ls as k).leads t→
  ∃vs:List Lv,(k vs).leads t∧vs.length=as.length∧vs.map (·.l)=ls∧∀(j:Nat)(lv:Lv),vs[j]?=some lv→∃u,g j=some u∧lv.l.rd 0 W.w (Seen W (as.flatMap LA.roots)) u lv.x []
 | [],[],g,k,hg,hl=>⟨[],hl,rfl,rfl,fun j lv hj=>by simp at hj⟩
 | [],_::_,g,k,hg,hl=>hl.elim
 |_::_,[],g,k,hg,hl=>hl.elim
 |l::ls,b::as,g,k,hg,hl=>by
  obtain⟨u,hu,hb⟩:=hg 0 b rfl;obtain⟨x,hl,hx⟩:=Bm h hb hl;obtain⟨vs,hl,hn,hm,vb⟩:=Es h (g:=fun j=>g (j+1)) (fun j b hj=>hg (j+1) b (by simpa using hj)) hl;refine⟨⟨l,x⟩::vs,hl,by simp[hn],by simp[hm],fun j lv hj=>?_⟩;cases j with
  |zero=>
   simp at hj;subst hj;exact⟨u,hu,L.AJ l hx (fun _ _=>rfl) fun b hb=>Seen.mono (fun r hr=>by simp[hr]) hb⟩
  |succ j=>
   obtain⟨u',tu,hr⟩:=vb j lv (by simpa using hj);refine⟨u',tu,L.AJ lv.l hr (fun _ _=>rfl) fun b hb=>Seen.mono (fun r hr=>?_) hb⟩;simp only[AAj,AAy];exact .inr hr
theorem Cy(r:Nat):∀(as:List LA)(j i:Nat),(Ay r j as)[i]?=(as[i]?).map (seen r (j+i))
 | [],j,i=>by simp[Ay]
 |b::as,j,0=>by simp[Ay]
 |b::as,j,i+1=>by simp only[Ay,AAx];rw[Cy r as (j+1) i,show j+1+i=j+(i+1) by omega]
theorem JV(r:Nat):∀(as:List LA)(j:Nat),(Ay r j as).length=as.length
 | [],j=>rfl
 |b::as,j=>by simp[Ay,JV r as (j+1)]
theorem FB(r:Nat):∀(as:List LA)(j i:Nat),(BO r j as)[i]?=(as[i]?).map (IG r (j+i))
 | [],j,i=>by simp[BO]
 |b::as,j,0=>by simp[BO]
 |b::as,j,i+1=>by simp only[BO,AAx];rw[FB r as (j+1) i,show j+1+i=j+(i+1) by omega]
theorem FC(r:Nat):∀(as:List LA)(j:Nat),(BO r j as).length=as.length
 | [],j=>rfl
 |b::as,j=>by simp[BO,FC r as (j+1)]
theorem K0(h:AW E s tm W){r j:Nat}{b:LA}{v:Value}(hb:s.leaf r j=b)(hc:W.cv r j=some v):AR s W (seen r j b) v:=by
 have hr:=(h.roots r).1 j;unfold St.leaf at hb;rw[hb,hc]at hr;cases b with
 |arr AA gen t' e xs d=>
  intro yB t2 e2 xs2 d2 hl _;have:s.leaf r j=.arr AA gen t' e xs d:=hb;rw[this]at hl;injection hl with h1 h2 h3 h4
  subst h4;exact⟨v,e,hc,rfl,rfl⟩
 |_=>exact hr.2 v rfl
theorem Mf(h:AW E s tm W){r j:Nat}{b:LA}{v:Value}(hb:s.leaf r j=b)(hc:W.cv r j=some v):AR s W (IG r j b) v:=by
 have hs:=K0 h hb hc;cases b with
 |arr AA gen t' e xs d=>
  cases d with
  |succ d=>exact hs
  |zero=>
   obtain⟨u,hu,te⟩:=(h.roots r).row hb;have:u=v:=Option.some.inj (hu.symm.trans hc);subst this;show AD e 0 W.w W.fz u xs [];have hz:=AD.zero te;rw[hz]at te;exact te
 |_=>exact hs
theorem EX(c:Loc)(i d:Nat):∀(vs:List Lv)(off j:Nat),(Br c i d off vs)[j]?=(vs[j]?).map fun v=>if Bz v.l&&decide (0<d)then LA.ref { c with p:=c.p++[(i,off+j)] }else .sc v.l v.x
 | [],off,j=>by simp[Br]
 |v::vs,off,0=>by simp[Br]
 |v::vs,off,j+1=>by simp only[Br,AAx];rw[EX c i d vs (off+1) j,show off+1+j=off+(j+1) by omega]
theorem J6{w:World}:∀(q:List (Nat×Nat)) {e:Ls} {h:Value} {e':Ls} {a:Addr} {n k:Nat} {i off:Nat} {t':TypeId} {f:Ls} {u:Value},
  JW w q e h e' (.slice (some a) n k)→a.spot=none→i<n→e'.kinds[off]?=some (.sl t' f)→w.cell? (at_ a (i*e'.n+off))=some u→JW w (q++[(i,off)]) e h f u
 | [],e,h,e',a,n,k,i,off,t',f,u,hn,hs,hi,hk,hc=>by obtain⟨rfl,rfl⟩:=hn;exact⟨a,n,k,t',f,u,rfl,hs,hi,hk,hc,rfl,rfl⟩
 |(i0,j0)::q,e,h,e',a,n,k,i,off,t',f,u,hn,hs,hi,hk,hc=>by obtain⟨a0,len,c0,t0,f0,h0,e0,s0,i1,k1,c1,hn⟩:=hn;exact⟨a0,len,c0,t0,f0,h0,e0,s0,i1,k1,c1,J6 q hn hs hi hk hc⟩
theorem ED:∀(ls:Ls)(x:ls.D),(unpack ls x).map (·.l)=ls.kinds
 | .nil,_=>rfl
 | .one _,_=>rfl
 | .cons l ls,x=>by simp[unpack,Ls.kinds,ED ls x.2]
theorem Ft(h:AW E s tm W){la:LA}{v:Value}(hv:AR s W la v){n:Nat}{k:List LA→Step β}(hl:(s.DE la n k).leads t):
  ∃as:List LA,(k as).leads t∧as.length≤n∧∃(b off:Nat),v=.pointer (some ⟨b,off,none⟩)∧∀(j:Nat)(x:LA),as[j]?=some x→∃u,W.w.cell? ⟨b,off+j,none⟩=some u∧AR s W x u:=by
 unfold St.DE at hl;cases la with
 |ptr r j AA=>
  simp only at hl;split at hl
  ·rename_i tZ;simp only[AAG,AAS,AAb]at tZ;obtain⟨⟨hb,tc⟩,hlen⟩:=tZ;refine⟨_,hl,by rw[FC];simp;omega,W.bk r,j,hv hb tc,fun i x hx=>?_⟩;rw[FB]at hx;obtain⟨_,uR⟩:=h.roots r;rw[AAK hb]at uR;obtain⟨_,arr,T,fr,hh,_,uC,uJ⟩:=uR;cases hy:((s.root r).ls.drop j |>.take n)[i]? with
   |none=>rw[hy]at hx;cases hx
   |some y=>
    rw[hy]at hx;injection hx with hx;subst hx
    have hi:i<n∧(s.root r).ls[j+i]?=some y:=by
     rw[ABN]at hy;split at hy
     ·rename_i hi;rw[ABO]at hy;exact⟨hi,hy⟩
     ·cases hy
    have tX:j+i<(s.root r).ls.length:=(AAH.1 hi.2).1;have tR:s.leaf r (j+i)=y:=by unfold St.leaf;rw[Ae,hi.2];rfl
    have uE:W.cv r (j+i)=some (arr[j+i]'(by omega)):=by rw[uJ];exact AAc _
    refine⟨arr[j+i]'(by omega),?_,Mf h tR uE⟩;rw[←uE,uJ];simp[World.cell?,hh]
  ·exact hl.elim
 |D9 e x off=>
  obtain⟨a,g,arr,T,fr,hv,hz,hh,hg,te⟩:=hv;refine⟨_,hl,by simp;omega,a.block,a.off+off,hv,fun i y hy=>?_⟩;simp only[AAX]at hy;cases hq:(((unpack e x).drop off).take n)[i]? with
  |none=>rw[hq]at hy;cases hy
  |some lv=>
   rw[hq]at hy;injection hy with hy;subst hy
   have hi:(unpack e x)[off+i]?=some lv:=by
    rw[ABN]at hq;split at hq
    ·rw[ABO]at hq;exact hq
    ·cases hq
   obtain⟨u,o',hu,hr,ho⟩:=GM e te _ lv hi;have:o'=[]:=L.Bo lv.l hr;subst this;refine⟨u,?_,hr⟩;rw[hg]at hu;simp only[World.cell?,hh];rw[show a.off+off+i=a.off+(off+i) by omega];simpa using hu
 |Bn c=>
  simp only at hl;split at hl
  ·exact hl.elim
  ·rename_i q i off hq;obtain⟨t0,e0,xs0,d0,gen,tR,hp,hk⟩:=Ce h hl;dsimp only at tR hp hk
   have wC:c.p.length≤1∨gen=c.gen:=by
    rcases hp with hp|hp
    ·left;rw[Cn hq,hp];simp
    ·exact .inr hp
   obtain⟨q',i',off',u,e',a,n',k',zT,hu,hn,hs,hi,rfl⟩:=hv gen t0 e0 xs0 d0 tR wC;rw[hq]at zT;injection zT with zT
   injection zT with q1 q2
   injection q2 with q2 q3
   subst q1;subst q2;subst q3;obtain⟨t',ys,d',o',hl,hr,ho⟩:=hk u e' _ hu hn;obtain⟨x,hx,hl⟩:=hl;obtain⟨A,c',hv,hle,hr⟩:=hr;injection hv with hA hlen ub
   subst hA;have vF:i<ys.length:=hlen▸hi;rcases hr with hr|⟨g,os,tY,uD,hos⟩
   ·have:=hr.2.1;omega
   rw[AAF vF]at hx;injection hx with hx;subst hx
   refine⟨_,hl,?_,a.block,a.off+(i*e'.n+off),rfl,fun j y hy=>?_⟩
   ·have:∀(vs:List Lv)(off:Nat),(Br { c with p:=q,gen:=s.Jv c.r c.j } i (dec d') off vs).length=vs.length:=by
     intro vs;induction vs with
     |nil=>intro _;rfl
     |cons v vs ih=>intro off;simp[Br,ih]
    rw[this];simp;omega
   ·rw[EX]at hy;cases hz:(((unpack e' ys[i]).drop off).take n)[j]? with
    |none=>rw[hz]at hy;cases hy
    |some lv=>
     rw[hz]at hy;injection hy with hy
     have hj:(unpack e' ys[i])[off+j]?=some lv:=by
      rw[ABN]at hz;split at hz
      ·rw[ABO]at hz;exact hz
      ·cases hz
     obtain⟨w1,o1,hw1,xz,wQ⟩:=GM e' (uD i vF) _ lv hj;have uE:W.w.cell? (at_ a (i*e'.n+(off+j)))=some w1:=by rw[tY.cell];exact hw1
     refine⟨w1,by rw[show a.off+(i*e'.n+off)+j=a.off+(i*e'.n+(off+j)) by omega];exact uE,?_⟩;subst hy;dsimp only;split
     ·rename_i vr;simp only[AAG,AAb]at vr;obtain⟨ll,lx⟩:=lv;cases ll with
      |sl t2 f=>
       intro gen2 t3 e3 xs3 d3 hl3 hp3;dsimp only at hl3 hp3;rw[tR]at hl3;injection hl3 with z1 z2 z3 z4
       subst z4;refine⟨u,f,hu,?_⟩
       have hkd:e'.kinds[off+j]?=some (.sl t2 f):=by rw[←ED e' ys[i],AAX,hj];rfl
       exact J6 q hn hs hi hkd uE
      |_=>simp[Bz]at vr
     ·rename_i vr
      have hzero:lv.l.rd 0 W.w W.fz w1 lv.x []:=by
       obtain⟨ll,lx⟩:=lv;cases ll with
       |sl t2 f=>
        have hd:dec d'=0:=by simp[Bz]at vr;exact vr
        rw[hd]at xz;have:o1=[]:=L.Bo _ xz;subst this;exact xz
       |int k=>exact⟨xz.1,rfl⟩
       |bool=>exact⟨xz.1,rfl⟩
       |str=>exact⟨xz.1,rfl⟩
      exact hzero
 |_=>exact hl.elim
end
end Go.Ev
namespace Go.Ev
def OU(dst:Option Nat)(x:AV):List Wr:=match dst with
 |some d=>[.slot d x]
 |none=>[]
theorem AN{dst:Option Nat}{x:AV}{ws:List Wr}(h:(match dst with|some d=>Step.go [Wr.slot d x]|none=>Step.go []).leads ws):ws=OU dst x:=by
 cases dst<;>exact h.symm
section
variable {P:Program}{E:Cw}{s:St}{W:Wd}{o:Oper}{a:Act}{ws:List Wr}{cx:Cx}{v:Nat}{β:Type}
theorem AT(h:AW E s a.tmps W){u:Value}{x:AV}(tn:(execOp a.eval o).run P W.w=.ok (.value u) W.w)(hx:Ba s W x u):Be P E o a W.w (s.app (OU o.dst x)):=Hn h tn hx
theorem LM{l:L}{la lb:LA}{u w:Value}{q:Bool}(ha:AR s W la u)(hb:AR s W lb w)(h:N6 l la lb=some q){t:TypeId}(ht:I4 P t l)(d:Nat)(w0:World):(Op.equalIn (d+1) t u w).run P w0=.ok q w0:=by
 unfold N6 at h;cases l with
 |int k=>
  simp only at h;split at h
  ·rename_i i x j y;split at h
   ·rename_i hc;simp only[AAG]at hc;obtain rfl:=IntKind.Ha hc.1;obtain rfl:=IntKind.Ha hc.2;injection h with h
    rw[show u=.int j x from ha.1,show w=.int j y from hb.1,run_equalIn_int w0 d t j j x y ht];subst h;rfl
   ·cases h
  ·cases h
 |bool=>
  simp only at h;split at h
  ·rename_i x y;injection h with h
   rw[show u=.bool x from ha.1,show w=.bool y from hb.1,run_equalIn_bool' w0 d t x y ht];subst h;rfl
  ·cases h
 |str=>
  simp only at h;split at h
  ·rename_i x y;injection h with h
   rw[show u=.string ⟨(show List UInt8 from x).toArray⟩from ha.1,show w=.string ⟨(show List UInt8 from y).toArray⟩from hb.1,run_equalIn_string w0 d t _ _ ht];have tl:∀l:List UInt8,(⟨l.toArray⟩:ByteArray).toList=l:=fun l=>by simp
   subst h;rw[tl,tl]
  ·cases h
 |sl t' e=>cases h
theorem Iu{t:TypeId}{l:L}(h:I4 P t l)(cs:Array Value)(n:Nat)(x:Value)(hx:cs[n]?=some x)(w:World):(part t cs n).run P w=.ok x w:=by
 unfold part;rw[Sem.run_bind]
 have we:(isAgg t).run P w=.ok false w:=by
  unfold isAgg;rw[Sem.run_bind];cases l with
  |int k=>rw[run_underlying (show P.underlying t=some (.int k)from h)];rfl
  |bool=>rw[run_underlying (show P.underlying t=some .bool from h)];rfl
  |str=>rw[run_underlying (show P.underlying t=some .string from h)];rfl
  |sl t' e=>exact h.elim
 rw[we];simp[hx]
theorem Gb{d:Nat}{xs ys:Array Value}{w0:World}:∀(fs:List Field)(ls:List L)(as bs:List LA)(n:Nat)(q:Bool),Gy P n fs ls→Fe ls as bs=some q→
  (∀(j:Nat)(b:LA),as[j]?=some b→∃u,xs[n+j]?=some u∧AR s W b u)→(∀(j:Nat)(b:LA),bs[j]?=some b→∃u,ys[n+j]?=some u∧AR s W b u)→
  (Op.eqFields (d+1) xs ys fs).run P w0=.ok q w0
 | [],[],[],[],n,q,hf,hq,h1,h2=>by simp only[Fe,Option.some.injEq]at hq;subst hq;rfl
 |f::fs,l::ls,a::as,b::bs,n,q,hf,hq,h1,h2=>by
  obtain⟨f1,f2,f3,f4⟩:=hf;simp only[Fe]at hq;split at hq
  ·rename_i p r hp hr;injection hq with hq;subst hq
   obtain⟨u,hu,hua⟩:=h1 0 a rfl;obtain⟨v,hv,hvb⟩:=h2 0 b rfl;have ih:=Gb (d:=d) (xs:=xs) (ys:=ys) (w0:=w0) fs ls as bs (n+1) r f4 hr (fun j b hj=>by rw[show n+1+j=n+(j+1) by omega];exact h1 (j+1) b (by simpa using hj)) (fun j b hj=>by rw[show n+1+j=n+(j+1) by omega];exact h2 (j+1) b (by simpa using hj));simp only[Op.eqFields];rw[AAK f1,f2,Sem.run_bind,Iu f3 xs n u (by simpa using hu)];simp only[Result.andThen_ok];rw[Sem.run_bind,Iu f3 ys n v (by simpa using hv)];simp only[Result.andThen_ok];rw[Sem.run_bind,LM hua hvb hp f3 d w0];simp only[Result.andThen_ok];cases p with
   |true=>simpa using ih
   |false=>simp
  ·cases hq
 | [],[],[],_::_,n,q,hf,hq,h1,h2=>by simp[Fe]at hq
 | [],[],_::_,_,n,q,hf,hq,h1,h2=>by simp[Fe]at hq
 |f::fs,l::ls,[],_,n,q,hf,hq,h1,h2=>by simp[Fe]at hq
 |f::fs,l::ls,_::_,[],n,q,hf,hq,h1,h2=>by simp[Fe]at hq
 | [],_::_,as,bs,n,q,hf,hq,h1,h2=>hf.elim
 |_::_,[],as,bs,n,q,hf,hq,h1,h2=>hf.elim
theorem Ly(hc:Dr P cx){op:BinOp}{tx:TypeId}{x y:Operand}{as bs:List LA}{u w:Value}(hu:E4 s W true as u)(hw:E4 s W true bs w){k:AV→Step β}{t:β}(hl:(Lx cx op tx as bs k).leads t)(w0:World):
  ∃z r,(k z).leads t∧Ba s W z r∧(do eqGuard op tx x y u w;binOp op tx u w:Sem Value).run P w0=.ok r w0:=by
 unfold Lx at hl;split at hl
 ·rename_i ty v9;split at hl
  ·rename_i heq;split at hl
   ·rename_i q hq;obtain⟨cs,rfl,_,h1⟩:=hu;obtain⟨ds,rfl,_,h2⟩:=hw;obtain⟨e1,e2,fs,e3,e4⟩:=(hc tx ty v9).eqs heq;have ve:P.fieldsOf tx=fs:=by unfold Program.fieldsOf;rw[e3]
    have tn:(Op.equalIn 10000 tx (.agg cs) (.agg ds)).run P w0=.ok q w0:=by
     rw[run_equalIn_struct w0 9999 tx cs ds (by rw[ve];exact e3) e1,ve];exact Gb (d:=9998) _ _ _ _ 0 q e4 hq (fun j b hj=>by rw[AAW];exact h1 j b hj) (fun j b hj=>by rw[AAW];exact h2 j b hj)
    split at hl
    ·refine⟨_,_,hl,Ct _,?_⟩;rw[Sem.run_bind,run_eqGuard_agg w0 _ tx x y cs ds e2];simp only[Result.andThen_ok];rw[run_eql_struct,tn];rfl
    ·refine⟨_,_,hl,Ct _,?_⟩;rw[Sem.run_bind,run_eqGuard_agg w0 _ tx x y cs ds e2];simp only[Result.andThen_ok];rw[run_neq_struct,tn];rfl
    ·exact hl.elim
   ·exact hl.elim
  ·exact hl.elim
 ·exact hl.elim
theorem MP(hc:Dr P cx)(h:AW E s a.tmps W){op:BinOp}{tx ty:TypeId}{x y:Operand}(ho:o.op=.binOp op tx x y ty)(hl:(AB cx v o s).leads ws):Be P E o a W.w (s.app ws):=by
 simp only[AB,ho]at hl
 have key:∃z r,(match o.dst with|some d=>Step.go [Wr.slot d z]|none=>Step.go []).leads ws∧Ba s W z r∧(do eqGuard op tx x y (a.eval x) (a.eval y);binOp op tx (a.eval x) (a.eval y):Sem Value).run P W.w=.ok r W.w:=by
  split at hl
  ·rename_i as bs h1 h2;exact Ly hc (by have:=BF h x;rw[h1]at this;exact this) (by have:=BF h y;rw[h2]at this;exact this) hl W.w
  ·exact L4 (x:=x) hc h hl
 obtain⟨z,r,hl,hz,hr⟩:=key;rw[AN hl];refine AT h ?_ hz;simp only[execOp,ho];rw[Sem.run_bind,hr];rfl
theorem NM(h:AW E s a.tmps W){op:UnOp}{tx:TypeId}{x:Operand}(ho:o.op=.unOp op tx x)(hl:(AB cx v o s).leads ws):Be P E o a W.w (s.app ws):=by
 simp only[AB,ho]at hl;have h1:=Ac h x
 revert hl h1
 generalize s.Ah x=p;intro hl h1;split at hl
 ·rw[AN hl];rename_i b;refine AT h (u:=.bool (!b)) ?_ (Ct _);simp[execOp,ho,show a.eval x=.bool b from h1.1,Op.unary]
 ·rename_i k n;rw[AN hl];refine AT h (u:=.int k (k.wrap (Nw n))) ?_ (Bk _ _);simp[execOp,ho,show a.eval x=.int k n from h1.1,Op.unary,Op.intArith,Nw]
 ·exact hl.elim
theorem Cm{t:TypeId}{ty:Ty}(hc:Dr P cx)(ht:cx.ty t=some ty){l:L}(hl:ty.ls=.one l)(hg:ty.agg=false):GQ P t l:=by obtain⟨l',h1,h2⟩:=(hc t ty ht).lone hg;rw[hl]at h1;injection h1 with h1;subst h1;exact h2
theorem NL(h:AW E s a.tmps W){x y z:Operand}(ho:o.op=.pick x y z)(hl:(AB cx v o s).leads ws):Be P E o a W.w (s.app ws):=by
 simp only[AB,ho]at hl;have h1:=Ac h x
 revert hl h1
 generalize s.Ah x=p;intro hl h1;split at hl
 ·rename_i t;rcases Ag hl with⟨ht,hl⟩|⟨ht,hl⟩
  ·rw[AN hl];refine AT h (u:=a.eval y) ?_ (BF h y);simp[execOp,ho,show a.eval x=.bool t from h1.1,asBool,show t=true from ht]
  ·rw[AN hl];refine AT h (u:=a.eval z) ?_ (BF h z);simp[execOp,ho,show a.eval x=.bool t from h1.1,asBool,show t=false from ht]
 ·exact hl.elim
theorem HI{la:LA}{u:Value}(hv:AR s W la u)(ha:s.alive la=true):∃ad,u=.pointer (some ad):=by
 unfold St.alive at ha;cases la with
 |ptr r j AA=>
  simp only[AAG,AAS]at ha;exact⟨_,hv ha.1 ha.2⟩
 |Bn c=>
  simp only at ha;split at ha
  ·rename_i AA gen t e xs d hl;simp only[AAG,AAS,AAa,AAb]at ha;obtain⟨rfl,hg⟩:=ha;obtain⟨q,i,off,h',e',ad,n,k,_,_,_,_,_,hu⟩:=hv gen t e xs d hl hg;exact⟨_,hu⟩
  ·cases ha
 |D9 e x off=>obtain⟨ad,g,arr,T,fr,hu,_⟩:=hv;exact⟨_,hu⟩
 |_=>cases ha
theorem KS{a:AV}{v:Value}(h:Ba s W a v):AR s W a.one? v:=by
 cases a with
 |Dp vs=>trivial
 |bx as=>trivial
 |v g as=>
  cases g with
  |true=>trivial
  |false=>cases as with
   |nil=>trivial
   |cons b bs=>cases bs with
    |nil=>exact h
    |cons=>trivial
theorem LS{tm:Array Value}(h:AW E s tm W){la:AV}{v:Value}(hv:Ba s W la v){n:Nat}{β:Type}{t:β}{k:List LA→Step β}(hl:(s.FR la n k).leads t):
  ∃as:List LA,(k as).leads t∧as.length≤n∧∃(b off:Nat),v=.pointer (some ⟨b,off,none⟩)∧∀(j:Nat)(x:LA),as[j]?=some x→∃u,W.w.cell? ⟨b,off+j,none⟩=some u∧AR s W x u:=by
 cases la with
 |v g as=>exact Ft h (KS hv) hl
 |Dp vs=>exact Ft h (KS hv) hl
 |bx as=>
  simp only[St.FR]at hl;split at hl
  ·rename_i hlen;obtain⟨b,off,arr,T,fr,hp,hz,hh,um,tv⟩:=hv;refine⟨_,hl,by rw[List.length_take];omega,b,off,hp,fun j x hx=>?_⟩
   have hx':as[j]?=some x:=by
    rw[ABN]at hx;split at hx
    ·exact hx
    ·cases hx
   obtain⟨u,hu,uU⟩:=tv j x hx';exact⟨u,by simp[World.cell?,hh,hu],uU⟩
  ·exact hl.elim
theorem KA(h:AW E s a.tmps W){x:Operand}(ho:o.op=.nilCheck x)(hl:(AB cx v o s).leads ws):Be P E o a W.w (s.app ws):=by
 simp only[AB,ho]at hl;have h1:=BF h x
 have uV:∀p:AV,Ba s W p (a.eval x)→(if s.alive p.one? then(match o.dst with|some d=>(.go [.slot d (one p.one?)]:Step (List Wr))|none=>.go [])else .none).leads ws→Be P E o a W.w (s.app ws):=by
  intro p h1 hl;have h1:=KS h1;split at hl
  ·rename_i hal;obtain⟨ad,hp⟩:=HI h1 hal;rw[AN hl];exact AT h (u:=a.eval x) (by simp[execOp,ho,hp]) h1
  ·exact hl.elim
 generalize s.Ap x=p at hl h1;cases p with
 |bx as=>
  have h2:=h1;obtain⟨b,off,arr,T,fr,hp,_⟩:=h1;rw[AN hl];exact AT h (u:=a.eval x) (by simp[execOp,ho,hp]) h2
 |v g as=>exact uV _ h1 hl
 |Dp vs=>exact uV _ h1 hl
theorem ES{la:LA}{u:Value}(hv:AR s W la u){β:Type}{k:Int→Step β}{t:β}(hl:(asInt la k).leads t):∃j n,u=.int j n∧(k n).leads t:=by
 unfold asInt at hl;cases la with
 |sc l x=>cases l with
  |int j=>exact⟨j,x,hv.1,hl⟩
  |_=>exact hl.elim
 |_=>exact hl.elim
theorem NB{la:LA}{u:Value}(hv:AR s W la u){β:Type}{k:Int→Step β}{t:β}(hl:(Nt la k).leads t):∃(n:Int) (b:ByteArray),(k n).leads t∧u=.string b∧n=b.size:=by
 unfold Nt at hl;cases la with
 |sc l x=>cases l with
  |str=>exact⟨_,_,hl,hv.1,rfl⟩
  |_=>exact hl.elim
 |_=>exact hl.elim
theorem MC(h:AW E s a.tmps W){la:LA}{u:Value}(hv:AR s W la u){β:Type}{k:Int→Step β}{t:β}(hl:(lenOf s la k).leads t):
  ∃n:Int,(k n).leads t∧∃A len c,u=.slice A len c∧n=(len:Int):=by
 unfold lenOf at hl;cases la with
 |sc l x=>cases l with
  |sl t e=>
   obtain⟨A,c,hu,_⟩:=AD.len (show AD e 0 W.w W.fz u x []from hv);exact⟨_,hl,A,_,c,hu,rfl⟩
  |_=>exact hl.elim
 |DJ=>exact⟨_,hl,none,0,0,hv,rfl⟩
 |ref c=>
  obtain⟨t',e',ys,d',o',hl,hr,ho⟩:=DO h hv hl;obtain⟨A,c,hu,_⟩:=hr.len;exact⟨_,hl,A,_,c,hu,rfl⟩
 |EF c lo hi=>
  obtain⟨t',e',ys,d',o',hl,hr,ho⟩:=EV h hv hl;obtain⟨A,c,hu,_⟩:=hr.len;exact⟨_,hl,A,_,c,hu,rfl⟩
 |_=>exact hl.elim
theorem NJ(hc:Dr P cx)(h:AW E s a.tmps W){t:TypeId}{x:Operand}(ho:o.op=.load t x)(hl:(AB cx v o s).leads ws):Be P E o a W.w (s.app ws):=by
 simp only[AB,ho]at hl;split at hl
 ·rename_i ty ht;have v9:=hc t ty ht;obtain⟨as,hl,_,b,off,hx,tv⟩:=LS h (BF h x) hl;split at hl
  ·rename_i hlen;have hlen:as.length=ty.ls.n:=by simpa using hlen
   rw[AN hl];cases vd:ty.agg with
   |false=>
    obtain⟨l,vf,vS⟩:=v9.lone vd;rw[vf]at hlen
    obtain⟨y,rfl⟩:∃y,as=[y]:=by
     match as,hlen with
     | [y],_=>exact⟨y,rfl⟩
    obtain⟨u,hu,hy⟩:=tv 0 y rfl;obtain⟨d,hd,ur⟩:=vS.JJ;refine AT h (u:=u) ?_ (show Ba s W (.v false [y]) u from hy)
    have we:(isAgg t).run P W.w=.ok false W.w:=by
     unfold isAgg;rw[Sem.run_bind,run_underlying hd];cases d<;>simp_all
    simp only[AAr]at hu;simp[execOp,ho,Instr.loadAt,hx,Instr.sureAddr,loadVar,we,load,Sem.run,hu]
   |true=>
    obtain⟨fs,ve,_⟩:=v9.agg vd;obtain⟨i,hi,uC,_⟩:=v9.info
    let f:Nat→Value:=fun j=>(W.w.cell? ⟨b,off+j,none⟩).getD Go.undef
    let cs:List Value:=(List.range as.length).map f
    have wF:∀j u,cs[j]?=some u→W.w.cell? ⟨b,off+j,none⟩=some u:=by
     intro j u hj;simp only[cs,AAX]at hj;by_cases tX:j<as.length
     ·rw[List.getElem?_range tX]at hj;simp at hj;obtain⟨u',tu,_⟩:=tv j as[j] (AAF tX);rw[←hj];simp[f,tu]
     ·rw[AAv (by simp;omega)]at hj;cases hj
    have tn:=run_loadVar_mid (P:=P) W.w b off t cs (.struct fs) (fun j u hj=>wF j u hj) ve rfl (by simp[hi,uC,cs,hlen]);refine AT h (u:=.agg cs.toArray) ?_ ?_
    ·simp[execOp,ho,Instr.loadAt,hx,Instr.sureAddr,tn]
    ·refine⟨cs.toArray,rfl,by simp[cs],fun j y hy=>?_⟩;obtain⟨u,hu,uU⟩:=tv j y hy;refine⟨u,?_,uU⟩;have tX:j<as.length:=(AAH.1 hy).1;simp[cs,f,tX,hu]
  ·exact hl.elim
 ·exact hl.elim
theorem Nz(hc:Dr P cx)(h:AW E s a.tmps W){c:Call}(ho:o.op=.call c)(hb:c.callee=.builtin .len)(hl:(AB cx v o s).leads ws):Be P E o a W.w (s.app ws):=by
 simp only[AB,ho,hb]at hl;split at hl
 ·rename_i x t hx ht;split at hl
  ·rename_i ty v9;split at hl
   ·exact hl.elim
   ·rename_i vd;have uL:c.args = #[x]:=by rw[←Array.toList_inj,hx]
    have yT:c.argTypes = #[t]:=by rw[←Array.toList_inj,ht]
    obtain⟨cal,args,ats⟩:=c;dsimp only at hb uL yT;subst hb;subst uL;subst yT;split at hl
    ·rename_i vf;obtain⟨n,b,hl,hu,rfl⟩:=NB (Ac h x) hl;rw[AN hl];refine AT h (u:=.int .i64 b.size) ?_ (Bk _ _);have uO:P.underlying t=some .string:=Cm hc v9 vf (by simpa using vd);simp[execOp,ho,resolve,invoke,builtin,Builtin.len_,hu,run_underlying uO,goInt]
    ·rename_i t' e vf;obtain⟨n,hl,A,len,k,hu,rfl⟩:=MC h (Ac h x) hl;rw[AN hl];refine AT h (u:=.int .i64 len) ?_ (Bk _ _);have uO:=(Cm hc v9 vf (by simpa using vd)).1;simp[execOp,ho,resolve,invoke,builtin,Builtin.len_,hu,run_underlying uO,goInt]
    ·exact hl.elim
  ·exact hl.elim
 ·exact hl.elim
end
end Go.Ev
namespace Go.Ev
theorem Fw{α:Type}:∀(l:List α)(i:Nat),H2 l i=l[i]?
 | [],i=>by simp[H2]
 |x::xs,0=>by simp[H2]
 |x::xs,i+1=>by simp[H2,Fw xs i]
section
variable {P:Program}{E:Cw}{s:St}{W:Wd}{o:Oper}{a:Act}{ws:List Wr}{cx:Cx}{v:Nat}
theorem B7(b off n:Nat):(⟨b,off,none⟩:Addr).add n=⟨b,off+n,none⟩:=by
 unfold Addr.add;split
 ·rename_i h;subst h;rfl
 ·rfl
theorem KR(ad:Addr)(k n:Nat):(at_ ad k).add n=at_ ad (k+n):=by unfold at_;rw[B7];congr 1;omega
theorem Jn(hc:Dr P cx){t:TypeId}{ty:Ty}(ht:cx.ty t=some ty){f fo:Nat}{ft:TypeId}(hf:(if ty.agg=true then H2 ty.fs f else none)=some (fo,ft)):
  ty.agg=true∧∃(fs:Array Field) (fd:Field),P.underlying t=some (.struct fs)∧fs[f]?=some fd∧fd.offset=fo∧fd.type=ft:=by
 split at hf
 ·rename_i vd;obtain⟨fs,hu,ve,_⟩:=(hc t ty ht).agg vd;rw[Fw,←ve,AAX]at hf;cases hq:fs.toList[f]? with
  |none=>rw[hq]at hf;cases hf
  |some fd=>
   rw[hq]at hf;injection hf with hf;injection hf with h1 h2
   exact⟨vd,fs,fd,hu,by simpa using hq,h1,h2⟩
 ·cases hf
theorem K1(hc:Dr P cx){t:TypeId}{ty:Ty}(ht:cx.ty t=some ty)(w:World):(sizeOf t).run P w=.ok ty.ls.n w:=by obtain⟨i,hi,hs,_⟩:=(hc t ty ht).info;simp[sizeOf,typeInfo,hi,hs]
theorem CZ:∀(q:List (Nat×Nat)) (i off:Nat),Ai (q++[(i,off)])=some (q,i,off)
 | [],i,off=>rfl
 | [x],i,off=>rfl
 |x::y::r,i,off=>by have:=CZ (y::r) i off;simp only[ABH]at this ⊢;simp only[Ai];rw[this]
theorem JL(hc:Dr P cx)(h:AW E s a.tmps W){t:TypeId}{x:Operand}{f:Nat}(ho:o.op=.fieldAddr t x f)(hl:(AB cx v o s).leads ws):
  Be P E o a W.w (s.app ws):=by
 simp only[AB,ho]at hl;split at hl
 ·rename_i ty ht;split at hl
  ·rename_i fo ft hf;obtain⟨vd,fs,fd,hu,hfd,rfl,rfl⟩:=Jn hc ht hf;split at hl
   ·rename_i tf htf;split at hl
    ·exact hl.elim
    ·rename_i tj;have uC:=K1 hc htf W.w;simp only[AAS]at tj;have h0:=BF h x
     have run:∀ad:Addr,a.eval x=.pointer (some ad)→(execOp a.eval o).run P W.w=.ok (.value (.pointer (some (ad.add fd.offset)))) W.w:=by intro ad u9;simp[execOp,ho,Instr.fieldAt,run_underlying hu,hfd,u9,Instr.sureAddr,fieldPlace,uC,tj]
     have uV:∀h1:AR s W (s.Ah x) (a.eval x),(∀as,s.Ap x≠.bx as)→s.alive (s.Ah x)=true→(match s.Ah x with
       | .ptr r j AA=>(match o.dst with|some d=>(.go [.slot d (one (.ptr r (j+fd.offset) AA))]:Step (List Wr))|none=>.go [])
       | .D9 e y j=>(match o.dst with|some d=>(.go [.slot d (one (.D9 e y (j+fd.offset)))]:Step (List Wr))|none=>.go [])
       | .Bn c=>match Ai c.p with
        |some (q,i,off)=>(match o.dst with|some d=>(.go [.slot d (one (.Bn { c with p:=q++[(i,off+fd.offset)] }))]:Step (List Wr))|none=>.go [])
        |none=>.none
       |_=>.none:Step (List Wr)).leads ws→Be P E o a W.w (s.app ws):=by
      intro h1 xY yR hl;obtain⟨ad,u9⟩:=HI h1 yR;have run:=run ad u9;clear xY;generalize s.Ah x=p at hl h1 yR;split at hl
      ·rename_i r j AA;rw[AN hl];refine AT h run ?_;intro hb tc;have:=h1 hb tc;rw[u9]at this;injection this with this;injection this with this
       subst this;rw[B7]
      ·rename_i e y j;rw[AN hl];refine AT h run ?_;obtain⟨zw,g,arr,T,fr,hv,rest⟩:=h1;rw[u9]at hv;injection hv with hv;injection hv with hv
       subst hv;exact⟨zw,g,arr,T,fr,by rw[KR],rest⟩
      ·rename_i c;split at hl
       ·rename_i q i off hq;rw[AN hl];refine AT h run ?_;intro gen t0 e0 xs0 d0 tR hp;dsimp only at tR hp
        obtain⟨q',i',off',h',e',zw,n,k,zT,uJ,hn,hs,hi,hv⟩:=h1 gen t0 e0 xs0 d0 tR (by
         rcases hp with hp|hp
         ·left;rw[Cn hq];simpa using hp
         ·exact .inr hp)
        rw[hq]at zT;injection zT with zT;injection zT with z1 z2;injection z2 with z2 z3
        subst z1;subst z2;subst z3;rw[u9]at hv;injection hv with hv;injection hv with hv
        subst hv;exact⟨q,i,off+fd.offset,h',e',zw,n,k,CZ _ _ _,uJ,hn,hs,hi,by rw[KR,Nat.add_assoc]⟩
       ·exact hl.elim
      ·exact hl.elim
     have hsel:∀p,s.Ap x=p→(∀as,p≠.bx as)→(if !s.alive p.one? then(.none:Step (List Wr))else match p.one? with
       | .ptr r j AA=>(match o.dst with|some d=>(.go [.slot d (one (.ptr r (j+fd.offset) AA))]:Step (List Wr))|none=>.go [])
       | .D9 e y j=>(match o.dst with|some d=>(.go [.slot d (one (.D9 e y (j+fd.offset)))]:Step (List Wr))|none=>.go [])
       | .Bn c=>match Ai c.p with
        |some (q,i,off)=>(match o.dst with|some d=>(.go [.slot d (one (.Bn { c with p:=q++[(i,off+fd.offset)] }))]:Step (List Wr))|none=>.go [])
        |none=>.none
       |_=>.none).leads ws→Be P E o a W.w (s.app ws):=by
      intro p hp xY hl;have h1:AR s W (s.Ah x) (a.eval x):=Ac h x;split at hl
      ·exact hl.elim
      ·rename_i hal;refine uV h1 (hp▸xY) (by rw[St.Ah,hp];simpa using hal) ?_;rw[St.Ah,hp];exact hl
     generalize hq:s.Ap x=p at hl h0;cases p with
     |bx as=>
      obtain⟨b,off,arr,T,fr,hv,hz,hh,um,tv⟩:=h0;have run:=run _ hv;rw[AN hl];refine AT h run ?_;refine⟨b,off+fd.offset,arr,T,fr,by rw[B7],hz,hh,um,fun j y hy=>?_⟩;rw[ABO]at hy;obtain⟨u,hu,uU⟩:=tv _ y hy;exact⟨u,by rw[←hu,Nat.add_assoc],uU⟩
     |v g as=>exact hsel _ hq (by simp) hl
     |Dp vs=>exact hsel _ hq (by simp) hl
   ·exact hl.elim
  ·exact hl.elim
 ·exact hl.elim
theorem MR(hc:Dr P cx)(h:AW E s a.tmps W){t:TypeId}{x:Operand}{f:Nat}(ho:o.op=.field t x f)(hl:(AB cx v o s).leads ws):Be P E o a W.w (s.app ws):=by
 simp only[AB,ho]at hl;have h1:=BF h x
 revert hl h1
 generalize s.Ap x=p;intro hl h1;split at hl
 ·rename_i ty as ht;split at hl
  ·rename_i fo ft hf;obtain⟨vd,fs,fd,hu,hfd,rfl,rfl⟩:=Jn hc ht hf;split at hl
   ·rename_i tf htf;split at hl
    ·rename_i hle;have hle:fd.offset+tf.ls.n≤as.length:=AAq hle;rw[AN hl];obtain⟨cs,wF,uC,tv⟩:=h1
     have hpart:∃u,(part fd.type cs fd.offset).run P W.w=.ok u W.w∧Ba s W (.v tf.agg ((as.drop fd.offset).take tf.ls.n)) u:=by
      have htf':=hc _ _ htf;cases hag':tf.agg with
      |false=>
       obtain⟨l,vf,vS⟩:=htf'.lone hag';obtain⟨d,hd,ur⟩:=vS.JJ
       have we:(isAgg fd.type).run P W.w=.ok false W.w:=by
        unfold isAgg;rw[Sem.run_bind,run_underlying hd];cases d<;>simp_all
       have hn:tf.ls.n=1:=by rw[vf];rfl
       rw[hn]at hle ⊢;have tX:fd.offset<as.length:=by omega
       obtain⟨u,hu,uU⟩:=tv fd.offset as[fd.offset] (AAF tX);refine⟨u,by simp[part,we,hu],?_⟩
       have:(as.drop fd.offset).take 1=[as[fd.offset]]:=by rw[List.drop_eq_getElem_cons tX];rfl
       rw[this];exact uU
      |true=>
       obtain⟨fs',hfs',_⟩:=htf'.agg hag'
       have we:(isAgg fd.type).run P W.w=.ok true W.w:=by unfold isAgg;rw[Sem.run_bind,run_underlying hfs'];rfl
       refine⟨.agg (cs.extract fd.offset (fd.offset+tf.ls.n)),by simp[part,we,K1 hc htf],_,rfl,by simp;omega,fun j y hy=>?_⟩;rw[ABN]at hy;split at hy
       ·rename_i hj;rw[ABO]at hy;obtain⟨u,hu,uU⟩:=tv _ y hy;refine⟨u,?_,uU⟩;rw[Array.getElem?_extract];rw[AAK (by omega)];exact hu
       ·cases hy
     obtain⟨u,tn,uU⟩:=hpart;exact AT h (u:=u) (by simp[execOp,ho,Instr.field,run_underlying hu,hfd,wF,asAgg,tn]) uU
    ·exact hl.elim
   ·exact hl.elim
  ·exact hl.elim
 ·exact hl.elim
theorem Kc(h:AW E s a.tmps W){x:Operand}{i:Nat}(ho:o.op=.extract x i)(hl:(AB cx v o s).leads ws):Be P E o a W.w (s.app ws):=by
 simp only[AB,ho]at hl;have h1:=BF h x
 revert hl h1
 generalize s.Ap x=p;intro hl h1;split at hl
 ·rename_i vs;split at hl
  ·rename_i g as hn;rw[AN hl];rw[Fw]at hn;obtain⟨us,zX,uC,tv⟩:=h1;obtain⟨u,hu,uU⟩:=tv i _ hn;exact AT h (u:=u) (by simp[execOp,ho,Instr.extract,zX,hu]) uU
  ·exact hl.elim
 ·exact hl.elim
theorem NK(h:AW E s a.tmps W){x:Operand}(ho:o.op=.move x)(hn:Hr (s.Ap x)=false)(hl:(AB cx v o s).leads ws):Be P E o a W.w (s.app ws):=by simp only[AB,ho,hn]at hl;rw[AN hl];exact AT h (u:=a.eval x) (by simp[execOp,ho]) (BF h x)
theorem N1(h:AW E s a.tmps W){c:Call}(ho:o.op=.call c)(hb:c.callee=.builtin .min)(hl:(AB cx v o s).leads ws):Be P E o a W.w (s.app ws):=by
 simp only[AB,ho,hb]at hl;split at hl
 ·rename_i x y hx;have h1:=Ac h x;have h2:=Ac h y;generalize s.Ah x=p at hl h1;generalize s.Ah y=q at hl h2;split at hl
  ·rename_i k m j n;change Int at m n;rw[AN hl];have uL:c.args = #[x,y]:=by rw[←Array.toList_inj,hx]
   obtain⟨cal,args,ats⟩:=c;dsimp only at hb uL;subst hb;subst uL;have e1:a.eval x=.int k m:=h1.1;have e2:a.eval y=.int j n:=h2.1
   have hr:(Builtin.min_ ats o.type #[.int k m,.int j n]).run P W.w=.ok (.int k (NF m n)) W.w:=by rw[run_min_int2];unfold NF;rw[Bool.cond_decide]
   refine AT h (u:=.int k (NF m n)) ?_ (Bk _ _);simp[execOp,ho,resolve,invoke,builtin,e1,e2];rw[hr];rfl
  ·exact hl.elim
 ·exact hl.elim
theorem N0(h:AW E s a.tmps W){c:Call}(ho:o.op=.call c)(hb:c.callee=.builtin .max)(hl:(AB cx v o s).leads ws):Be P E o a W.w (s.app ws):=by
 simp only[AB,ho,hb]at hl;split at hl
 ·rename_i x y hx;have h1:=Ac h x;have h2:=Ac h y;generalize s.Ah x=p at hl h1;generalize s.Ah y=q at hl h2;split at hl
  ·rename_i k m j n;change Int at m n;rw[AN hl];have uL:c.args = #[x,y]:=by rw[←Array.toList_inj,hx]
   obtain⟨cal,args,ats⟩:=c;dsimp only at hb uL;subst hb;subst uL;have e1:a.eval x=.int k m:=h1.1;have e2:a.eval y=.int j n:=h2.1
   have hr:(Builtin.max_ ats o.type #[.int k m,.int j n]).run P W.w=.ok (.int k (ND m n)) W.w:=by rw[run_max_int2];unfold ND;rw[Bool.cond_decide]
   refine AT h (u:=.int k (ND m n)) ?_ (Bk _ _);simp[execOp,ho,resolve,invoke,builtin,e1,e2];rw[hr];rfl
  ·exact hl.elim
 ·exact hl.elim
end
end Go.Ev
namespace Go.Ev
section
variable {P:Program}{E:Cw}{s:St}{W:Wd}{o:Oper}{a:Act}{ws:List Wr}{cx:Cx}{v:Nat}
theorem Fq(hc:Dr P cx){t:TypeId}{e:Ls}(h:isRow cx t e=true):∃t',P.underlying t=some (.slice t')∧Lr P t' e:=by
 unfold isRow at h;split at h
 ·rename_i ty ht;simp only[AAG,AAT]at h;obtain⟨hg,h⟩:=h;split at h
  ·rename_i t' f vf;obtain rfl:=Ls.Du h;exact⟨t',Cm hc ht vf hg⟩
  ·cases h
 ·cases h
theorem KK(hc:Dr P cx){t:TypeId}(h:IW cx t .str=true):P.underlying t=some .string:=by
 unfold IW at h;split at h
 ·rename_i ty ht;simp only[AAG,AAT]at h;obtain⟨l,hl,hf⟩:=(hc t ty ht).lone h.1;rw[hl]at h;have:=h.2;simp only[Ls.eq?]at this;obtain rfl:=L.Du this;exact hf
 ·cases h
theorem Lr.sizeOf{t:TypeId}{e:Ls}(h:Lr P t e)(w:World):(sizeOf t).run P w=.ok e.n w:=by obtain⟨i,hi,hs,_⟩:=h.info;simp[Go.sizeOf,typeInfo,hi,hs]
theorem Ii{α:Type}{xs:List α}{n:Int}{x:α}(h:M8 xs n=some x):0≤n∧∃hx:n.toNat<xs.length,xs[n.toNat]=x:=by
 unfold M8 at h;split at h
 ·rename_i h0;obtain⟨hx,he⟩:=AAH.1 h;exact⟨h0,hx,he⟩
 ·cases h
theorem L7{α:Type}{xs:List α}{n:Int}(h:Ob xs n=true):0≤n∧n.toNat<xs.length:=by unfold Ob at h;simp only[AAG,AAb]at h;omega
theorem Dl(hc:Dr P cx){ti:TypeId}{e:Ls}(hr:isRow cx ti e=true){j:IntKind}{n:Int}{ad:Addr}{len c:Nat}(h0:0≤n)(hn:n.toNat<len)(w:World):
  (Instr.indexAt ti (.slice (some ad) len c) (.int j n)).run P w=.ok (.pointer (some (ad.add (n.toNat*e.n)))) w:=by
 obtain⟨t',hu,he⟩:=Fq hc hr;have:0≤n∧n<(len:Int):=by omega
 simp[Instr.indexAt,asIntOf,run_underlying hu,this,he.sizeOf]
theorem EO{ad:Addr}(hs:ad.spot=none)(k:Nat):ad.add k=at_ ad k:=by obtain⟨b,off,sp⟩:=ad;dsimp only at hs;subst hs;exact B7 b off k
theorem JM(hc:Dr P cx)(h:AW E s a.tmps W){ti:TypeId}{x i:Operand}(ho:o.op=.indexAddr ti x i)(hl:(AB cx v o s).leads ws):Be P E o a W.w (s.app ws):=by
 simp only[AB,ho]at hl;obtain⟨j,n,hi,hl⟩:=ES (Ac h i) hl;have h1:=Ac h x;generalize s.Ah x=p at hl h1;split at hl
 ·rename_i t e xs;split at hl
  ·rename_i hr;obtain⟨y,hy,hl⟩:=hl;rw[AN hl];obtain⟨h0,hx,he⟩:=Ii hy;have h1:AD e 0 W.w W.fz (a.eval x) xs []:=h1;obtain⟨A,c,hv,ub,h1⟩:=h1;cases A with
   |none=>rw[h1.1]at ub;omega
   |some ad=>
    rcases h1 with h1|⟨g,os,tY,uD,vO,_,_⟩
    ·have:=h1.2.1;omega
    have tn:=Dl (P:=P) hc hr (j:=j) (ad:=ad) (c:=c) h0 hx W.w;refine AT h (u:=.pointer (some (ad.add (n.toNat*e.n)))) (by simp[execOp,ho,hi,hv,tn]) ?_;obtain⟨hs,arr,T,fr,hh,hnn,_,hg⟩:=tY;rw[EO hs];refine⟨at_ ad (n.toNat*e.n),fun j=>g (n.toNat*e.n+j),arr,T,fr,by simp[at_],vO,hh,fun j=>?_,?_⟩
    ·show g _=_;rw[hg];simp[at_,Nat.add_assoc]
    ·have:=uD n.toNat hx;rw[he]at this;have ho:os n.toNat=[]:=Ls.Bo e this;rw[ho]at this;exact this
  ·exact hl.elim
 ·rename_i c;have vc:=h1;obtain⟨t0,e0,xs0,d0,gen,tR,hp,hk⟩:=Ce h hl;obtain⟨u,e',hu,hn⟩:=h1 gen t0 e0 xs0 d0 tR hp;obtain⟨t',ys,d',o',hl,te,_⟩:=hk u e' _ hu hn;split at hl
  ·rename_i hr;rcases Ag hl with⟨hb,hl⟩|⟨_,hl⟩
   ·rw[AN hl];obtain⟨h0,hx⟩:=L7 hb;obtain⟨A,cc,hv,ub,te⟩:=te;cases A with
    |none=>rw[te.1]at ub;omega
    |some ad=>
     rcases te with te|⟨g,os,tY,uD,_⟩
     ·have:=te.2.1;omega
     have tn:=Dl (P:=P) hc hr (j:=j) (ad:=ad) (c:=cc) h0 hx W.w;refine AT h (u:=.pointer (some (ad.add (n.toNat*e'.n)))) (by simp[execOp,ho,hi,hv,tn]) ?_;intro gen2 t2 e2 xs2 d2 uM xg;dsimp only at uM xg;rw[tR]at uM;injection uM with z1 z2 z3 z4
     subst z4;rw[hv]at hn;exact⟨c.p,n.toNat,0,u,e',ad,_,cc,CZ _ _ _,hu,hn,tY.1,hx,by rw[EO tY.1];rfl⟩
   ·exact hl.elim
  ·exact hl.elim
 ·rename_i c lo vF;obtain⟨t0,e0,xs0,d0,gen,tR,hp,hk⟩:=Ce h hl;obtain⟨u,e',A0,n0,k0,hu,hn,vS,xL,hv⟩:=h1 gen t0 e0 xs0 d0 tR hp;obtain⟨t',ys,d',o',hl,te,_⟩:=hk u e' _ hu hn;split at hl
  ·rename_i hr;rcases Ag hl with⟨hb,hl⟩|⟨_,hl⟩
   ·rw[AN hl];obtain⟨h0,hx⟩:=L7 hb;obtain⟨A,cc,vE,ub,te⟩:=te;injection vE with z1 z2 z3
    subst z1;subst z2;subst z3;have hx':n.toNat<vF-lo:=by simp[sub]at hx;omega
    cases A0 with
    |none=>rw[te.1]at ub;omega
    |some ad=>
     rcases te with te|⟨g,os,tY,uD,_⟩
     ·have:=te.2.1;omega
     have tj:k0≠lo:=by omega
     rw[AAM tj]at hv;have tn:=Dl (P:=P) hc hr (j:=j) (ad:=ad.add (lo*e'.n)) (c:=k0-lo) h0 hx' W.w;refine AT h (u:=.pointer (some ((ad.add (lo*e'.n)).add (n.toNat*e'.n)))) (by simp[execOp,ho,hi,hv,tn]) ?_;intro gen2 t2 e2 xs2 d2 uM xg;dsimp only at uM xg;rw[tR]at uM;injection uM with q1 q2 q3 q4
     subst q4;exact⟨c.p,lo+n.toNat,0,u,e',ad,_,k0,CZ _ _ _,hu,hn,tY.1,by omega,by rw[EO tY.1,KR,AAk];rfl⟩
   ·exact hl.elim
  ·exact hl.elim
 ·exact hl.elim
theorem MS(hc:Dr P cx)(h:AW E s a.tmps W){ti:TypeId}{x i:Operand}(ho:o.op=.index ti x i)(hl:(AB cx v o s).leads ws):Be P E o a W.w (s.app ws):=by
 simp only[AB,ho]at hl;obtain⟨j,n,hi,hl⟩:=ES (Ac h i) hl;have h1:=Ac h x;generalize s.Ah x=p at hl h1;split at hl
 ·rename_i b;change List UInt8 at b;split at hl
  ·rename_i hr;have hu:=KK hc hr;obtain⟨y,hy,hl⟩:=hl;rw[AN hl];obtain⟨h0,hx,he⟩:=Ii hy;have e1:a.eval x=.string ⟨List.toArray (α:=UInt8) b⟩:=h1.1;refine AT h (u:=.int .u8 y.toNat) ?_ (Bk _ _)
   have tv:(⟨List.toArray (α:=UInt8) b⟩:ByteArray)[n.toNat]?=some y:=by rw[getElem?_pos _ _ (by simpa[ByteArray.size]using hx)];congr 1
   simp[execOp,ho,hi,e1,Instr.index,asIntOf,run_underlying hu,h0,tv]
  ·exact hl.elim
 ·exact hl.elim
theorem C0(h:AW E s a.tmps W){x:Option Operand}{d:Int}{β:Type}{k:Int→Step β}{t:β}(hl:(De s x d k).leads t):
  ∃n:Int,(k n).leads t∧((x=none∧n=d)∨∃y j,x=some y∧a.eval y=.int j n):=by
 cases x with
 |none=>exact⟨d,hl,.inl ⟨rfl,rfl⟩⟩
 |some y=>
  obtain⟨j,n,hi,hl⟩:=ES (Ac h y) hl;exact⟨n,hl,.inr ⟨y,j,rfl,hi⟩⟩
theorem FY{isS:Bool}{len cap:Nat}{lo hi:Option Operand}{l m:Int}(vS:(lo=none∧l=0)∨∃y j,lo=some y∧a.eval y=.int j l)
  (xL:(hi=none∧m=(len:Int))∨∃y j,hi=some y∧a.eval y=.int j m) (h0:0≤l) (h1:l≤m) (h2:m≤(cap:Int)) (w:World):
  (Instr.sliceBounds isS len cap (lo.map a.eval) (hi.map a.eval) none).run P w=.ok (l.toNat,m.toNat,cap) w:=by
 rcases vS with⟨rfl,rfl⟩|⟨y,j,rfl,hy⟩<;>rcases xL with⟨rfl,rfl⟩|⟨z,k,rfl,hz⟩
 ·simp[Instr.sliceBounds]
 ·simp[Instr.sliceBounds,hz,Instr.sliceBound,asIntOf,h2,h1]
 ·simp[Instr.sliceBounds,hy,Instr.sliceBound,asIntOf,h0,h1]
 ·have:0≤m:=by omega
  have h3:l≤(m.toNat:Int):=by omega
  simp[Instr.sliceBounds,hy,hz,Instr.sliceBound,asIntOf,h0,h1,h2,this,h3];intro h4;omega
theorem MT(hc:Dr P cx)(h:AW E s a.tmps W){ti:TypeId}{x:Operand}{lo hi:Option Operand}(ho:o.op=.slice ti x lo hi none)(hl:(AB cx v o s).leads ws):Be P E o a W.w (s.app ws):=by
 simp only[AB,ho]at hl;have h1:=Ac h x;generalize s.Ah x=p at hl h1;split at hl
 ·rename_i b;change List UInt8 at b;split at hl
  ·rename_i hr;have hu:=KK hc hr;obtain⟨l,hl,vS⟩:=C0 h hl;obtain⟨m,hl,xL⟩:=C0 h hl;rcases Ag hl with⟨hb,hl⟩|⟨_,hl⟩
   ·simp only[AAG,AAb]at hb;obtain⟨⟨b0,b1⟩,b2⟩:=hb;rw[AN hl];have e1:a.eval x=.string ⟨b.toArray⟩:=h1.1;have tn:=FY (P:=P) (isS:=false) (len:=b.length) (cap:=b.length) vS xL b0 b1 b2 W.w;refine AT h (u:=.string ((⟨b.toArray⟩:ByteArray).extract l.toNat m.toNat)) ?_ ?_
    ·have hs:(⟨b.toArray⟩:ByteArray).size=b.length:=by simp[ByteArray.size]
     simp[execOp,ho,e1,Instr.sliceAt,run_underlying hu,Instr.slice,hs,tn]
    ·have:(⟨b.toArray⟩:ByteArray).extract l.toNat m.toNat=⟨(sub b l.toNat m.toNat).toArray⟩:=by apply ByteArray.ext;rw[ByteArray.data_extract];simp[sub,List.extract_eq_take_drop]
     rw[this];exact Ki _
   ·exact hl.elim
  ·exact hl.elim
 ·rename_i t e b;change List e.D at b;split at hl
  ·rename_i hr;obtain⟨l,hl,vS⟩:=C0 h hl;obtain⟨m,hl,xL⟩:=C0 h hl;rcases Ag hl with⟨hb,hl⟩|⟨_,hl⟩
   ·simp only[AAG,AAb]at hb;obtain⟨⟨b0,b1⟩,b2⟩:=hb;rw[AN hl];obtain⟨t',hu,he⟩:=Fq hc hr;have h1:AD e 0 W.w W.fz (a.eval x) b []:=h1;obtain⟨A,c,hv,ub⟩:=h1.len;rw[hv]at h1;obtain⟨o',q1,q2,_⟩:=CR.sub h1 (lo:=l.toNat) (hi:=m.toNat) (by omega) (by omega);have vZ:o'=[]:=CR.zero q1;subst vZ;have tn:=FY (P:=P) (isS:=true) (len:=b.length) (cap:=c) vS xL b0 b1 (by omega) W.w;refine AT h (u:=.slice (if c=l.toNat then A else A.map (·.add (l.toNat*e.n))) (m.toNat-l.toNat) (c-l.toNat)) ?_ (show AR s W (.sc (.sl t e) (sub b l.toNat m.toNat)) _ from q1);simp[execOp,ho,hv,Instr.sliceAt,run_underlying hu,Instr.slice,tn,he.sizeOf]
   ·exact hl.elim
  ·exact hl.elim
 ·rename_i c;obtain⟨t0,e0,xs0,d0,gen,tR,hp,hk⟩:=Ce h hl;obtain⟨u,e',tu,hn⟩:=h1 gen t0 e0 xs0 d0 tR hp;obtain⟨t',ys,d',o',hl,te,_⟩:=hk u e' _ tu hn;split at hl
  ·rename_i hr;obtain⟨l,hl,vS⟩:=C0 h hl;obtain⟨m,hl,xL⟩:=C0 h hl;rcases Ag hl with⟨hb,hl⟩|⟨_,hl⟩
   ·simp only[AAG,AAb]at hb;obtain⟨⟨b0,b1⟩,b2⟩:=hb;rw[AN hl];obtain⟨t2,hu,he⟩:=Fq hc hr;obtain⟨A,cc,hv,ub⟩:=te.len;have tn:=FY (P:=P) (isS:=true) (len:=ys.length) (cap:=cc) vS xL b0 b1 (by omega) W.w;refine AT h (u:=.slice (if cc=l.toNat then A else A.map (·.add (l.toNat*e'.n))) (m.toNat-l.toNat) (cc-l.toNat)) ?_ ?_
    ·simp[execOp,ho,hv,Instr.sliceAt,run_underlying hu,Instr.slice,tn,he.sizeOf]
    ·intro gen2 t3 e3 xs3 d3 yi hp3;rw[tR]at yi;injection yi with q1 q2 q3 q4
     subst q4;rw[hv]at hn;exact⟨u,e',A,_,cc,tu,hn,by omega,by omega,rfl⟩
   ·exact hl.elim
  ·exact hl.elim
 ·exact hl.elim
end
end Go.Ev
namespace Go.Ev
theorem BC(s:St):∀(xs ys:List Wr),s.app (xs++ys)=(s.app xs).app ys
 | [],ys=>rfl
 |x::xs,ys=>by show((s.AF x).app (xs++ys))=((s.AF x).app xs).app ys;exact BC (s.AF x) xs ys
theorem Ec(s:St)(r j:Nat)(x:LA)(r' j':Nat):(s.AF (.leaf r j x)).leaf r' j'=if r=r'∧j=j'∧r<s.ro.length∧j<(s.root r).ls.length then x else s.leaf r' j':=by
 have uK:(s.AF (.leaf r j x)).root r'=if r=r'∧r<s.ro.length then { s.root r with ls:=Cb (s.root r).ls j x }else s.root r':=Ax _ _ _ _ _
 unfold St.leaf;rw[uK];by_cases h:r=r'∧r<s.ro.length
 ·obtain⟨rfl,tX⟩:=h;rw[AAK ⟨rfl,tX⟩];show nth LA.bad (Cb (s.root r).ls j x) j'=_;rw[Ax];by_cases hj:j=j'∧j<(s.root r).ls.length
  ·rw[AAK hj,AAK ⟨rfl,hj.1,tX,hj.2⟩]
  ·rw[AAM hj,AAM (fun hh=>hj ⟨hh.2.1,hh.2.2.2⟩)]
 ·rw[AAM h,AAM (fun hh=>h ⟨hh.1,hh.2.2.1⟩)]
structure Jc(s s':St):Prop where
 sl:s'.sl=s.sl
 len:s'.ro.length=s.ro.length
 box:∀r,(s'.root r).box=(s.root r).box∧(s'.root r).AA=(s.root r).AA∧(s'.root r).ls.length=(s.root r).ls.length
theorem BH(s:St)(r j:Nat)(x:LA):Jc s (s.AF (.leaf r j x)) where
 sl:=rfl
 len:=Ca _ _ _
 box r':=by
  have uK:(s.AF (.leaf r j x)).root r'=if r=r'∧r<s.ro.length then { s.root r with ls:=Cb (s.root r).ls j x }else s.root r':=Ax _ _ _ _ _
  rw[uK];by_cases h:r=r'∧r<s.ro.length
  ·obtain⟨rfl,tX⟩:=h;rw[AAK ⟨rfl,tX⟩];exact⟨rfl,rfl,Ca _ _ _⟩
  ·rw[AAM h];exact⟨rfl,rfl,rfl⟩
theorem Dv(s:St):∀us:List (Nat×Nat),Jc s (s.app (gone us))∧∀r j,(s.app (gone us)).leaf r j=if(r,j)∈us then .bad else s.leaf r j
 | []=>⟨⟨rfl,rfl,fun _=>⟨rfl,rfl,rfl⟩⟩,fun r j=>by simp[gone,St.app]⟩
 |u::us=>by
  have h1:=BH s u.1 u.2 .bad;have h2:=Ec s u.1 u.2 .bad;obtain⟨a,b⟩:=Dv (s.AF (.leaf u.1 u.2 .bad)) us;refine⟨⟨a.sl.trans h1.sl,a.len.trans h1.len,fun r=>⟨(a.box r).1.trans (h1.box r).1,(a.box r).2.1.trans (h1.box r).2.1,(a.box r).2.2.trans (h1.box r).2.2⟩⟩,fun r j=>?_⟩;show((s.AF (.leaf u.1 u.2 .bad)).app (gone us)).leaf r j=_;rw[b,h2];by_cases hm:(r,j)∈us
  ·rw[AAK hm,AAK (AAJ _ hm)]
  ·rw[AAM hm];by_cases he:(r,j)=u
   ·have tS:(r,j)∈u::us:=by rw[he];exact AAe
    rw[AAK tS];subst he;split
    ·rfl
    ·rename_i tj;unfold St.leaf;by_cases hr:r<s.ro.length
     ·rw[Az];exact AA1 fun hj=>tj ⟨rfl,rfl,hr,hj⟩
     ·have:s.root r=dead:=Az _ (AA1 hr);rw[this];rfl
   ·have hnin:¬(r,j)∈u::us:=fun hh=>(AAZ.1 hh).elim he hm;rw[AAM hnin];have:¬(u.1=r∧u.2=j∧u.1<s.ro.length∧u.2<(s.root u.1).ls.length):=fun hh=>he (by rw[←hh.1,←hh.2.1]);rw[AAM this]
section
variable {P:Program}{E:Cw}{s:St}{tm:Array Value}{W:Wd}{v:Nat}
def AO(W:Wd)(w':World)(us:List (Nat×Nat))(d:Nat)(cvd:Nat→Option Value)(bkd:Nat)(ob:List Nat)(oj:Nat→List Nat):Wd:=
 {w:=w',fz:=W.fz
  cv:=fun r j=>if r=d then cvd j else W.cv r j
  bk:=fun r=>if r=d then bkd else W.bk r
  om:=fun k=>match k with
   | .AX r=>if r=d then ob else W.om (.AX r)
   | .lf r j=>if r=d then oj j else if(r,j)∈us then []else W.om (.lf r j)
   | .fl _=>[] }
def Kept(us:List (Nat×Nat))(d:Nat):Key→Prop
 | .AX r=>r≠d
 | .lf r j=>r≠d∧(r,j)∉us
 | .fl _=>False
theorem AW.Ke(h:AW E s tm W)(hv:Ad s v){us:List (Nat×Nat)}{d:Nat}(hd:d<tm.size){x:Bp}{a:AV}{u:Value}{w':World}{cvd:Nat→Option Value}{bkd:Nat}{ob:List Nat}{oj:Nat→List Nat}
  (hx:x.AA=v) (hxl:∀(j AA gen:Nat)(t:TypeId)(e:Ls)(xs:List e.D)(dd:Nat),nth .bad x.ls j=.arr AA gen t e xs dd→AA=v)
  (hw:∀b,(W.fz b∨∃k,Kept us d k∧b∈W.om k)→w'.heap[b]?=W.w.heap[b]?)
  (um:∀b,b<E.base→¬E.io b→w'.heap[b]?=W.w.heap[b]?) (uC:W.w.heap.size≤w'.heap.size) (ho:w'.os=W.w.os∧w'.tape=W.w.tape∧w'.output=W.w.output)
  (xY:ob.Nodup) (hnj:∀j,(oj j).Nodup) (zI:∀j,∀b∈ob,b∉oj j) (hdj:∀i j,i≠j→∀b∈oj i,b∉oj j)
  (ue:∀b,(b∈ob∨∃j,b∈oj j)→(∃k,¬Kept us d k∧b∈W.om k)∨(W.w.heap.size≤b∧b<w'.heap.size))
  (uK:EN v s (s.app (gone us++[.root d x,.slot d a])) W (AO W w' us d cvd bkd ob oj)→(s.app (gone us++[.root d x,.slot d a])).root d=x→EM (s.app (gone us++[.root d x,.slot d a])) (AO W w' us d cvd bkd ob oj) d x)
  (xI:EN v s (s.app (gone us++[.root d x,.slot d a])) W (AO W w' us d cvd bkd ob oj)→(s.app (gone us++[.root d x,.slot d a])).root d=x→Ba (s.app (gone us++[.root d x,.slot d a])) (AO W w' us d cvd bkd ob oj) a u):
  AW E (s.app (gone us++[.root d x,.slot d a])) (tm.setIfInBounds d u) (AO W w' us d cvd bkd ob oj):=by
 obtain⟨tU,tR⟩:=Dv s us;generalize zA:s.app (gone us++[.root d x,.slot d a])=s' at *;rw[BC]at zA;generalize s.app (gone us)=s1 at tU tR zA;have hd1:d<s1.ro.length:=by rw[tU.len,h.B0];exact hd
 have hd2:d<s1.sl.length:=by rw[tU.sl,h.DH];exact hd
 have uc:∀r,s'.root r=if d=r then x else s1.root r:=by
  intro r;subst zA;show((s1.AF (.root d x)).AF (.slot d a)).root r=_;have:((s1.AF (.root d x)).AF (.slot d a)).root r=(s1.AF (.root d x)).root r:=rfl;rw[this,Au];by_cases vw:d=r
  ·rw[AAK ⟨vw,hd1⟩,AAK vw]
  ·rw[AAM (fun hh=>vw hh.1),AAM vw]
 have hslots:∀t,s'.slot t=if d=t then a else s.slot t:=by
  intro t;subst zA;show((s1.AF (.root d x)).AF (.slot d a)).slot t=_;rw[BS];by_cases vw:d=t
  ·rw[AAK ⟨vw,hd2⟩,AAK vw]
  ·rw[AAM (fun hh=>vw hh.1),AAM vw];show nth _ s1.sl t=_;rw[tU.sl];rfl
 have zP:∀r j,s'.leaf r j=if d=r then nth .bad x.ls j else if(r,j)∈us then .bad else s.leaf r j:=by
  intro r j;unfold St.leaf;rw[uc];by_cases vw:d=r
  ·rw[AAK vw,AAK vw]
  ·rw[AAM vw,AAM vw];exact tR r j
 have uH:EN v s s' W (AO W w' us d cvd bkd ob oj):={
  fz:=fun b hb=>hb
  LN:=fun b hb=>hw b (.inl hb)
  leaf:=by
   intro r j AA gen t e xs dd hl tj;rw[zP]at hl;by_cases vw:d=r
   ·rw[AAK vw]at hl;exact absurd (hxl j AA gen t e xs dd hl) tj
   ·rw[AAM vw]at hl;by_cases hm:(r,j)∈us
    ·rw[AAK hm]at hl;cases hl
    ·rw[AAM hm]at hl;refine⟨AAM (fun e=>vw e.symm),gen,t,xs,dd,hl,fun _=>⟨rfl,fun p h' e' u' hc hn=>?_⟩⟩;obtain⟨u0,uv,te⟩:=(h.roots r).row hl;rw[hc]at uv;injection uv with uv;subst uv
     exact BN p te hn fun b hb=>hw b (hb.elim (fun hb=>.inr ⟨.lf r j,⟨fun e=>vw e.symm,hm⟩,hb⟩) .inl)
  box:=by
   intro r hb tj;rw[uc]at hb tj ⊢;by_cases vw:d=r
   ·rw[AAK vw]at tj;exact absurd hx tj
   ·rw[AAM vw]at hb tj ⊢;obtain⟨b1,b2,b3⟩:=tU.box r;exact⟨b1▸hb,b2.symm,AAM (fun e=>vw e.symm)⟩ }
 have va:Sep E (AO W w' us d cvd bkd ob oj):=by
  refine h.sep.IA (fun k=>¬Kept us d k) rfl uC um ho ?_ ?_ ?_ ?_
  ·intro k hk;have hk:Kept us d k:=ABE.1 hk;cases k with
   |AX r=>exact AAM hk
   |lf r j=>show(if r=d then oj j else if(r,j)∈us then []else W.om (.lf r j))=_;rw[AAM hk.1,AAM hk.2]
   |fl k=>exact hk.elim
  ·intro k hk;cases k with
   |AX r=>
    have:r=d:=ABE.1 hk;show(if r=d then ob else W.om (.AX r)).Nodup;rw[AAK this];exact xY
   |lf r j=>
    show(if r=d then oj j else if(r,j)∈us then []else W.om (.lf r j)).Nodup;by_cases hr:r=d
    ·rw[AAK hr];exact hnj j
    ·rw[AAM hr];by_cases hm:(r,j)∈us
     ·rw[AAK hm];exact AAL
     ·exact absurd ⟨hr,hm⟩ hk
   |fl k=>exact AAL
  ·intro k k' hk u7 tj b hb th;cases k with
   |fl k=>cases hb
   |AX r=>
    have hr:r=d:=ABE.1 hk;subst hr;have hb:b∈ob:=by have:b∈(if r=r then ob else W.om (.AX r)):=hb;rwa[AAK rfl]at this
    cases k' with
    |fl k=>cases th
    |AX r'=>have uS:r'=r:=ABE.1 u7;exact tj (by rw[uS])
    |lf r' j'=>
     have th:b∈(if r'=r then oj j' else if(r',j')∈us then []else W.om (.lf r' j')):=th;by_cases uS:r'=r
     ·rw[AAK uS]at th;exact zI j' b hb th
     ·rw[AAM uS]at th;by_cases hm:(r',j')∈us
      ·rw[AAK hm]at th;cases th
      ·exact u7 ⟨uS,hm⟩
   |lf r j=>
    have hb:b∈(if r=d then oj j else if(r,j)∈us then []else W.om (.lf r j)):=hb;by_cases hr:r=d
    ·rw[AAK hr]at hb;cases k' with
     |fl k=>cases th
     |AX r'=>
      have uS:r'=d:=ABE.1 u7;have th:b∈(if r'=d then ob else W.om (.AX r')):=th;rw[AAK uS]at th;exact zI j b th hb
     |lf r' j'=>
      have th:b∈(if r'=d then oj j' else if(r',j')∈us then []else W.om (.lf r' j')):=th;by_cases uS:r'=d
      ·rw[AAK uS]at th;exact hdj j j' (fun e=>tj (by rw[hr,uS,e])) b hb th
      ·rw[AAM uS]at th;by_cases hm:(r',j')∈us
       ·rw[AAK hm]at th;cases th
       ·exact u7 ⟨uS,hm⟩
    ·rw[AAM hr]at hb;by_cases hm:(r,j)∈us
     ·rw[AAK hm]at hb;cases hb
     ·exact hk ⟨hr,hm⟩
  ·intro k hk b hb
   have wA:b∈ob∨∃j,b∈oj j:=by
    cases k with
    |fl k=>cases hb
    |AX r=>
     have hr:r=d:=ABE.1 hk;have hb:b∈(if r=d then ob else W.om (.AX r)):=hb;rw[AAK hr]at hb;exact .inl hb
    |lf r j=>
     have hb:b∈(if r=d then oj j else if(r,j)∈us then []else W.om (.lf r j)):=hb;by_cases hr:r=d
     ·rw[AAK hr]at hb;exact .inr ⟨j,hb⟩
     ·rw[AAM hr]at hb;by_cases hm:(r,j)∈us
      ·rw[AAK hm]at hb;cases hb
      ·exact absurd ⟨hr,hm⟩ hk
   exact ue b wA
 refine h.IA hv uH va ?_ ?_ ?_ ?_
 ·subst zA;simp only[St.app,St.AF,Ca,Array.size_setIfInBounds];rw[tU.sl,h.DH]
 ·subst zA;simp only[St.app,St.AF,Ca,Array.size_setIfInBounds];rw[tU.len,h.B0]
 ·intro t;rw[hslots];by_cases hdt:d=t
  ·right;rw[AAK hdt];have:(tm.setIfInBounds d u).getD t Go.undef=u:=by subst hdt;simp[AAz,hd]
   rw[this];exact xI uH (by rw[uc,AAK rfl])
  ·left;rw[AAM hdt];exact⟨rfl,by simp[AAz,hdt]⟩
 ·intro r;rw[uc];by_cases vw:d=r
  ·subst vw;rw[AAK rfl];exact uK uH (by rw[uc,AAK rfl])
  ·rw[AAM vw];obtain⟨h1,h2⟩:=h.roots r;obtain⟨b1,b2,b3⟩:=tU.box r;have xS:¬r=d:=fun e=>vw e.symm;refine⟨fun j=>?_,?_⟩
   ·have e1:(AO W w' us d cvd bkd ob oj).cv r j=W.cv r j:=AAM xS;have e2:(AO W w' us d cvd bkd ob oj).om (.lf r j)=if(r,j)∈us then []else W.om (.lf r j):=AAM xS
    have e3:nth LA.bad (s1.root r).ls j=if(r,j)∈us then .bad else s.leaf r j:=tR r j
    rw[e1,e2,e3];by_cases hm:(r,j)∈us
    ·rw[AAK hm,AAK hm];exact⟨rfl,fun _ _=>trivial⟩
    ·rw[AAM hm,AAM hm];exact Aa.Dq uH (hv.2.1 r j) (fun b hb=>hw b (.inr ⟨.lf r j,⟨xS,hm⟩,hb⟩)) (h1 j)
   ·have e1:(AO W w' us d cvd bkd ob oj).om (.AX r)=W.om (.AX r):=AAM xS;have e2:(AO W w' us d cvd bkd ob oj).bk r=W.bk r:=AAM xS;rw[b1,e1,e2];split
    ·rename_i hb;rw[AAK hb]at h2;obtain⟨vZ,arr,T,fr,hh,a1,a2,a3⟩:=h2;refine⟨vZ,arr,T,fr,(hw _ (.inr ⟨.AX r,xS,by rw[vZ];simp⟩)).trans hh,a1,by rw[b3];exact a2,fun j=>?_⟩;show(if r=d then cvd j else W.cv r j)=_;rw[AAM xS];exact a3 j
    ·rename_i hb;rw[AAM hb]at h2;exact h2
theorem AW.place(h:AW E s tm W)(hv:Ad s v){us:List (Nat×Nat)}{d:Nat}(hd:d<tm.size){x:Bp}{a:AV}{u:Value}{w':World}{cvd:Nat→Option Value}{bkd:Nat}{ob:List Nat}{oj:Nat→List Nat}
  (hx:x.AA=v) (hxl:∀(j AA gen:Nat)(t:TypeId)(e:Ls)(xs:List e.D)(dd:Nat),nth .bad x.ls j=.arr AA gen t e xs dd→AA=v)
  (hw:∀b,(W.fz b∨∃k,Kept us d k∧b∈W.om k)→w'.heap[b]?=W.w.heap[b]?)
  (um:∀b,b<E.base→¬E.io b→w'.heap[b]?=W.w.heap[b]?) (uC:W.w.heap.size≤w'.heap.size) (ho:w'.os=W.w.os∧w'.tape=W.w.tape∧w'.output=W.w.output)
  (xY:ob.Nodup) (hnj:∀j,(oj j).Nodup) (zI:∀j,∀b∈ob,b∉oj j) (hdj:∀i j,i≠j→∀b∈oj i,b∉oj j)
  (ue:∀b,(b∈ob∨∃j,b∈oj j)→(∃r j,(r,j)∈us∧b∈W.om (.lf r j))∨(W.w.heap.size≤b∧b<w'.heap.size))
  (uK:EN v s (s.app (gone us++[.root d x,.slot d a])) W (AO W w' us d cvd bkd ob oj)→(s.app (gone us++[.root d x,.slot d a])).root d=x→EM (s.app (gone us++[.root d x,.slot d a])) (AO W w' us d cvd bkd ob oj) d x)
  (xI:EN v s (s.app (gone us++[.root d x,.slot d a])) W (AO W w' us d cvd bkd ob oj)→(s.app (gone us++[.root d x,.slot d a])).root d=x→Ba (s.app (gone us++[.root d x,.slot d a])) (AO W w' us d cvd bkd ob oj) a u):
  AW E (s.app (gone us++[.root d x,.slot d a])) (tm.setIfInBounds d u) (AO W w' us d cvd bkd ob oj):=
 h.Ke hv hd hx hxl hw um uC ho xY hnj zI hdj (fun b hb=>(ue b hb).imp (fun⟨r,j,hm,h0⟩=>⟨.lf r j,fun hk=>hk.2 hm,h0⟩) id) uK xI
end
end Go.Ev
namespace Go.Ev
section
variable {P:Program}{E:Cw}{s:St}{tm:Array Value}{W:Wd}{v:Nat}{cx:Cx}{β:Type}{t:β}
theorem AW.Cq(h:AW E s tm W)(hv:Ad s v)(us:List (Nat×Nat)){d:Nat}(hd:d<tm.size){t0:TypeId}{e:Ls}{xs:List e.D}{dd:Nat}{u:Value}{w':World}{o:List Nat}
  (hw:∀b,(W.fz b∨∃k,Kept us d k∧b∈W.om k)→w'.heap[b]?=W.w.heap[b]?)
  (um:∀b,b<E.base→¬E.io b→w'.heap[b]?=W.w.heap[b]?) (uC:W.w.heap.size≤w'.heap.size) (ho:w'.os=W.w.os∧w'.tape=W.w.tape∧w'.output=W.w.output)
  (hr:AD e dd w' W.fz u xs o) (hn:o.Nodup) (ue:∀b∈o,(∃r j,(r,j)∈us∧b∈W.om (.lf r j))∨(W.w.heap.size≤b∧b<w'.heap.size)):
  ∃W',W'.w=w'∧AW E (s.app (gone us++[.root d ⟨false,v,[.arr v v t0 e xs dd]⟩,.slot d (one (.ref ⟨d,0,v,v,[]⟩))])) (tm.setIfInBounds d u) W':=by
 refine⟨AO W w' us d (fun j=>if j=0 then some u else none) 0 [] (fun j=>if j=0 then o else []),rfl,?_⟩;obtain⟨tU,tR⟩:=Dv s us;refine h.place hv hd rfl ?_ hw um uC ho AAL ?_ (fun j b hb=>by cases hb) ?_ ?_ ?_ ?_
 ·intro j AA gen t e xs dd' hl;cases j with
  |zero=>simp only[nth]at hl;injection hl with h1;exact h1.symm
  |succ j=>simp[nth]at hl
 ·intro j;show(if j=0 then o else []).Nodup;split
  ·exact hn
  ·exact AAL
 ·intro i j xM b hb th;by_cases hi:i=0
  ·by_cases hj:j=0
   ·exact xM (hi.trans hj.symm)
   ·simp[hj]at th
  ·simp[hi]at hb
 ·intro b hb;rcases hb with hb|⟨j,hb⟩
  ·cases hb
  ·by_cases hj:j=0
   ·simp[hj]at hb;exact ue b hb
   ·simp[hj]at hb
 ·intro _ _;refine⟨fun j=>?_,?_⟩
  ·cases j with
   |zero=>
    refine⟨u,by simp[AO],?_⟩;have:(AO W w' us d (fun j=>if j=0 then some u else none) 0 [] (fun j=>if j=0 then o else [])).om (.lf d 0)=o:=by simp[AO]
    rw[this];exact hr
   |succ j=>
    have h1:nth LA.bad [LA.arr v v t0 e xs dd] (j+1)=.bad:=by simp[nth]
    have h2:(AO W w' us d (fun j=>if j=0 then some u else none) 0 [] (fun j=>if j=0 then o else [])).om (.lf d (j+1))=[]:=by simp[AO]
    rw[h1,h2];exact⟨rfl,fun _ _=>trivial⟩
  ·show(if false=true then _ else _);simp[AO]
 ·intro _ _ gen t e2 xs2 d2 hl hp;refine⟨u,e2,?_,rfl,rfl⟩;simp[AO]
def Jd(s:St)(W:Wd)(v:Nat)(b:LA)(u:Value)(o:List Nat)(us:List (Nat×Nat)):Prop:=
 u.oneCell'=true∧o.Nodup∧(∀b∈o,∃r j,(r,j)∈us∧b∈W.om (.lf r j))∧match b with
  | .arr AA gen _ e xs d=>AA=v∧gen=v∧AD e d W.w W.fz u xs o
  |b=>o=[]∧AR s W b u∧v∉b.AG
theorem Nb(A:Option Addr)(n c:Nat):(Value.slice A n c).cells = #[.slice A n c]:=rfl
theorem Er{u:Value}(h:u.oneCell'=true):u.cells = #[u]:=by
 cases u<;>first|rfl|cases h
theorem Me:∀(l:L) {w:World} {fz:Nat→Prop} {u:Value} {x:l.D},l.rd 0 w fz u x []→u.oneCell'=true
 | .int k,_,_,u,x,h=>by rw[show u=.int k x from h.1];rfl
 | .bool,_,_,u,x,h=>by rw[show u=.bool x from h.1];rfl
 | .str,_,_,u,x,h=>by rw[show u=.string ⟨x.toArray⟩from h.1];rfl
 | .sl _ e,_,_,u,x,h=>by obtain⟨A,c,hu,_⟩:=AD.len (show AD e 0 _ _ u x []from h);rw[hu];rfl
theorem K4(h:AW E s tm W){la:LA}(vt:v∉la.AG){u:Value}(hu:AR s W la u){l:L}{k:LA→List (Nat×Nat)→Step β}(hl:(s.take cx v la l k).leads t):
  ∃b us o,(k b us).leads t∧Jd s W v b u o us∧(∀x∈us,cx.KN x.1=false)∧us.length≤1:=by
 unfold St.take at hl;cases la with
 |sc m x=>
  simp only at hl;split at hl
  ·exact⟨_,_,[],hl,⟨Me m hu,AAL,(fun b hb=>by cases hb),rfl,hu,vt⟩,(fun x hx=>by cases hx),by simp⟩
  ·exact hl.elim
 |DJ=>
  cases l with
  |sl t' e=>
   refine⟨_,_,[],hl,⟨by rw[show u=.slice none 0 0 from hu];rfl,AAL,(fun b hb=>by cases hb),rfl,rfl,?_⟩,(fun x hx=>by cases hx),by simp⟩;rw[show u=.slice none 0 0 from hu];exact B1
  |_=>exact hl.elim
 |ref c=>
  simp only at hl;split at hl
  ·rename_i AA gen t' e xs d tR;split at hl
   ·obtain⟨t2,e2,ys,d2,o2,hl,hr,ho⟩:=DO h hu hl;split at hl
    ·obtain⟨u0,_,hr0⟩:=(h.roots c.r).row tR;have hz:W.om (.lf c.r c.j)=[]:=AD.zero hr0;obtain⟨A,cc,xO,_⟩:=hr.len;exact⟨_,_,[],hl,⟨by rw[xO];rfl,AAL,(fun b hb=>by cases hb),rfl,hr.freeze fun b hb=>hb.elim id fun hb=>(by have:=ho b hb;rw[hz]at this;cases this),by simp[LA.AG]⟩,(fun x hx=>by cases hx),by simp⟩
    ·exact hl.elim
   ·split at hl
    ·rename_i hc;simp only[AAG,AAS,AAT]at hc;obtain⟨⟨⟨tc,hp⟩,wU⟩,hk⟩:=hc;subst tc;have hp:c.p=[]:=by cases hq:c.p<;>simp_all[isNil]
     obtain⟨h',e',uJ,hn⟩:=hu _ _ _ _ _ tR (.inl hp);rw[hp]at hn;obtain⟨rfl,rfl⟩:=hn;obtain⟨u',tu,te⟩:=(h.roots c.r).row tR;rw[uJ]at tu;injection tu with tu;subst tu
     obtain⟨A,cc,xO,_⟩:=te.len;refine⟨_,_,W.om (.lf c.r c.j),hl,⟨by rw[xO];rfl,h.sep.nodup _,fun b hb=>⟨c.r,c.j,by simp,hb⟩,rfl,rfl,te⟩,fun x hx=>?_,by simp⟩;simp at hx;subst hx;exact wU
    ·exact hl.elim
  ·exact hl.elim
 |EF c lo hi=>
  simp only at hl;split at hl
  ·rename_i AA gen t' e xs d tR;split at hl
   ·rename_i hc;simp only[AAG,AAS,AAT]at hc;obtain⟨⟨⟨tc,hp⟩,wU⟩,hk⟩:=hc;subst tc;have hp:c.p=[]:=by cases hq:c.p<;>simp_all[isNil]
    obtain⟨h',e',A,n,k0,uJ,hn,h1,h2,xO⟩:=hu gen t' e xs d tR (.inl hp);rw[hp]at hn;obtain⟨rfl,rfl⟩:=hn;obtain⟨u',tu,te⟩:=(h.roots c.r).row tR;rw[uJ]at tu;injection tu with tu;subst tu
    obtain⟨o',q1,q2,q3⟩:=CR.sub te h1 h2;refine⟨_,_,o',hl,⟨by rw[xO];rfl,q3 (h.sep.nodup _),fun b hb=>⟨c.r,c.j,by simp,q2 b hb⟩,rfl,rfl,?_⟩,fun x hx=>?_,by simp⟩
    ·rw[xO];exact q1
    ·simp at hx;subst hx;exact wU
   ·exact hl.elim
  ·exact hl.elim
 |ptr r j AA=>
  simp only at hl;split at hl
  ·rename_i hc;simp only[AAG,AAS]at hc;refine⟨_,_,[],hl,⟨by rw[hu hc.1 hc.2];rfl,AAL,(fun b hb=>by cases hb),rfl,hu,vt⟩,(fun x hx=>by cases hx),by simp⟩
  ·exact hl.elim
 |fn f=>exact⟨_,_,[],hl,⟨by rw[show u=_ from hu];rfl,AAL,(fun b hb=>by cases hb),rfl,hu,vt⟩,(fun x hx=>by cases hx),by simp⟩
 |_=>exact hl.elim
theorem Ej(h:AW E s tm W):∀ {ls:List L} {as:List LA} {g:Nat→Option Value} {k:List LA→List (Nat×Nat)→Step β},(∀(j:Nat)(b:LA),as[j]?=some b→v∉b.AG∧∃u,g j=some u∧AR s W b u)→
  (s.F1 cx v ls as k).leads t→∃(bs:List LA) (us:List (Nat×Nat)) (os:Nat→List Nat),(k bs us).leads t∧bs.length=as.length∧as.length=ls.length∧us.Nodup∧(∀x∈us,cx.KN x.1=false)∧
   (∀i j,i≠j→∀b∈os i,b∉os j)∧(∀j,as.length≤j→os j=[])∧∀(j:Nat)(b:LA),bs[j]?=some b→∃u,g j=some u∧Jd s W v b u (os j) us
 | [],[],g,k,hg,hl=>⟨[],[],fun _=>[],hl,rfl,rfl,AAL,(fun x hx=>by cases hx),(fun _ _ _ b hb=>by cases hb),fun _ _=>rfl,(fun j b hb=>by simp at hb)⟩
 | [],_::_,g,k,hg,hl=>hl.elim
 |_::_,[],g,k,hg,hl=>hl.elim
 |l::ls,a::as,g,k,hg,hl=>by
  obtain⟨vt,u,hu,ha⟩:=hg 0 a rfl;obtain⟨b,us,o,hl,hb,wP,wI⟩:=K4 h vt ha hl;obtain⟨bs,vs,os,hl,hlen,wZ,ur,hbx2,uj,vH,vl⟩:=Ej h (g:=fun j=>g (j+1)) (fun j b hj=>hg (j+1) b (by simpa using hj)) hl;split at hl
  ·rename_i uZ
   have wD:∀x∈us,x∉vs:=by intro x hx hx';have:=AAU.1 uZ x hx;simp at this;exact this hx'
   refine⟨b::bs,us++vs,fun j=>match j with|0=>o|j+1=>os j,hl,by simp[hlen],by simp[wZ],?_,?_,?_,?_,?_⟩
   ·refine AAV.2 ⟨?_,ur,fun x hx y hy e=>wD x hx (e▸hy)⟩
    match us,wI with
    | [],_=>exact AAL
    | [x],_=>exact AAY.2 ⟨by simp,AAL⟩
   ·intro x hx;rcases AAy.1 hx with hx|hx
    ·exact wP x hx
    ·exact hbx2 x hx
   ·have cross:∀j,∀y∈o,y∉os j:=by
     intro j y hy wN;obtain⟨r,jj,hm,h1⟩:=hb.2.2.1 y hy;by_cases hj:j<bs.length
     ·obtain⟨u',_,ht⟩:=vl j bs[j] (AAF hj);obtain⟨r',jj',vM,vc⟩:=ht.2.2.1 y wN;by_cases he:(r,jj)=(r',jj')
      ·exact wD _ hm (by rw[he];exact vM)
      ·exact h.sep.A4 (.lf r jj) (.lf r' jj') (fun e=>he (by injection e with e1 e2;rw[e1,e2])) y h1 vc
     ·rw[vH j (by omega)]at wN;cases wN
    intro i j xM;cases i with
    |zero=>cases j with
     |zero=>exact absurd rfl xM
     |succ j=>exact cross j
    |succ i=>cases j with
     |zero=>exact fun y hy wN=>cross i y wN hy
     |succ j=>exact uj i j (fun e=>xM (by rw[e]))
   ·intro j hj;cases j with
    |zero=>simp at hj
    |succ j=>exact vH j (by simpa using hj)
   ·intro j y hy;cases j with
    |zero=>
     simp at hy;subst hy;refine⟨u,hu,hb.1,hb.2.1,fun z hz=>?_,hb.2.2.2⟩;obtain⟨r,jj,hm,h1⟩:=hb.2.2.1 z hz;exact⟨r,jj,AAQ _ hm,h1⟩
    |succ j=>
     obtain⟨u',tu,ht⟩:=vl j y (by simpa using hy);refine⟨u',tu,ht.1,ht.2.1,fun z hz=>?_,ht.2.2.2⟩;obtain⟨r,jj,hm,h1⟩:=ht.2.2.1 z hz;exact⟨r,jj,AAO _ hm,h1⟩
  ·exact hl.elim
end
end Go.Ev
namespace Go.Ev
section
variable {P:Program}{E:Cw}{s:St}{W:Wd}{o:Oper}{a:Act}{ws:List Wr}{cx:Cx}{v:Nat}{tm:Array Value}
theorem Bg(h:AW E s a.tmps W){u:Value}{w':World}{W':Wd}{d:Nat}(hd:o.dst=some d)(tn:(execOp a.eval o).run P W.w=.ok (.value u) w')(hw:W'.w=w')
  (hr:AW E (s.app ws) (a.tmps.setIfInBounds d u) W'):Be P E o a W.w (s.app ws):=by
 intro next Q hn
 unfold Oper.wp;rw[tn];show next (a.put o.dst u) w'
 rw[hd,←hw];exact hn _ W' rfl hr
theorem N9{us:List (Nat×Nat)}{d:Nat}:∀b,(W.fz b∨∃k,Kept us d k∧b∈W.om k)→W.w.heap[b]?=W.w.heap[b]?:=fun _ _=>rfl
theorem Ab(x:Value):(ofConst x).AG=[]:=by
 cases x with
 |slice A n c=>
  cases A with
  |none=>cases n with
   |zero=>cases c<;>rfl
   |succ n=>rfl
  |some a=>rfl
 |pointer A=>cases A<;>rfl
 |_=>rfl
theorem Fx(hv:Ad s v)(x:Operand):v∉(s.Ap x).AG:=by
 cases x with
 |tmp t=>exact hv.1 t
 |const c=>
  cases c with
  |agg cs=>
   show v∉(cs.toList.map ofConst).flatMap LA.AG;intro tS;obtain⟨b,hb,tS⟩:=AAI.1 tS;obtain⟨y,_,rfl⟩:=AAs.1 hb;rw[Ab]at tS;cases tS
  |bool b=>simp[St.Ap,AV.AG,Ab]
  |int k n=>simp[St.Ap,AV.AG,Ab]
  |float k n=>simp[St.Ap,AV.AG,Ab]
  |complex k x y=>simp[St.Ap,AV.AG,Ab]
  |string b=>simp[St.Ap,AV.AG,Ab]
  |pointer b=>simp[St.Ap,AV.AG,Ab]
  |slice b n c=>simp[St.Ap,AV.AG,Ab]
  |map r=>simp[St.Ap,AV.AG,Ab]
  |chan r=>simp[St.Ap,AV.AG,Ab]
  |func f x y=>simp[St.Ap,AV.AG,Ab]
  |nilFunc=>simp[St.Ap,AV.AG,Ab]
  |iface t x=>simp[St.Ap,AV.AG,Ab]
  |nilIface=>simp[St.Ap,AV.AG,Ab]
  |tuple vs=>simp[St.Ap,AV.AG,Ab]
 |global g=>simp[St.Ap,AV.AG,LA.AG]
 |func f=>simp[St.Ap,AV.AG,LA.AG]
theorem MN{x:AV}(h:v∉x.AG):v∉x.one?.AG:=by
 cases x with
 |Dp vs=>simp[AV.one?,LA.AG]
 |bx as=>simp[AV.one?,LA.AG]
 |v g as=>
  cases g with
  |true=>simp[AV.one?,LA.AG]
  |false=>cases as with
   |nil=>simp[AV.one?,LA.AG]
   |cons b bs=>cases bs with
    |nil=>simpa[AV.one?,AV.AG]using h
    |cons=>simp[AV.one?,LA.AG]
theorem Iq(hv:Ad s v)(x:Operand):v∉(s.Ah x).AG:=MN (Fx hv x)
theorem LY(h:AW E s a.tmps W)(hv:Ad s v){x:Operand}(ho:o.op=.assign x)(hd:∀d,o.dst=some d→d<a.tmps.size)(hl:(AB cx v o s).leads ws):Be P E o a W.w (s.app ws):=by
 simp only[AB,ho]at hl;have tn:(execOp a.eval o).run P W.w=.ok (.value (a.eval x)) W.w:=by simp[execOp,ho]
 have h1:=Ac h x;have vt:=Iq hv x;cases ua:o.dst with
 |none=>rw[ua]at hl;exact hl.elim
 |some d=>
  rw[ua]at hl;dsimp only at hl;generalize s.Ah x=p at hl h1 vt
  have val:∀y,AR s W y (a.eval x)→ws=[.slot d (one y)]→Be P E o a W.w (s.app ws):=by intro y hy wx;subst wx;exact Bg h ua tn rfl (h.slot d (show Ba s W (one y) _ from hy))
  split at hl
  ·exact val _ h1 hl.symm
  ·exact val _ h1 hl.symm
  ·exact val _ h1 hl.symm
  ·exact val _ h1 hl.symm
  ·exact val _ h1 hl.symm
  ·exact val _ h1 hl.symm
  ·split at hl
   ·exact hl.elim
   ·split at hl
    ·rename_i ty v9;split at hl
     ·rename_i l vf;obtain⟨b,us,oo,hl,hb,wP,_⟩:=K4 h vt h1 hl;split at hl
      ·rename_i t e xs dd;have hl:_=ws:=hl;obtain⟨td,ur,ue,rfl,rfl,tY⟩:=hb;obtain⟨W',vL,tT⟩:=h.Cq hv us (hd d ua) (t0:=t) (w':=W.w) (fun b hb=>rfl) (fun b _ _=>rfl) (AAd _) ⟨rfl,rfl,rfl⟩ tY ur (fun b hb=>.inl (ue b hb));rw[hl]at tT;exact Bg h ua tn vL tT
      ·exact hl.elim
     ·exact hl.elim
    ·exact hl.elim
theorem Kd(h:AW E s a.tmps W)(hv:Ad s v){x:Operand}(ho:o.op=.move x)(hn:Hr (s.Ap x)=true)(hd:∀d,o.dst=some d→d<a.tmps.size)(hl:(AB cx v o s).leads ws):Be P E o a W.w (s.app ws):=by
 simp only[AB,ho,hn,if_true]at hl
 have wM:a.eval x=.slice none 0 0:=by
  have h1:=BF h x
  revert hn h1
  generalize s.Ap x=p;intro hn h1;unfold Hr at hn;split at hn
  ·exact h1
  ·cases hn
 split at hl
 ·rename_i ty d v9 ua;split at hl
  ·exact hl.elim
  ·split at hl
   ·rename_i t e vf;have hl:_=ws:=hl;obtain⟨W',vL,tT⟩:=h.Cq hv [] (hd d ua) (t0:=t) (e:=e) (xs:=[]) (dd:=2) (u:=.slice none 0 0) (w':=W.w) (o:=[]) (fun b hb=>rfl) (fun b _ _=>rfl) (AAd _) ⟨rfl,rfl,rfl⟩ B1 AAL (fun b hb=>by cases hb);rw[←hl];exact Bg h ua (by simp[execOp,ho,wM]) vL tT
   ·exact hl.elim
 ·exact hl.elim
theorem A7(w:World)(x:Obj){b:Nat}(h:b<w.heap.size):(w.alloc x).heap[b]?=w.heap[b]?:=heap_alloc_old w x h
theorem Aj(w:World)(x:Obj):(w.alloc x).heap.size=w.heap.size+1:=by show(w.heap.push x).size=_;simp
theorem Eh(h:AW E s tm W)(x:Obj){us:List (Nat×Nat)}{d:Nat}:∀b,(W.fz b∨∃k,Kept us d k∧b∈W.om k)→(W.w.alloc x).heap[b]?=W.w.heap[b]?:=by
 intro b hb;refine A7 _ _ ?_;rcases hb with hb|⟨k,_,hb⟩
 ·exact(h.sep.fz b hb).1
 ·exact(h.sep.own k b hb).2.1
theorem AW.H5(h:AW E s tm W)(hv:Ad s v){us:List (Nat×Nat)}{d:Nat}(hd:d<tm.size){bs:List LA}{cs:Array Value}{T:TypeId}{os:Nat→List Nat}
  (hlen:cs.size=bs.length) (vl:∀(j:Nat)(b:LA),bs[j]?=some b→∃u,cs[j]?=some u∧Jd s W v b u (os j) us) (uj:∀i j,i≠j→∀b∈os i,b∉os j) (vH:∀j,bs.length≤j→os j=[]):
  ∃W',W'.w=W.w.alloc (.cells cs T)∧AW E (s.app (gone us++GJ d v bs)) (tm.setIfInBounds d (.pointer (some ⟨W.w.heap.size,0,none⟩))) W':=by
 refine⟨AO W (W.w.alloc (.cells cs T)) us d (fun j=>cs[j]?) W.w.heap.size [W.w.heap.size] os,rfl,?_⟩
 have xD:∀j,j<bs.length→∃u,cs[j]?=some u∧Jd s W v (nth .bad bs j) u (os j) us:=by intro j hj;have:=vl j bs[j] (AAF hj);rw[Ae,AAF hj];exact this
 have uf:∀j,∀b∈os j,∃r k,(r,k)∈us∧b∈W.om (.lf r k):=by
  intro j b hb;by_cases hj:j<bs.length
  ·obtain⟨u,_,ht⟩:=xD j hj;exact ht.2.2.1 b hb
  ·rw[vH j (by omega)]at hb;cases hb
 have hold:∀j,∀b∈os j,b<W.w.heap.size:=by intro j b hb;obtain⟨r,k,_,h1⟩:=uf j b hb;exact(h.sep.own _ b h1).2.1
 refine h.place hv hd rfl ?_ (Eh h _) (fun b hb _=>A7 _ _ (by have:=h.sep.size;omega)) (by rw[Aj];omega) ⟨rfl,rfl,rfl⟩ (AAY.2 ⟨by simp,AAL⟩) ?_ ?_ uj ?_ ?_ ?_
 ·intro j AA gen t e xs dd hl;by_cases hj:j<bs.length
  ·obtain⟨u,_,ht⟩:=xD j hj;dsimp only at hl;rw[hl]at ht;exact ht.2.2.2.1
  ·dsimp only at hl;rw[Az LA.bad (AA1 hj)]at hl;cases hl
 ·intro j;by_cases hj:j<bs.length
  ·obtain⟨u,_,ht⟩:=xD j hj;exact ht.2.1
  ·rw[vH j (by omega)];exact AAL
 ·intro j b hb th;simp at hb;subst hb;have:=hold j _ th;omega
 ·intro b hb;rcases hb with hb|⟨j,hb⟩
  ·simp at hb;subst hb;exact .inr ⟨AAd _,by rw[Aj];omega⟩
  ·exact .inl (uf j b hb)
 ·intro uH uK;refine⟨fun j=>?_,?_⟩
  ·have e1:(AO W (W.w.alloc (.cells cs T)) us d (fun j=>cs[j]?) W.w.heap.size [W.w.heap.size] os).cv d j=cs[j]?:=by simp[AO]
   have e2:(AO W (W.w.alloc (.cells cs T)) us d (fun j=>cs[j]?) W.w.heap.size [W.w.heap.size] os).om (.lf d j)=os j:=by simp[AO]
   rw[e1,e2];show Aa _ _ (nth LA.bad bs j) _ _;by_cases hj:j<bs.length
   ·obtain⟨u,hu,ht⟩:=xD j hj;obtain⟨_,_,_,ht⟩:=ht;generalize nth LA.bad bs j=b at ht;unfold Aa;cases b with
    |arr AA gen t e xs dd=>
     obtain⟨_,_,hr⟩:=ht;exact⟨u,hu,hr.frame (fun b hb=>A7 _ _ (hb.elim (hold j b) fun hb=>(h.sep.fz b hb).1)) fun b hb=>hb⟩
    |_=>exact⟨ht.1,fun u' tu=>by rw[hu]at tu;injection tu with tu;subst tu;exact AR.Dq uH ht.2.2 ht.2.1⟩
   ·rw[Az LA.bad (AA1 hj),vH j (by omega)];exact⟨rfl,fun _ _=>trivial⟩
  ·show(if true=true then _ else _);rw[AAK rfl];refine⟨by simp[AO],cs,T,(0,0),?_,by intro j _;simp,hlen,fun j=>by simp[AO]⟩;have:(AO W (W.w.alloc (.cells cs T)) us d (fun j=>cs[j]?) W.w.heap.size [W.w.heap.size] os).bk d=W.w.heap.size:=by simp[AO]
   rw[this];exact heap_alloc_new _ _
 ·intro uH uK;intro hb tc;have:(AO W (W.w.alloc (.cells cs T)) us d (fun j=>cs[j]?) W.w.heap.size [W.w.heap.size] os).bk d=W.w.heap.size:=by simp[AO]
  rw[this]
theorem A9:∀ls:Ls,ls.kinds.length=ls.n
 | .nil=>rfl
 | .one _=>rfl
 | .cons _ ls=>by simp[Ls.kinds,Ls.n,A9 ls]
theorem Lq(l:L):Jd s W v (I3 v l) (CQ l) [] []:=by
 cases l with
 |int k=>exact⟨rfl,AAL,(fun b hb=>by cases hb),rfl,⟨rfl,rfl⟩,by simp[I3,LA.AG]⟩
 |bool=>exact⟨rfl,AAL,(fun b hb=>by cases hb),rfl,⟨rfl,rfl⟩,by simp[I3,LA.AG]⟩
 |str=>exact⟨rfl,AAL,(fun b hb=>by cases hb),rfl,⟨rfl,rfl⟩,by simp[I3,LA.AG]⟩
 |sl t e=>exact⟨rfl,AAL,(fun b hb=>by cases hb),rfl,rfl,B1⟩
theorem MO(hc:Dr P cx)(hft:Lt P cx.env)(h:AW E s a.tmps W)(hv:Ad s v){t:TypeId}(ho:o.op=.alloc t)(hd:∀d,o.dst=some d→d<a.tmps.size)(hl:(AB cx v o s).leads ws):Be P E o a W.w (s.app ws):=by
 simp only[AB,ho]at hl;split at hl
 ·rename_i ty d ht ua;have hl:_=ws:=hl;obtain⟨i,hi,uC,z,hz,wz,_⟩:=(hc t ty ht).info
  obtain⟨W',vL,tT⟩:=h.H5 hv (us:=[]) (hd d ua) (bs:=ty.ls.kinds.map (I3 v)) (cs:=(ty.ls.kinds.map CQ).toArray) (T:=t) (os:=fun _=>[]) (by simp)
   (fun j b hb=>by
    simp only[AAX]at hb;cases hq:ty.ls.kinds[j]? with
    |none=>rw[hq]at hb;cases hb
    |some l=>
     rw[hq]at hb;injection hb with hb;subst hb
     exact⟨CQ l,by simp[hq],Lq l⟩) (fun i j _ b hb=>by cases hb) (fun _ _=>rfl)
  rw[←hl];refine Bg h ua ?_ vL tT;simp[execOp,ho,Instr.alloc,zeroValue,typeInfo,hi,hz,newVar,newRow,wz]
 ·rename_i d ht ua;split at hl
  ·rename_i hf;have hl:_=ws:=hl;obtain⟨i,z,c,hi,uC,hz,wz,uV⟩:=hft t hf
   obtain⟨W',vL,tT⟩:=h.H5 hv (us:=[]) (hd d ua) (bs:=[.bad]) (cs := #[c]) (T:=t) (os:=fun _=>[]) rfl
    (fun j b hb=>by
     cases j with
     |zero=>simp at hb;subst hb;exact⟨c,rfl,uV,AAL,(fun b hb=>by cases hb),rfl,trivial,by simp[LA.AG]⟩
     |succ j=>simp at hb) (fun i j _ b hb=>by cases hb) (fun _ _=>rfl)
   rw[←hl];refine Bg h ua ?_ vL tT;simp[execOp,ho,Instr.alloc,zeroValue,typeInfo,hi,hz,newVar,newRow,wz]
  ·exact hl.elim
 ·exact hl.elim
theorem I1{g:Bool}{as:List LA}{u:Value}(hu:E4 s W g as u)(uV:g=false→u.cells = #[u]):u.cells.size=as.length∧∀(j:Nat)(b:LA),as[j]?=some b→∃y,u.cells[j]?=some y∧AR s W b y:=by
 cases g with
 |true=>
  obtain⟨cs,rfl,uC,tv⟩:=hu;exact⟨uC,tv⟩
 |false=>
  have:=uV rfl;rw[this];cases as with
  |nil=>exact hu.elim
  |cons b bs=>cases bs with
   |cons=>exact hu.elim
   |nil=>
    refine⟨rfl,fun j y hy=>?_⟩;cases j with
    |zero=>simp at hy;subst hy;exact⟨u,rfl,hu⟩
    |succ j=>simp at hy
theorem AW.LZ(h:AW E s tm W)(hv:Ad s v){d:Nat}{as:List LA}{cs:Array Value}{T:TypeId}(vt:v∉as.flatMap LA.AG)
  (has:∀(j:Nat)(b:LA),as[j]?=some b→∃u,cs[j]?=some u∧AR s W b u):
  ∃W',W'.w=W.w.alloc (.cells cs T)∧AW E (s.app [.slot d (.bx as)]) (tm.setIfInBounds d (.pointer (some ⟨W.w.heap.size,0,none⟩))) W':=by
 have hold:∀b,b<W.w.heap.size→(W.w.alloc (.cells cs T)).heap[b]?=W.w.heap[b]?:=fun b hb=>A7 _ _ hb
 have tT:AW E s tm { W with w:=W.w.alloc (.cells cs T),fz:=fun b=>W.fz b∨b=W.w.heap.size }:=by
  have uH:EN v s s W { W with w:=W.w.alloc (.cells cs T),fz:=fun b=>W.fz b∨b=W.w.heap.size }:={
   fz:=fun b hb=>.inl hb
   LN:=fun b hb=>hold b (h.sep.fz b hb).1
   leaf:=fun r j AA gen t e xs dd hl tj=>⟨rfl,gen,t,xs,dd,hl,fun _=>⟨rfl,fun p h' e' u uW hn=>by
    obtain⟨u0,uv,te⟩:=(h.roots r).row hl;rw[uW]at uv;injection uv with uv;subst uv
    exact BN p te hn fun b hb=>hold b (hb.elim (fun hb=>(h.sep.own _ b hb).2.1) fun hb=>(h.sep.fz b hb).1)⟩⟩
   box:=fun r hb tj=>⟨hb,rfl,rfl⟩ }
  refine h.IA hv uH ?_ h.DH h.B0 (fun t=>.inl ⟨rfl,rfl⟩) fun r=>?_
  ·have hs:=h.sep
   exact {
    nodup:=hs.nodup
    A4:=hs.A4
    own:=fun k b hb=>by obtain⟨a1,a2,a3⟩:=hs.own k b hb;refine⟨fun hz=>hz.elim a1 fun e=>?_,by rw[Aj];exact Nat.lt_succ_of_lt a2,a3⟩;subst e;exact Nat.lt_irrefl _ a2
    fz:=fun b hb=>by
     rcases hb with hb|rfl
     ·obtain⟨a1,a2⟩:=hs.fz b hb;exact⟨by rw[Aj];exact Nat.lt_succ_of_lt a1,a2⟩
     ·exact⟨by rw[Aj];exact Nat.lt_succ_self _,.inr (.inl hs.size)⟩
    frame:=fun b h1 h2=>(hold b (by have:=hs.size;omega)).trans (hs.frame b h1 h2)
    size:=by rw[Aj];exact Nat.le_succ_of_le hs.size
    rest:=hs.rest }
  ·obtain⟨h1,h2⟩:=h.roots r;refine⟨fun j=>?_,?_⟩
   ·exact Aa.Dq uH (by have:=hv.2.1 r j;exact this) (fun b hb=>hold b (h.sep.own _ b hb).2.1) (h1 j)
   ·show(if(s.root r).box=true then _ else _);split
    ·rename_i hb;rw[AAK hb]at h2;obtain⟨vZ,u1,T',yQ,wi,a1,a2,a3⟩:=h2;refine⟨vZ,u1,T',yQ,(hold _ ?_).trans wi,a1,a2,a3⟩;exact(AAt.1 wi).1
    ·rename_i hb;rw[AAM hb]at h2;exact h2
 refine⟨_,rfl,tT.slot d ?_⟩;refine⟨W.w.heap.size,0,cs,T,(0,0),rfl,.inr rfl,heap_alloc_new _ _,by intro j _;simp,fun j b hb=>?_⟩;obtain⟨u,hu,uU⟩:=has j b hb;refine⟨u,by rw[AAW];exact hu,?_⟩;refine AR.Dq (v:=v) (s:=s) (W:=W) ?_ (fun tS=>vt (AAI.2 ⟨b,AAN hb,tS⟩)) uU
 exact {
   fz:=fun b hb=>.inl hb
   LN:=fun b hb=>hold b (h.sep.fz b hb).1
   leaf:=fun r j AA gen t e xs dd hl tj=>⟨rfl,gen,t,xs,dd,hl,fun _=>⟨rfl,fun p h' e' u uW hn=>by
    obtain⟨u0,uv,te⟩:=(h.roots r).row hl;rw[uW]at uv;injection uv with uv;subst uv
    exact BN p te hn fun b hb=>hold b (hb.elim (fun hb=>(h.sep.own _ b hb).2.1) fun hb=>(h.sep.fz b hb).1)⟩⟩
   box:=fun r hb tj=>⟨hb,rfl,rfl⟩ }
theorem Ny(hc:Dr P cx)(h:AW E s a.tmps W)(hv:Ad s v){t:TypeId}{x:Operand}(ho:o.op=.box t x)(hd:∀d,o.dst=some d→d<a.tmps.size)(hl:(AB cx v o s).leads ws):Be P E o a W.w (s.app ws):=by
 simp only[AB,ho]at hl;have h1:=BF h x;have vt:=Fx hv x;generalize s.Ap x=p at hl h1 vt;split at hl
 ·rename_i ty d g as ht ua;split at hl
  ·rename_i zg;simp only[AAG]at zg;obtain⟨hg,_⟩:=zg;subst hg;have hl:_=ws:=hl;obtain⟨cs,wF,uC,tv⟩:=h1;obtain⟨W',vL,tT⟩:=h.LZ hv (d:=d) (as:=as) (cs:=cs) (T:=t) vt tv;rw[←hl];refine Bg h ua ?_ vL tT;simp[execOp,ho,Instr.box,newVar,newRow,wF,Value.cells]
  let gg:Nat→Option Value:=fun j=>match g with|true=>(a.eval x).cells[j]?|false=>if j=0 then some (a.eval x)else none
  have yO:∀(j:Nat)(b:LA),as[j]?=some b→v∉b.AG∧∃u,gg j=some u∧AR s W b u:=by
   intro j b hb;refine⟨fun tS=>vt (AAI.2 ⟨b,AAN hb,tS⟩),?_⟩;cases g with
   |true=>obtain⟨cs,wF,_,tv⟩:=h1;obtain⟨u,hu,uU⟩:=tv j b hb;exact⟨u,by simp only[gg,wF];exact hu,uU⟩
   |false=>
    cases as with
    |nil=>exact h1.elim
    |cons b' bs=>cases bs with
     |cons=>exact h1.elim
     |nil=>cases j with
      |zero=>simp at hb;subst hb;exact⟨a.eval x,by simp[gg],h1⟩
      |succ j=>simp at hb
  obtain⟨bs,us,os,hl,hlen,wZ,ur,wP,uj,vH,vl⟩:=Ej (v:=v) h yO hl;split at hl
  ·have hl:_=ws:=hl
   have uV:g=false→(a.eval x).cells = #[a.eval x]:=by
    intro hg;subst hg;cases as with
    |nil=>exact h1.elim
    |cons b' bs'=>cases bs' with
     |cons=>exact h1.elim
     |nil=>
      match bs,hlen,vl with
      | [b],_,vl=>obtain⟨u,hu,ht⟩:=vl 0 b rfl;simp[gg]at hu;subst hu;exact Er ht.1
   have wF:=I1 h1 uV
   have hgc:∀j u,gg j=some u→(a.eval x).cells[j]?=some u:=by
    intro j u hj;cases g with
    |true=>exact hj
    |false=>
     rw[uV rfl];by_cases h0:j=0
     ·subst h0;simpa[gg]using hj
     ·simp[gg,h0]at hj
   obtain⟨W',vL,tT⟩:=h.H5 hv (us:=us) (hd d ua) (bs:=bs) (cs:=(a.eval x).cells) (T:=t) (os:=os) (by rw[wF.1,hlen])
    (fun j b hb=>by obtain⟨u,hu,ht⟩:=vl j b hb;exact⟨u,hgc j u hu,ht⟩) uj (fun j hj=>vH j (by omega))
   rw[←hl];refine Bg h ua ?_ vL tT;simp[execOp,ho,Instr.box,newVar,newRow]
  ·exact hl.elim
 ·exact hl.elim
end
end Go.Ev
namespace Go.Ev
def CD:List Value→Nat→Array Value→Array Value
 | [],_,arr=>arr
 |v::r,o,arr=>CD r (o+1) (arr.setIfInBounds o v)
theorem Al:∀(vs:List Value)(o:Nat)(arr:Array Value),(CD vs o arr).size=arr.size
 | [],_,_=>rfl
 |v::r,o,arr=>by rw[CD,Al r];simp
theorem CY:∀(vs:List Value)(o:Nat)(arr:Array Value),o+vs.length≤arr.size→∀k,(CD vs o arr)[k]?=if o≤k∧k<o+vs.length then vs[k-o]? else arr[k]?
 | [],o,arr,h,k=>by rw[CD,AAM (by simp)]
 |v::r,o,arr,h,k=>by
  simp only[ABG]at h;rw[CD,CY r (o+1) _ (by simp;omega) k,AAz];by_cases h1:k=o
  ·subst h1;rw[AAM (by omega),AAK rfl,AAK (by omega),AAK (by simp)];simp
  ·by_cases h2:o+1≤k∧k<o+1+r.length
   ·rw[AAK h2,AAK (by simp;omega)];obtain⟨j,rfl⟩:∃j,k=o+1+j:=⟨k-(o+1),by omega⟩;rw[show o+1+j-(o+1)=j by omega,show o+1+j-o=j+1 by omega];rfl
   ·rw[AAM h2,AAM (fun e=>h1 e.symm),AAM (by simp;omega)]
structure Mu(w w':World)(b:Nat)(u1:Array Value)(T:TypeId)(fr:Nat×Nat):Prop where
 here:w'.heap[b]?=some (.cells u1 T fr)
 CL:∀c,c≠b→w'.heap[c]?=w.heap[c]?
 size:w'.heap.size=w.heap.size
 rest:w'.os=w.os∧w'.tape=w.tape∧w'.output=w.output
theorem F0(b:Nat){T:TypeId}{fr:Nat×Nat}:∀(vs:List Value)(o:Nat)(w:World)(arr:Array Value),w.heap[b]?=some (.cells arr T fr)→Mu w (w.setCells b o vs) b (CD vs o arr) T fr
 | [],o,w,arr,h=>⟨h,fun _ _=>rfl,rfl,rfl,rfl,rfl⟩
 |v::r,o,w,arr,h=>by
  have h1:(w.setCell ⟨b,o,none⟩ v).heap[b]?=some (.cells (arr.setIfInBounds o v) T fr):=by rw[setCell_eq_setRow w b o arr T fr v h];exact setRow_heap w b arr _ T fr h
  have ih:=F0 b r (o+1) _ _ h1;refine⟨ih.here,fun c hc=>(ih.CL c hc).trans ?_,ih.size.trans ?_,ih.rest⟩
  ·rw[setCell_eq_setRow w b o arr T fr v h];exact setRow_other w b c _ hc
  ·rw[setCell_eq_setRow w b o arr T fr v h];exact setRow_size w b _
theorem DY{P:Program}{w:World}{b o:Nat}{arr:Array Value}{T:TypeId}{fr:Nat×Nat}(vs:List Value)(h:w.heap[b]?=some (.cells arr T fr))(hb:∀j,j<arr.size→¬(fr.1≤j∧j<fr.2))(hl:o+vs.length≤arr.size)(h1:∀v∈vs,v.oneCell'=true):
  ∃w',(storeCells ⟨b,o,none⟩ vs).run P w=.ok () w'∧Mu w w' b (CD vs o arr) T fr:=by
 refine⟨_,run_storeCells_cells b o vs 0 w ?_ ?_ h1,?_⟩
 ·intro j hj;simp only[World.cell?,h];simp;omega
 ·intro j hj;have:=hb (o+0+j) (by omega);obtain⟨lo,hi⟩:=fr;simp only[World.frozen?,h];simp at this ⊢;exact this
 ·exact F0 b vs o w arr h
theorem L.Dk:∀(l:L) {d:Nat} {w:World} {fz:Nat→Prop} {v:Value} {x:l.D} {o:List Nat},l.rd d w fz v x o→v.oneCell'=true
 | .int _,_,_,_,_,_,_,h=>by rw[h.1];rfl
 | .bool,_,_,_,_,_,_,h=>by rw[h.1];rfl
 | .str,_,_,_,_,_,_,h=>by rw[h.1];rfl
 | .sl _ e,_,_,_,_,_,_,h=>by obtain⟨A,c,hv,_⟩:=h;rw[hv];rfl
theorem Ls.Kx:∀(e:Ls) {d:Nat} {w:World} {fz:Nat→Prop} {g:Nat→Option Value} {x:e.D} {o:List Nat},e.rd d w fz g x o→∀j,j<e.n→∃v,g j=some v∧v.oneCell'=true
 | .nil,_,_,_,_,_,_,h,j,hj=>by simp[Ls.n]at hj
 | .one l,_,_,_,_,_,_,h,j,hj=>by simp only[Ls.rd]at h;obtain⟨v,hg,h⟩:=h;simp[Ls.n]at hj;subst hj;exact⟨v,hg,L.Dk l h⟩
 | .cons l ls,_,_,_,_,_,_,h,j,hj=>by
  simp only[Ls.rd]at h;obtain⟨v,o1,o2,hg,h1,h2,_⟩:=h;cases j with
  |zero=>exact⟨v,hg,L.Dk l h1⟩
  |succ j=>exact Ls.Kx ls h2 j (by simp[Ls.n]at hj;omega)
theorem Ls.BD:∀(e:Ls) {d:Nat} {w:World} {fz:Nat→Prop} {g g':Nat→Option Value} {x:e.D} {o:List Nat},e.rd d w fz g x o→(∀j,j<e.n→g' j=g j)→e.rd d w fz g' x o
 | .nil,_,_,_,_,_,_,_,h,_=>h
 | .one l,_,_,_,_,_,_,_,h,hg=>by simp only[Ls.rd]at h ⊢;obtain⟨v,h0,h⟩:=h;exact⟨v,(hg 0 (by simp[Ls.n])).trans h0,h⟩
 | .cons l ls,_,_,_,_,_,_,_,h,hg=>by
  simp only[Ls.rd]at h ⊢;obtain⟨v,o1,o2,h0,h1,h2,ho⟩:=h;exact⟨v,o1,o2,(hg 0 (by simp[Ls.n])).trans h0,h1,Ls.BD ls h2 fun j hj=>hg (j+1) (by simp[Ls.n];omega),ho⟩
theorem L.AZ:∀(l:L) {d d':Nat} {w w':World} {fz tW:Nat→Prop} {v:Value} {x:l.D} {o:List Nat},Bz l=false→l.rd d w fz v x o→l.rd d' w' tW v x o∧o=[]
 | .int _,_,_,_,_,_,_,_,_,_,_,h=>⟨h,h.2⟩
 | .bool,_,_,_,_,_,_,_,_,_,_,h=>⟨h,h.2⟩
 | .str,_,_,_,_,_,_,_,_,_,_,h=>⟨h,h.2⟩
 | .sl _ e,_,_,_,_,_,_,_,_,_,hs,h=>by simp[Bz]at hs
theorem Ls.AZ:∀(e:Ls) {d d':Nat} {w w':World} {fz tW:Nat→Prop} {g:Nat→Option Value} {x:e.D} {o:List Nat},Bs e=true→e.rd d w fz g x o→e.rd d' w' tW g x o∧o=[]
 | .nil,_,_,_,_,_,_,_,_,_,_,h=>⟨h,h⟩
 | .one l,_,_,_,_,_,_,_,_,_,hs,h=>by simp only[Ls.rd]at h ⊢;obtain⟨v,h0,h⟩:=h;simp[Bs]at hs;obtain⟨a,b⟩:=L.AZ l hs h;exact⟨⟨v,h0,a⟩,b⟩
 | .cons l ls,_,_,_,_,_,_,_,_,_,hs,h=>by
  simp only[Ls.rd]at h ⊢;obtain⟨v,o1,o2,h0,h1,h2,ho⟩:=h;simp[Bs]at hs;obtain⟨a,b⟩:=L.AZ l hs.1 h1;obtain⟨a',b'⟩:=Ls.AZ ls hs.2 h2;exact⟨⟨v,o1,o2,h0,a,a',ho⟩,by rw[ho,b,b'];rfl⟩
def CF(e:Ls)(d:Nat)(w:World)(fz:Nat→Prop)(g:Nat→Option Value)(xs:List e.D)(os:Nat→List Nat):Prop:=
 ∀i (h:i<xs.length),e.rd d w fz (fun j=>g (i*e.n+j)) xs[i] (os i)
section
variable {e:Ls}{d:Nat}{w w':World}{fz tW:Nat→Prop}{g g':Nat→Option Value}{xs ys:List e.D}{os ui:Nat→List Nat}
theorem KZ{i n j m:Nat}(hi:i<m)(hj:j<n):i*n+j<m*n:=by have:(i+1)*n≤m*n:=AAm n hi;rw[AAk]at this;omega
theorem CF.cell(h:CF e d w fz g xs os)(k:Nat)(hk:k<xs.length*e.n):∃v,g k=some v∧v.oneCell'=true:=by
 have hn:0<e.n:=by
             rcases Nat.eq_zero_or_pos e.n with h0|h0;· rw[h0]at hk;simp at hk
             ·exact h0
 have hi:k / e.n<xs.length:=Nat.div_lt_of_lt_mul (by rwa[Nat.mul_comm]at hk);obtain⟨v,hv,h1⟩:=Ls.Kx e (h _ hi) (k%e.n) (Nat.mod_lt _ hn);have:k / e.n*e.n+k%e.n=k:=Nat.div_add_mod' _ _;rw[this]at hv;exact⟨v,hv,h1⟩
theorem CF.congr(h:CF e d w fz g xs os)(hg:∀k,k<xs.length*e.n→g' k=g k):CF e d w fz g' xs os:=
 fun i hi=>Ls.BD e (h i hi) fun j hj=>hg _ (KZ hi hj)
theorem CF.frame(h:CF e d w fz g xs os)(hf:∀b,(∃i,i<xs.length∧b∈os i)∨fz b→w'.heap[b]?=w.heap[b]?)(hz:∀b,fz b→tW b):CF e d w' tW g xs os:=
 fun i hi=>Ls.AJ e (h i hi) (fun b hb=>hf b (hb.imp (fun hb=>⟨i,hi,hb⟩) id)) hz
theorem CF.flat(hf:Bs e=true)(h:CF e d w fz g xs os)(d':Nat)(w':World)(tW:Nat→Prop):CF e d' w' tW g xs fun _=>[]:=fun i hi=>by obtain⟨a,b⟩:=Ls.AZ e hf (h i hi) (d':=d') (w':=w') (tW:=tW);rw[b]at a;exact a
theorem CF.append(h1:CF e d w fz g xs os)(h2:CF e d w fz (fun k=>g (xs.length*e.n+k)) ys ui):CF e d w fz g (xs++ys) fun i=>if i<xs.length then os i else ui (i-xs.length):=by
 intro i hi;by_cases h:i<xs.length
 ·simp only[AAK h];rw[List.getElem_append_left h];exact h1 i h
 ·simp only[AAM h];rw[List.getElem_append_right (AA1 h)];have:=h2 (i-xs.length) (by simp at hi;omega);refine Ls.BD e this fun j hj=>?_;show g (i*e.n+j)=g (xs.length*e.n+((i-xs.length)*e.n+j));congr 1;have:i*e.n=xs.length*e.n+(i-xs.length)*e.n:=by rw[←AAk];congr 1;omega
  omega
theorem Gi{ad:Addr}{arr:Array Value}{T:TypeId}{fr:Nat×Nat}{c:Nat}(hh:w.heap[ad.block]?=some (.cells arr T fr))(hs:ad.spot=none)(hb:∀j,j<arr.size→¬(fr.1≤j∧j<fr.2))
  (hc:ad.off+c*e.n≤arr.size) (hl:xs.length≤c) (uD:CF e 2 w fz (fun k=>arr[ad.off+k]?) xs os):
  AD e 2 w fz (.slice (some ad) xs.length c) xs (ad.block::(List.range xs.length).flatMap os):=
 ⟨some ad,c,rfl,hl,.inr ⟨fun k=>arr[ad.off+k]?,os,⟨hs,arr,T,fr,hh,hc,fun _=>hb,fun j=>rfl⟩,uD,rfl⟩⟩
theorem AD.KM{v:Value}{o:List Nat}(h:AD e d w fz v xs o):∃A c,v=.slice A xs.length c∧xs.length≤c∧(A=none→c=0∧o=[])∧
  ∀ad,A=some ad→(0<c∨0<d)→∃arr T fr os,ad.spot=none∧w.heap[ad.block]?=some (.cells arr T fr)∧ad.off+c*e.n≤arr.size∧(0<d→∀j,j<arr.size→¬(fr.1≤j∧j<fr.2))∧
   CF e (dec d) w fz (fun k=>arr[ad.off+k]?) xs os∧(0<d→o=ad.block::(List.range xs.length).flatMap os)∧(d=0→fz ad.block∧∀i,i<xs.length→os i=[]):=by
 obtain⟨A,c,hv,hc,h⟩:=h;refine⟨A,c,hv,hc,?_,?_⟩
 ·intro hA;subst hA;exact h
 ·intro ad hA wV;subst hA;rcases h with h|⟨g,os,⟨hs,arr,T,fr,hh,hn,hb,hg⟩,uD,ho⟩
  ·obtain⟨h1,h2,_⟩:=h;have h1:¬0<d:=by simpa using h1
   omega
  refine⟨arr,T,fr,os,hs,hh,hn,fun hd=>hb (by simpa using hd),?_,?_,?_⟩
  ·intro i hi;refine Ls.BD e (uD i hi) fun j _=>(hg _).symm
  ·intro hd;have:decide (0<d)=true:=by simpa using hd
   rw[this]at ho;exact ho
  ·intro hd;subst hd;exact⟨ho.1,ho.2.2⟩
def BW(g:Nat→Option Value)(m:Nat):List Value:=(List.range m).map fun j=>(g j).getD Go.undef
theorem AI(g:Nat→Option Value)(m:Nat):(BW g m).length=m:=by simp[BW]
theorem Bi{m:Nat}(h:∀k,k<m→∃v,g k=some v∧v.oneCell'=true)(k:Nat)(hk:k<m):(BW g m)[k]?=g k:=by obtain⟨v,hv,_⟩:=h k hk;simp[BW,hk,hv]
theorem FM{m:Nat}(h:∀k,k<m→∃v,g k=some v∧v.oneCell'=true):∀v∈BW g m,v.oneCell'=true:=by intro v hv;obtain⟨k,hk,rfl⟩:=AAs.1 hv;obtain⟨u,hu,h1⟩:=h k (AAR.1 hk);simp[hu,h1]
end
theorem L.F6:∀(l:L) {d:Nat} {w:World} {fz:Nat→Prop},l.rd d w fz (CQ l) (K6 l) []
 | .int _,_,_,_=>⟨rfl,rfl⟩
 | .bool,_,_,_=>⟨rfl,rfl⟩
 | .str,_,_,_=>⟨rfl,rfl⟩
 | .sl _ e,_,_,_=>B1
theorem Ls.F6:∀(e:Ls) {d:Nat} {w:World} {fz:Nat→Prop} {g:Nat→Option Value},(∀j,j<e.n→g j=(e.kinds.map CQ)[j]?)→e.rd d w fz g (FZ e) []
 | .nil,_,_,_,_,_=>rfl
 | .one l,_,_,_,_,hg=>by simp only[Ls.rd];exact⟨CQ l,(hg 0 (by simp[Ls.n])).trans rfl,L.F6 l⟩
 | .cons l ls,_,_,_,_,hg=>by
  simp only[Ls.rd];exact⟨CQ l,[],[],(hg 0 (by simp[Ls.n])).trans rfl,L.F6 l,Ls.F6 ls fun j hj=>(hg (j+1) (by simp[Ls.n];omega)).trans (by simp[Ls.kinds]),rfl⟩
end Go.Ev
