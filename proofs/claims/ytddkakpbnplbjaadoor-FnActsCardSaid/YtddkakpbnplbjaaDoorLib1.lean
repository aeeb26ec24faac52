/- A plain evaluator for Go's loaded code,and that it is sound;part 1. Conditions: none. -/
import Derived.Calls
import Derived.Orders
import Derived.Below
import Derived.Sort.Defs
import Derived.Laws.Rows
import Derived.Laws.Small
import Derived.Laws.StructEq
import Derived.Laws.Concat
import Derived.Laws.IdiomCopy
import Derived.Deep.MidRow
import Derived.Tactics
import Derived.WalkKit
import Derived.Laws.Cover3
import Derived.Laws.MakeOwn
import Derived.Laws.Append
set_option linter.all false
namespace Go.Ev
theorem j7:type_of% @List.getElem?_eq_getElem:=@List.getElem?_eq_getElem
theorem j8:type_of% @Bool.and_eq_true:=@Bool.and_eq_true
theorem j9:type_of% @List.getElem?_eq_some_iff:=@List.getElem?_eq_some_iff
theorem kA:type_of% @List.mem_flatMap:=@List.mem_flatMap
theorem kB:type_of% @List.mem_cons_of_mem:=@List.mem_cons_of_mem
theorem kC:type_of% @List.mem_of_getElem?:=@List.mem_of_getElem?
theorem kD:type_of% @List.eq_nil_of_length_eq_zero:=@List.eq_nil_of_length_eq_zero
theorem kE:type_of% @List.nodup_nil:=@List.nodup_nil
theorem kF:type_of% @if_pos:=@if_pos
theorem kG:type_of% @if_neg:=@if_neg
theorem kH:type_of% @List.mem_append_right:=@List.mem_append_right
theorem kI:type_of% @beq_iff_eq:=@beq_iff_eq
theorem kJ:type_of% @Bool.not_eq_true':=@Bool.not_eq_true'
theorem kK:type_of% @List.mem_append_left:=@List.mem_append_left
theorem kL:type_of% @List.all_eq_true:=@List.all_eq_true
theorem kM:type_of% @List.mem_range:=@List.mem_range
theorem kN:type_of% @List.getElem?_map:=@List.getElem?_map
theorem kO:type_of% @Nat.zero_add:=@Nat.zero_add
theorem kP:type_of% @List.nodup_append:=@List.nodup_append
theorem kQ:type_of% @List.nodup_cons:=@List.nodup_cons
theorem kR:type_of% @List.mem_cons_self:=@List.mem_cons_self
theorem kS:type_of% @List.mem_cons:=@List.mem_cons
theorem kT:type_of% @Nat.le_refl:=@Nat.le_refl
theorem kU:type_of% @Bool.or_eq_true:=@Bool.or_eq_true
theorem kV:type_of% @decide_eq_true_eq:=@decide_eq_true_eq
theorem kW:type_of% @List.flatten_cons:=@List.flatten_cons
theorem kX:type_of% @Array.getElem?_eq_getElem:=@Array.getElem?_eq_getElem
theorem kY:type_of% @Array.getD_eq_getD_getElem?:=@Array.getD_eq_getD_getElem?
theorem kZ:type_of% @Bool.or_eq_false_iff:=@Bool.or_eq_false_iff
theorem ka:type_of% @Array.getElem?_append_left:=@Array.getElem?_append_left
theorem kb:type_of% @decide_eq_false_iff_not:=@decide_eq_false_iff_not
theorem kd:type_of% @Nat.add_mul:=@Nat.add_mul
theorem ke:type_of% @List.flatMap_cons:=@List.flatMap_cons
theorem kf:type_of% @Nat.mul_le_mul_right:=@Nat.mul_le_mul_right
theorem kg:type_of% @Classical.byContradiction:=@Classical.byContradiction
theorem kh:type_of% @List.append_nil:=@List.append_nil
theorem km:type_of% @List.mem_singleton:=@List.mem_singleton
theorem ko:type_of% @List.getElem?_of_mem:=@List.getElem?_of_mem
theorem kp:type_of% @of_decide_eq_true:=@of_decide_eq_true
theorem kq:type_of% @Nat.lt_or_ge:=@Nat.lt_or_ge
theorem kt:type_of% @List.mem_map:=@List.mem_map
theorem ku:type_of% @List.nil_append:=@List.nil_append
theorem kv:type_of% @Nat.le_trans:=@Nat.le_trans
theorem ky:type_of% @Array.getElem?_setIfInBounds:=@Array.getElem?_setIfInBounds
theorem kz:type_of% @Nat.add_zero:=@Nat.add_zero
theorem lA:type_of% @Nat.le_of_not_lt:=@Nat.le_of_not_lt
theorem lB:type_of% @Nat.lt_of_lt_of_le:=@Nat.lt_of_lt_of_le
theorem lC:type_of% @List.length_append:=@List.length_append
theorem lD:type_of% @Array.getElem?_eq_some_iff:=@Array.getElem?_eq_some_iff
theorem lE:type_of% @Option.map_some:=@Option.map_some
theorem lF:type_of% @List.length_map:=@List.length_map
theorem lG:type_of% @Array.toArray_toList:=@Array.toArray_toList
theorem lH:type_of% @List.getElem?_cons_succ:=@List.getElem?_cons_succ
theorem lI:type_of% @List.drop_left:=@List.drop_left
theorem lJ:type_of% @List.cons_append:=@List.cons_append
theorem lK:type_of% @List.any_eq_true:=@List.any_eq_true
theorem lL:type_of% @List.size_toArray:=@List.size_toArray
theorem lM:type_of% @Array.size_append:=@Array.size_append
theorem lN:type_of% @Option.getD_some:=@Option.getD_some
theorem lO:type_of% @List.mem_or_eq_of_mem_set:=@List.mem_or_eq_of_mem_set
theorem lP:type_of% @List.getElem?_append_left:=@List.getElem?_append_left
theorem lQ:type_of% @List.map_cons:=@List.map_cons
theorem lR:type_of% @Classical.not_not:=@Classical.not_not
theorem lS:type_of% @Array.size_map:=@Array.size_map
theorem lT:type_of% @List.length_cons:=@List.length_cons
theorem lU:type_of% @Array.toList_map:=@Array.toList_map
theorem lV:type_of% @Array.size_range:=@Array.size_range
theorem lW:type_of% @List.mem_append:=@List.mem_append
theorem lX:type_of% @Nat.mul_le_mul:=@Nat.mul_le_mul
theorem lY:type_of% @Nat.lt_or_gt_of_ne:=@Nat.lt_or_gt_of_ne
theorem lZ:type_of% @List.getElem?_append_right:=@List.getElem?_append_right
theorem lh:type_of% @Bool.false_eq_true:=@Bool.false_eq_true
theorem lj:type_of% @List.pairwise_iff_getElem:=@List.pairwise_iff_getElem
theorem lk:type_of% @Nat.one_mul:=@Nat.one_mul
theorem lp:type_of% @Option.bind_eq_some_iff:=@Option.bind_eq_some_iff
mutual
inductive L where
 |int (k:IntKind)
 |bool
 |str
 |sl (t:TypeId) (e:Ls)
inductive Ls where
 |nil
 |one (l:L)
 |cons (l:L) (ls:Ls)
end
mutual
def L.D:L→Type
 | .int _=>Int
 | .bool=>Bool
 | .str=>List UInt8
 | .sl _ e=>List e.D
def Ls.D:Ls→Type
 | .nil=>Unit
 | .one l=>l.D
 | .cons l ls=>l.D×ls.D
end
def Ls.n:Ls→Nat
 | .nil=>0
 | .one _=>1
 | .cons _ ls=>ls.n+1
def IntKind.code:IntKind→Nat
 | .i8=>0 | .i16=>1 | .i32=>2 | .i64=>3 | .u8=>4 | .u16=>5 | .u32=>6 | .u64=>7
theorem IntKind.ES{a b:IntKind}(h:IntKind.code a=IntKind.code b):a=b:=by cases a<;>cases b<;>first|rfl|cases h
mutual
def L.eq?:(a b:L)→Bool
 | .int j,.int k=>IntKind.code j==IntKind.code k
 | .bool,.bool=>true
 | .str,.str=>true
 | .sl t e,.sl u f=>t==u&&Ls.eq? e f
 |_,_=>false
def Ls.eq?:(a b:Ls)→Bool
 | .nil,.nil=>true
 | .one a,.one b=>L.eq? a b
 | .cons a as,.cons b bs=>L.eq? a b&&Ls.eq? as bs
 |_,_=>false
end
mutual
theorem L.Ds:∀ {a b:L},L.eq? a b=true→a=b
 | .int _,.int _,h=>by simp[L.eq?]at h;rw[IntKind.ES h]
 | .bool,.bool,_=>rfl
 | .str,.str,_=>rfl
 | .sl t e,.sl u f,h=>by simp[L.eq?]at h;rw[h.1,Ls.Ds h.2]
 | .int _,.bool,h | .int _,.str,h | .int _,.sl ..,h | .bool,.int _,h | .bool,.str,h | .bool,.sl ..,h | .str,.int _,h | .str,.bool,h | .str,.sl ..,h | .sl ..,.int _,h | .sl ..,.bool,h | .sl ..,.str,h=>by simp[L.eq?]at h
theorem Ls.Ds:∀ {a b:Ls},Ls.eq? a b=true→a=b
 | .nil,.nil,_=>rfl
 | .one _,.one _,h=>by simp[Ls.eq?]at h;rw[L.Ds h]
 | .cons _ _,.cons _ _,h=>by simp[Ls.eq?]at h;rw[L.Ds h.1,Ls.Ds h.2]
 | .nil,.one _,h | .nil,.cons ..,h | .one _,.nil,h | .one _,.cons ..,h | .cons ..,.nil,h | .cons ..,.one _,h=>by simp[Ls.eq?]at h
end
structure Lv where
 l:L
 x:l.D
def L.cast{a:L}(b:L)(x:a.D):Option b.D:=if h:L.eq? a b=true then some (L.Ds h▸x)else none
def Ls.cast{a:Ls}(b:Ls)(x:a.D):Option b.D:=if h:Ls.eq? a b=true then some (Ls.Ds h▸x)else none
theorem L.AH{a b:L}{x:a.D}{y:b.D}(h:L.cast b x=some y):∃e:a=b,e▸x=y:=by
 unfold L.cast at h;split at h
 ·rename_i e;exact⟨L.Ds e,by injection h⟩
 ·cases h
theorem Ls.AH{a b:Ls}{x:a.D}{y:b.D}(h:Ls.cast b x=some y):∃e:a=b,e▸x=y:=by
 unfold Ls.cast at h;split at h
 ·rename_i e;exact⟨Ls.Ds e,by injection h⟩
 ·cases h
def pack:(ls:Ls)→List Lv→Option ls.D
 | .nil=>fun vs=>match vs with
  | []=>some ()
  |_::_=>none
 | .one l=>fun vs=>match vs with
  | []=>none
  |v::vs=>match vs with
   | []=>L.cast l v.x
   |_::_=>none
 | .cons l ls=>fun vs=>match vs with
  | []=>none
  |v::vs=>match L.cast l v.x with
   |none=>none
   |some x=>match pack ls vs with
    |none=>none
    |some xs=>some (x,xs)
def unpack:(ls:Ls)→ls.D→List Lv
 | .nil,_=>[]
 | .one l,x=>[⟨l,x⟩]
 | .cons l ls,x=>⟨l,x.1⟩::unpack ls x.2
def Ls.kinds:Ls→List L
 | .nil=>[]
 | .one l=>[l]
 | .cons l ls=>l::ls.kinds
theorem B9:∀(ls:Ls)(x:ls.D),(unpack ls x).length=ls.n
 | .nil,_=>rfl
 | .one _,_=>rfl
 | .cons _ ls,x=>by simp[unpack,Ls.n,B9 ls x.2]
theorem Ae:∀(ls:Ls)(vs:List Lv)(x:ls.D),pack ls vs=some x→unpack ls x=vs
 | .nil,[],_,_=>rfl
 | .nil,_::_,_,h=>by simp[pack]at h
 | .one l,[],_,h=>by simp[pack]at h
 | .one l,[v],x,h=>by
  simp only[pack]at h;obtain⟨l',y⟩:=v;obtain⟨e,he⟩:=L.AH h
  try dsimp only at e he
  subst e;subst he;rfl
 | .one l,_::_::_,_,h=>by simp[pack]at h
 | .cons l ls,[],_,h=>by simp[pack]at h
 | .cons l ls,v::vs,x,h=>by
  obtain⟨l',y⟩:=v;simp only[pack]at h;split at h
  ·cases h
  ·rename_i a ha;split at h
   ·cases h
   ·rename_i b hb;obtain⟨e,he⟩:=L.AH ha
    try dsimp only at e he
    subst e;subst he;injection h with h;subst h
    simp[unpack,Ae ls vs _ hb]
def Row(w:World)(a:Addr)(n:Nat)(bare:Bool)(g:Nat→Option Value):Prop:=
 a.spot=none∧∃arr T fr,w.heap[a.block]?=some (.cells arr T fr)∧a.off+n≤arr.size∧(bare=true→∀j,j<arr.size→¬(fr.1≤j∧j<fr.2))∧∀j,g j=arr[a.off+j]?
def CE{α:Type}(n:Nat)(R:(Nat→Option Value)→α→List Nat→Prop)(own:Bool)(w:World)(fz:Nat→Prop)(v:Value)(xs:List α)(o:List Nat):Prop:=
 ∃(A:Option Addr) (c:Nat),v=.slice A xs.length c∧xs.length≤c∧
  match A with
  |none=>c=0∧o=[]
  |some a=>(own=false∧c=0∧o=[])∨∃(g:Nat→Option Value) (os:Nat→List Nat),Row w a (c*n) own g∧(∀i (h:i<xs.length),R (fun j=>g (i*n+j)) xs[i] (os i))∧
    match own with
    |true=>o=a.block::(List.range xs.length).flatMap os
    |false=>fz a.block∧o=[]∧∀i,i<xs.length→os i=[]
def dec:Nat→Nat
 |0=>0
 |1=>0
 |d+2=>d+2
mutual
def L.rd:(l:L)→Nat→World→(Nat→Prop)→Value→l.D→List Nat→Prop
 | .int k,_,_,_,v,x,o=>v=.int k x∧o=[]
 | .bool,_,_,_,v,x,o=>v=.bool x∧o=[]
 | .str,_,_,_,v,x,o=>v=.string ⟨x.toArray⟩∧o=[]
 | .sl _ e,d,w,fz,v,x,o=>CE e.n (fun g y o=>e.rd (dec d) w fz g y o) (decide (0<d)) w fz v x o
def Ls.rd:(ls:Ls)→Nat→World→(Nat→Prop)→(Nat→Option Value)→ls.D→List Nat→Prop
 | .nil,_,_,_,_,_,o=>o=[]
 | .one l,d,w,fz,g,x,o=>∃v,g 0=some v∧l.rd d w fz v x o
 | .cons l ls,d,w,fz,g,x,o=>∃v o1 o2,g 0=some v∧l.rd d w fz v x.1 o1∧ls.rd d w fz (fun j=>g (j+1)) x.2 o2∧o=o1++o2
end
theorem L.IC{t:TypeId}{e:Ls}{d:Nat}{w:World}{fz:Nat→Prop}{v:Value}{x:(L.sl t e).D}{o:List Nat}:
  (L.sl t e).rd d w fz v x o↔CE (α:=e.D) e.n (fun g y o=>e.rd (dec d) w fz g y o) (decide (0<d)) w fz v x o:=Iff.rfl
end Go.Ev
namespace Go.Ev
theorem Row.frame{w w':World}{a:Addr}{n:Nat}{bare:Bool}{g:Nat→Option Value}(h:Row w a n bare g)(e:w'.heap[a.block]?=w.heap[a.block]?):Row w' a n bare g:=by obtain⟨hs,arr,T,fr,hh,hn,hb,hg⟩:=h;exact⟨hs,arr,T,fr,e.trans hh,hn,hb,hg⟩
theorem Row.lt{w:World}{a:Addr}{n:Nat}{bare:Bool}{g:Nat→Option Value}(h:Row w a n bare g):a.block<w.heap.size:=by obtain⟨hs,arr,T,fr,hh,_⟩:=h;exact(lD.1 hh).1
section
variable {α:Type}{n:Nat}{R R':(Nat→Option Value)→α→List Nat→Prop}{own:Bool}{w w':World}{fz Vp:Nat→Prop}{v:Value}{xs:List α}{o:List Nat}
theorem CE.imp(h:CE n R own w fz v xs o)(hf:∀b,b∈o∨fz b→w'.heap[b]?=w.heap[b]?)(hz:∀b,fz b→Vp b)
  (hr:∀g x oi,(∀b∈oi,b∈o)→R g x oi→R' g x oi):CE n R' own w' Vp v xs o:=by
 obtain⟨A,c,hv,hc,h⟩:=h;refine⟨A,c,hv,hc,?_⟩;cases A with
 |none=>exact h
 |some a=>
  rcases h with h|⟨g,os,Vr,V5,ho⟩
  ·exact .inl h
  refine .inr ?_;cases own with
  |true=>
   refine⟨g,os,Vr.frame (hf _ (.inl (by rw[ho];simp))),fun i hi=>hr _ _ _ ?_ (V5 i hi),ho⟩;intro b hb;rw[ho];exact kB _ (kA.2 ⟨i,kM.2 hi,hb⟩)
  |false=>
   refine⟨g,os,Vr.frame (hf _ (.inr ho.1)),fun i hi=>hr _ _ _ ?_ (V5 i hi),hz _ ho.1,ho.2⟩;intro b hb;rw[ho.2.2 i hi]at hb;cases hb
theorem CE.freeze(h:CE n R own w fz v xs o)(hz:∀b,fz b∨b∈o→Vp b)(hr:∀g x oi,(∀b∈oi,b∈o)→R g x oi→R' g x []):CE n R' false w Vp v xs []:=by
 obtain⟨A,c,hv,hc,h⟩:=h;refine⟨A,c,hv,hc,?_⟩;cases A with
 |none=>exact⟨h.1,rfl⟩
 |some a=>
  rcases h with h|⟨g,os,Vr,V5,ho⟩
  ·exact .inl ⟨rfl,h.2.1,rfl⟩
  obtain⟨hs,arr,T,fr,hh,hn,hb,hg⟩:=Vr;refine .inr ⟨g,fun _=>[],⟨hs,arr,T,fr,hh,hn,fun h=>by simp at h,hg⟩,fun i hi=>hr _ _ _ ?_ (V5 i hi),hz _ ?_,rfl,fun _ _=>rfl⟩
  ·cases own with
   |true=>intro b hb;rw[ho];exact kB _ (kA.2 ⟨i,kM.2 hi,hb⟩)
   |false=>intro b hb;rw[ho.2.2 i hi]at hb;cases hb
  ·cases own with
   |true=>right;rw[ho];simp
   |false=>exact .inl ho.1
theorem CE.zero(h:CE n R false w fz v xs o):o=[]:=by
 obtain⟨A,c,hv,hc,h⟩:=h;cases A with
 |none=>exact h.2
 |some a=>
  rcases h with h|⟨g,os,Vr,V5,ho⟩
  ·exact h.2.2
  ·exact ho.2.1
theorem CE.dep(h:CE n R own w fz v xs o)(hr:∀g x oi,R g x oi→∀b∈oi,b<w.heap.size):∀b∈o,b<w.heap.size:=by
 obtain⟨A,c,hv,hc,h⟩:=h;cases A with
 |none=>rw[h.2];simp
 |some a=>
  rcases h with h|⟨g,os,Vr,V5,ho⟩
  ·rw[h.2.2];simp
  cases own with
  |false=>rw[ho.2.1];simp
  |true=>
   intro b hb;rw[ho]at hb;rcases kS.1 hb with rfl|hb
   ·exact Vr.lt
   ·obtain⟨i,hi,hb⟩:=kA.1 hb;exact hr _ _ _ (V5 i (kM.1 hi)) b hb
end
mutual
theorem L.AI:∀(l:L) {d:Nat} {w w':World} {fz Vp:Nat→Prop} {v:Value} {x:l.D} {o:List Nat},
  l.rd d w fz v x o→(∀b,b∈o∨fz b→w'.heap[b]?=w.heap[b]?)→(∀b,fz b→Vp b)→l.rd d w' Vp v x o
 | .int _,_,_,_,_,_,_,_,_,h,_,_=>h
 | .bool,_,_,_,_,_,_,_,_,h,_,_=>h
 | .str,_,_,_,_,_,_,_,_,h,_,_=>h
 | .sl _ e,d,w,w',fz,Vp,v,x,o,h,hf,hz=>by rw[L.IC]at h ⊢;exact CE.imp h hf hz fun g y oi ho hr=>Ls.AI e hr (fun b hb=>hf b (hb.imp (ho b) id)) hz
theorem Ls.AI:∀(ls:Ls) {d:Nat} {w w':World} {fz Vp:Nat→Prop} {g:Nat→Option Value} {x:ls.D} {o:List Nat},
  ls.rd d w fz g x o→(∀b,b∈o∨fz b→w'.heap[b]?=w.heap[b]?)→(∀b,fz b→Vp b)→ls.rd d w' Vp g x o
 | .nil,_,_,_,_,_,_,_,_,h,_,_=>h
 | .one l,d,w,w',fz,Vp,g,x,o,h,hf,hz=>by simp only[Ls.rd]at h ⊢;obtain⟨v,hg,h⟩:=h;exact⟨v,hg,L.AI l h hf hz⟩
 | .cons l ls,d,w,w',fz,Vp,g,x,o,h,hf,hz=>by simp only[Ls.rd]at h ⊢;obtain⟨v,o1,o2,hg,h1,h2,rfl⟩:=h;exact⟨v,o1,o2,hg,L.AI l h1 (fun b hb=>hf b (hb.imp (kK _) id)) hz,Ls.AI ls h2 (fun b hb=>hf b (hb.imp (kH _) id)) hz,rfl⟩
end
mutual
theorem L.Cg:∀(l:L) {d:Nat} {w:World} {fz Vp:Nat→Prop} {v:Value} {x:l.D} {o:List Nat},
  l.rd d w fz v x o→(∀b,fz b∨b∈o→Vp b)→l.rd 0 w Vp v x []
 | .int _,_,_,_,_,_,_,_,h,_=>by simp only[L.rd]at h ⊢;exact⟨h.1,trivial⟩
 | .bool,_,_,_,_,_,_,_,h,_=>by simp only[L.rd]at h ⊢;exact⟨h.1,trivial⟩
 | .str,_,_,_,_,_,_,_,h,_=>by simp only[L.rd]at h ⊢;exact⟨h.1,trivial⟩
 | .sl _ e,d,w,fz,Vp,v,x,o,h,hz=>by rw[L.IC]at h ⊢;exact CE.freeze h hz fun g y oi ho hr=>Ls.Cg e hr fun b hb=>hz b (hb.imp id (ho b))
theorem Ls.Cg:∀(ls:Ls) {d:Nat} {w:World} {fz Vp:Nat→Prop} {g:Nat→Option Value} {x:ls.D} {o:List Nat},
  ls.rd d w fz g x o→(∀b,fz b∨b∈o→Vp b)→ls.rd 0 w Vp g x []
 | .nil,_,_,_,_,_,_,_,_,_=>rfl
 | .one l,d,w,fz,Vp,g,x,o,h,hz=>by simp only[Ls.rd]at h ⊢;obtain⟨v,hg,h⟩:=h;exact⟨v,hg,L.Cg l h hz⟩
 | .cons l ls,d,w,fz,Vp,g,x,o,h,hz=>by simp only[Ls.rd]at h ⊢;obtain⟨v,o1,o2,hg,h1,h2,rfl⟩:=h;exact⟨v,[],[],hg,L.Cg l h1 (fun b hb=>hz b (hb.imp id (kK _))),Ls.Cg ls h2 (fun b hb=>hz b (hb.imp id (kH _))),rfl⟩
end
mutual
theorem L.Bn:∀(l:L) {w:World} {fz:Nat→Prop} {v:Value} {x:l.D} {o:List Nat},l.rd 0 w fz v x o→o=[]
 | .int _,_,_,_,_,_,h=>h.2
 | .bool,_,_,_,_,_,h=>h.2
 | .str,_,_,_,_,_,h=>h.2
 | .sl _ e,w,fz,v,x,o,h=>by rw[L.IC]at h;exact CE.zero h
theorem Ls.Bn:∀(ls:Ls) {w:World} {fz:Nat→Prop} {g:Nat→Option Value} {x:ls.D} {o:List Nat},ls.rd 0 w fz g x o→o=[]
 | .nil,_,_,_,_,_,h=>h
 | .one l,w,fz,g,x,o,h=>by simp only[Ls.rd]at h;obtain⟨v,hg,h⟩:=h;exact L.Bn l h
 | .cons l ls,w,fz,g,x,o,h=>by simp only[Ls.rd]at h;obtain⟨v,o1,o2,hg,h1,h2,rfl⟩:=h;rw[L.Bn l h1,Ls.Bn ls h2];rfl
end
mutual
theorem L.GR:∀(l:L) {d:Nat} {w:World} {fz:Nat→Prop} {v:Value} {x:l.D} {o:List Nat},l.rd d w fz v x o→∀b∈o,b<w.heap.size
 | .int _,_,_,_,_,_,_,h=>by simp only[L.rd]at h;rw[h.2];simp
 | .bool,_,_,_,_,_,_,h=>by simp only[L.rd]at h;rw[h.2];simp
 | .str,_,_,_,_,_,_,h=>by simp only[L.rd]at h;rw[h.2];simp
 | .sl _ e,d,w,fz,v,x,o,h=>by rw[L.IC]at h;exact CE.dep h fun g y oi hr=>Ls.GR e hr
theorem Ls.GR:∀(ls:Ls) {d:Nat} {w:World} {fz:Nat→Prop} {g:Nat→Option Value} {x:ls.D} {o:List Nat},ls.rd d w fz g x o→∀b∈o,b<w.heap.size
 | .nil,_,_,_,_,_,_,h=>by simp only[Ls.rd]at h;rw[h];simp
 | .one l,d,w,fz,g,x,o,h=>by simp only[Ls.rd]at h;obtain⟨v,hg,h⟩:=h;exact L.GR l h
 | .cons l ls,d,w,fz,g,x,o,h=>by
  simp only[Ls.rd]at h;obtain⟨v,o1,o2,hg,h1,h2,rfl⟩:=h;intro b hb;rcases lW.1 hb with hb|hb
  ·exact L.GR l h1 b hb
  ·exact Ls.GR ls h2 b hb
end
def AD(e:Ls)(d:Nat)(w:World)(fz:Nat→Prop)(v:Value)(xs:List e.D)(o:List Nat):Prop:=
 CE e.n (fun g y o=>e.rd (dec d) w fz g y o) (decide (0<d)) w fz v xs o
theorem L.Kr{t:TypeId}{e:Ls}{d:Nat}{w:World}{fz:Nat→Prop}{v:Value}{x:(L.sl t e).D}{o:List Nat}:
  (L.sl t e).rd d w fz v x o↔AD e d w fz v x o:=Iff.rfl
section
variable {e:Ls}{d:Nat}{w w':World}{fz Vp:Nat→Prop}{v:Value}{xs:List e.D}{o:List Nat}
theorem AD.frame(h:AD e d w fz v xs o)(hf:∀b,b∈o∨fz b→w'.heap[b]?=w.heap[b]?)(hz:∀b,fz b→Vp b):AD e d w' Vp v xs o:=L.AI (.sl 0 e) h hf hz
theorem AD.freeze(h:AD e d w fz v xs o)(hz:∀b,fz b∨b∈o→Vp b):AD e 0 w Vp v xs []:=L.Cg (.sl 0 e) h hz
theorem AD.zero(h:AD e 0 w fz v xs o):o=[]:=L.Bn (.sl 0 e) h
theorem AD.dep(h:AD e d w fz v xs o):∀b∈o,b<w.heap.size:=L.GR (.sl 0 e) h
end
end Go.Ev
namespace Go.Ev
structure Loc where
 r:Nat
 j:Nat
 AA:Nat
 gen:Nat
 p:List (Nat×Nat)
inductive LA where
 |bad
 |undef
 |CP
 |JQ
 |sc (l:L) (x:l.D)
 |ref (c:Loc)
 |win (c:Loc) (lo hi:Nat)
 |ptr (r j AA:Nat)
 |Bl (c:Loc)
 |D8 (e:Ls) (x:e.D) (off:Nat)
 |fn (f:FuncId)
 |JJ (t:TypeId) (c:Loc)
 |EI (g:FuncId) (ps qs:List (Nat×Nat))
 |arr (AA gen:Nat) (t:TypeId) (e:Ls) (xs:List e.D) (d:Nat)
inductive AV where
 |v (agg:Bool) (ls:List LA)
 |Dp (vs:List (Bool×List LA))
 |bx (ls:List LA)
structure Bo where
 box:Bool
 AA:Nat
 ls:List LA
structure St where
 sl:List AV
 ro:List Bo
 Bp:Nat
def nth{α:Type}(d:α):List α→Nat→α
 | [],_=>d
 |x::_,0=>x
 |_::xs,n+1=>nth d xs n
def CZ{α:Type}:List α→Nat→α→List α
 | [],_,_=>[]
 |_::xs,0,y=>y::xs
 |x::xs,n+1,y=>x::CZ xs n y
def isNil{α:Type}:List α→Bool
 | []=>true
 |_::_=>false
def has(ms:List Nat)(t:Nat):Bool:=match ms with
 | []=>false
 |m::ms=>m==t||has ms t
def dead:Bo:=⟨false,0,[]⟩
def St.slot(s:St)(t:Nat):AV:=nth (.v false [.bad]) s.sl t
def St.root(s:St)(r:Nat):Bo:=nth dead s.ro r
def St.leaf(s:St)(r j:Nat):LA:=nth .bad (s.root r).ls j
inductive Wr where
 |slot (t:Nat) (a:AV)
 |root (r:Nat) (x:Bo)
 |leaf (r j:Nat) (a:LA)
 |half (r j v:Nat)
def LA.Cj(v:Nat):LA→LA
 | .arr AA _ t e xs (_+1)=>.arr AA v t e xs 1
 |a=>a
def St.AF(s:St):Wr→St
 | .slot t a=>{ s with sl:=CZ s.sl t a }
 | .root r x=>{ s with ro:=CZ s.ro r x }
 | .leaf r j a=>{ s with ro:=CZ s.ro r { s.root r with ls:=CZ (s.root r).ls j a } }
 | .half r j v=>{ s with ro:=CZ s.ro r { s.root r with ls:=CZ (s.root r).ls j ((s.leaf r j).Cj v) } }
def St.app(s:St):List Wr→St
 | []=>s
 |w::ws=>(s.AF w).app ws
inductive Step(β:Type) where
 |none
 |go (s:β)
 |ND {α:Type} (m:Option α) (f:α→Step β)
 |iff (b:Bool) (x y:Step β)
def Step.run{β R:Type}(k:β→Option R):Step β→Option R
 | .none=>Option.none
 | .go s=>k s
 | .ND m f=>m.bind fun x=>(f x).run k
 | .iff b x y=>bif b then x.run k else y.run k
def Step.leads{β:Type}(t:β):Step β→Prop
 | .none=>False
 | .go s=>s=t
 | .ND m f=>∃x,m=some x∧(f x).leads t
 | .iff b x y=>match b with
  |true=>x.leads t
  |false=>y.leads t
theorem Step.C3{β R:Type}{k:β→Option R}{r:R}:∀(s:Step β),s.run k=some r→∃t,s.leads t∧k t=some r
 | .none,h=>by simp[Step.run]at h
 | .go s,h=>⟨s,rfl,h⟩
 | .ND m f,h=>by
  simp only[Step.run]at h;cases m with
  |none=>simp at h
  |some x=>obtain⟨t,a,b⟩:=Step.C3 (f x) h;exact⟨t,⟨x,rfl,a⟩,b⟩
 | .iff b x y,h=>by
  simp only[Step.run]at h;cases b with
  |true=>obtain⟨t,a,b⟩:=Step.C3 x h;exact⟨t,a,b⟩
  |false=>obtain⟨t,a,b⟩:=Step.C3 y h;exact⟨t,a,b⟩
variable {β:Type}
structure Ty where
 agg:Bool
 ls:Ls
 fs:List (Nat×TypeId)
 eq:Bool
def H5{α:Type}:List α→Nat→Option α
 | [],_=>none
 |x::_,0=>some x
 |_::xs,n+1=>H5 xs n
def E4:List L→Ls
 | []=>.nil
 | [l]=>.one l
 |l::m::r=>.cons l (E4 (m::r))
inductive PM where
 |val (agg:Bool) (ls:List L)
 |box (ls:List (L×Nat))
 |row (agg:Bool) (ls:List (L×Nat))
 |fn (f:FuncId)
def PM.ins:PM→List L
 | .val _ ls=>ls
 | .box ls=>ls.map (·.1)
 | .row _ ls=>ls.map (·.1)
 | .fn _=>[]
def PM.outs:PM→List (L×Nat)
 | .val _ _=>[]
 | .box ls=>ls
 | .row _ ls=>ls
 | .fn _=>[]
structure Sm where
 ps:List PM
 rs:List (Bool×List (L×Nat))
def Sm.ins(s:Sm):Ls:=E4 (s.ps.flatMap PM.ins)
def Sm.Gx(s:Sm):List (L×Nat):=s.rs.flatMap (·.2)++s.ps.flatMap PM.outs
def Sm.outs(s:Sm):Ls:=E4 (s.Gx.map (·.1))
def Sm.mk?(s:Sm):Bool:=match s.rs with
 | [(false,_::_::_)]=>true
 |_=>false
def PM.isVal:PM→Bool
 | .val _ _=>true
 |_=>false
def Sm.plain(s:Sm):Bool:=s.ps.all PM.isVal&&s.Gx.all fun p=>p.2==0
structure MB where
 s:Sm
 f:s.ins.D→Option s.outs.D
inductive KW where
 |box (ls:List L)
 |EI (g:FuncId) (bs:List (List L))
 |row
def KW.kinds:KW→List L
 | .box ls=>ls
 | .EI _ bs=>bs.flatten
 | .row=>[]
structure Ow where
 t:TypeId
 JG:List KW
 lt:(E4 (JG.flatMap KW.kinds)).D→Int→Int→Option Bool
structure Env where
 fn:FuncId→Option MB
 Pf:FuncId→FuncId→Option Ow
 PR:TypeId→Bool
structure Cx where
 ty:TypeId→Option Ty
 env:Env
 lock:Nat→Bool
 FH:Nat→Bool
 Jf:Nat→Bool
def JO:(e:Ls)→Nat→e.D→((t:TypeId)→(f:Ls)→List f.D→Step β)→Step β
 | .nil,_,_,_=>.none
 | .one l,0,x,k=>match l,x with
  | .sl t f,xs=>k t f xs
  |_,_=>.none
 | .one _,_+1,_,_=>.none
 | .cons l ls,0,x,k=>match l,x with
  | .sl t f,xs=>k t f xs.1
  |_,_=>.none
 | .cons _ ls,j+1,x,k=>JO ls j x.2 k
def O2(k:(t:TypeId)→(e:Ls)→List e.D→Nat→Step β):(p:List (Nat×Nat))→(t:TypeId)→(e:Ls)→List e.D→Nat→Step β
 | [],t,e,xs,d=>k t e xs d
 |(i,j)::p,_,e,xs,d=>.ND (xs[i]?) fun x=>JO e j x fun t f ys=>O2 k p t f ys (dec d)
def St.content(s:St)(c:Loc)(k:(t:TypeId)→(e:Ls)→List e.D→Nat→Step β):Step β:=match s.leaf c.r c.j with
 | .arr AA gen t e xs d=>if AA==c.AA&&(isNil c.p||gen==c.gen)then O2 k c.p t e xs d else .none
 |_=>.none
def NY{α:Type}(xs:List α)(i:Int):Option α:=if 0≤i then xs[i.toNat]? else none
def PG{α:Type}(xs:List α)(i:Int):Bool:=decide (0≤i)&&decide (i<xs.length)
def sub{α:Type}(xs:List α)(lo hi:Nat):List α:=(xs.drop lo).take (hi-lo)
def St.datum(s:St)(l:L)(a:LA)(k:l.D→Step β):Step β:=match a with
 | .sc m x=>match L.cast l (a:=m) x with
  |some y=>k y
  |none=>.none
 | .CP=>match l,k with
  | .sl _ _,k=>k []
  |_,_=>.none
 | .ref c=>s.content c fun t e xs _=>match L.cast l (a:=.sl t e) xs with
  |some y=>k y
  |none=>.none
 | .win c lo hi=>s.content c fun t e xs _=>match L.cast l (a:=.sl t e) (sub xs lo hi)with
  |some y=>k y
  |none=>.none
 |_=>.none
def St.data(s:St):List L→List LA→(List Lv→Step β)→Step β
 | [],[],k=>k []
 |l::ls,a::as,k=>s.datum l a fun x=>s.data ls as fun vs=>k (⟨l,x⟩::vs)
 |_,_,_=>.none
def Bu:(e:Ls)→Nat→List Lv→Option (e.D→e.D)
 | .nil=>fun _ _=>none
 | .one l=>fun off vs=>match off,vs with
  |0,[v]=>match L.cast l v.x with
   |some y=>some fun _=>y
   |none=>none
  |_,_=>none
 | .cons l ls=>fun off vs=>match off with
  |0=>match vs with
   | []=>none
   | [v]=>match L.cast l v.x with
    |some y=>some fun x=>(y,x.2)
    |none=>none
   |v::u::vs=>match L.cast l v.x,Bu ls 0 (u::vs)with
    |some y,some f=>some fun x=>(y,f x.2)
    |_,_=>none
  |off+1=>match Bu ls off vs with
   |some f=>some fun x=>(x.1,f x.2)
   |none=>none
def CL:(e:Ls)→Nat→((t:TypeId)→(f:Ls)→Option (List f.D→List f.D))→Option (e.D→e.D)
 | .nil=>fun _ _=>none
 | .one l=>fun j g=>match j with
  |0=>match l with
   | .sl t f=>g t f
   |_=>none
  |_+1=>none
 | .cons l ls=>fun j g=>match j with
  |0=>match l with
   | .sl t f=>match g t f with
    |some h=>some fun x=>(h x.1,x.2)
    |none=>none
   |_=>none
  |j+1=>match CL ls j g with
   |some h=>some fun x=>(x.1,h x.2)
   |none=>none
def Gw(vs:List Lv):(p:List (Nat×Nat))→(e:Ls)→Option (List e.D→List e.D)
 | [],_=>none
 |(i,j)::p,e=>match p with
  | []=>match(if j==0&&vs.length==e.n then pack e vs else none)with
   |some y=>some fun xs=>CZ xs i y
   |none=>match Bu e j vs with
    |some f=>some fun xs=>xs.modify i f
    |none=>none
  |_::_=>match CL e j fun _ f=>Gw vs p f with
   |some h=>some fun xs=>xs.modify i h
   |none=>none
def Hx(g:(t:TypeId)→(e:Ls)→Option (List e.D→List e.D)):(p:List (Nat×Nat))→(t:TypeId)→(e:Ls)→Option (List e.D→List e.D)
 | [],t,e=>g t e
 |(i,j)::p,_,e=>match CL e j fun t f=>Hx g p t f with
  |some h=>some fun xs=>xs.modify i h
  |none=>none
def Oc(x:Lv)(t:TypeId)(e:Ls):Option (List e.D→List e.D):=match L.cast (a:=x.l) (.sl t e) x.x with
 |some y=>some fun _=>y
 |none=>none
def ofConst:Value→LA
 | .int k n=>.sc (.int k) (show Int from n)
 | .bool b=>.sc .bool (show Bool from b)
 | .string s=>.sc .str (show List UInt8 from s.data.toList)
 | .slice none 0 0=>.CP
 | .pointer none=>.JQ
 |_=>.bad
def St.Au(s:St):Operand→AV
 | .tmp t=>s.slot t
 | .const (.agg cs)=>.v true (cs.toList.map ofConst)
 | .const v=>.v false [ofConst v]
 | .func f=>.v false [.fn f]
 | .global _=>.v false [.bad]
def AV.one?:AV→LA
 | .v false [a]=>a
 |_=>.bad
def St.Al(s:St)(x:Operand):LA:=(s.Au x).one?
def Bs:L→Bool
 | .sl _ _=>true
 |_=>false
def Br:Ls→Bool
 | .nil=>true
 | .one l => !Bs l
 | .cons l ls => !Bs l&&Br ls
def KV(v:Nat):L→LA
 | .int k=>.sc (.int k) (show Int from 0)
 | .bool=>.sc .bool (show Bool from false)
 | .str=>.sc .str (show List UInt8 from [])
 | .sl t e=>.arr v v t e [] 2
def LO:(l:L)→l.D
 | .int _=>(0:Int)
 | .bool=>false
 | .str=>([]:List UInt8)
 | .sl _ e=>([]:List e.D)
def Ff:(ls:Ls)→ls.D
 | .nil=>()
 | .one l=>LO l
 | .cons l ls=>(LO l,Ff ls)
def St.take(cx:Cx)(s:St)(v:Nat)(a:LA)(l:L)(k:LA→List (Nat×Nat)→Step β):Step β:=match a with
 | .sc m x=>if L.eq? m l then k (.sc m x) []else .none
 | .CP=>match l with
  | .sl t e=>k (.arr v v t e [] 2) []
  |_=>.none
 | .ref c=>match s.leaf c.r c.j with
  | .arr AA _ t e xs d=>match d with
   |0=>s.content c fun t e ys _=>if L.eq? l (.sl t e)then k (.sc (.sl t e) ys) []else .none
   |d+1=>if AA==c.AA&&isNil c.p && !cx.Jf c.r&&L.eq? l (.sl t e)then k (.arr v v t e xs (d+1)) [(c.r,c.j)]else .none
  |_=>.none
 | .win c lo hi=>match s.leaf c.r c.j with
  | .arr AA _ t e xs d=>if AA==c.AA&&isNil c.p && !cx.Jf c.r&&L.eq? l (.sl t e)then k (.arr v v t e (sub xs lo hi) d) [(c.r,c.j)]else .none
  |_=>.none
 | .ptr r j AA=>if(s.root r).box&&(s.root r).AA==AA then k (.ptr r j AA) []else .none
 | .fn f=>k (.fn f) []
 |_=>.none
def St.F9(cx:Cx)(s:St)(v:Nat):List L→List LA→(List LA→List (Nat×Nat)→Step β)→Step β
 | [],[],k=>k [] []
 |l::ls,a::as,k=>s.take cx v a l fun b us=>s.F9 cx v ls as fun bs vs=>if us.all fun u => !vs.contains u then k (b::bs) (us++vs)else .none
 |_,_,_=>.none
def gone(us:List (Nat×Nat)):List Wr:=us.map fun u=>.leaf u.1 u.2 .bad
end Go.Ev
namespace Go.Ev
variable {β:Type}
def one(a:LA):AV:=.v false [a]
def IY(k:IntKind)(n:Int):AV:=one (.sc (.int k) (show Int from n))
def IM(b:Bool):AV:=one (.sc .bool (show Bool from b))
def PH(s:List UInt8):AV:=one (.sc .str (show List UInt8 from s))
def isZero:Operand→Bool
 | .const (.int _ n)=>n==0
 |_=>true
def Ox(k:IntKind)(x y:Int):Int:=k.wrap (BitVec.ofInt k.bits x &&& BitVec.ofInt k.bits y).toNat
def Pe(k:IntKind)(x y:Int):Int:=k.wrap (BitVec.ofInt k.bits x ||| BitVec.ofInt k.bits y).toNat
def PA(k:IntKind)(x y:Int):Int:=k.wrap (BitVec.ofInt k.bits x ^^^ BitVec.ofInt k.bits y).toNat
def Of(k:IntKind)(x y:Int):Int:=k.wrap (x*2 ^ (min y.toNat k.bits))
def Og(k:IntKind)(x y:Int):Int:=x.fdiv (2 ^ (min y.toNat k.bits))
def MM(op:BinOp)(y:Operand)(i:IntKind)(a b:Int)(k:AV→Step β):Step β:=match op with
 | .quo=>if isZero y then .iff (b==0) .none (k (IY i (i.wrap (Int.tdiv a b))))else k (IY i (i.wrap (Int.tdiv a b)))
 | .rem=>if isZero y then .iff (b==0) .none (k (IY i (Int.tmod a b)))else k (IY i (Int.tmod a b))
 | .add=>k (IY i (i.wrap (a+b)))
 | .sub=>k (IY i (i.wrap (a-b)))
 | .mul=>k (IY i (i.wrap (a*b)))
 | .eql=>k (IM (a==b))
 | .neq=>k (IM (a != b))
 | .lss=>k (IM (decide (a<b)))
 | .leq=>k (IM (decide (a≤b)))
 | .gtr=>k (IM (decide (a>b)))
 | .geq=>k (IM (decide (a≥b)))
 | .and=>k (IY i (Ox i a b))
 | .or=>k (IY i (Pe i a b))
 | .xor=>k (IY i (PA i a b))
 | .shl=>.iff (decide (0≤b)) (k (IY i (Of i a b))) .none
 | .shr=>.iff (decide (0≤b)) (k (IY i (Og i a b))) .none
 |_=>.none
def OE(op:BinOp)(a b:Bool)(k:AV→Step β):Step β:=match op with
 | .eql=>k (IM (a==b))
 | .neq=>k (IM (a != b))
 |_=>.none
def OG(op:BinOp)(a b:List UInt8)(k:AV→Step β):Step β:=match op with
 | .eql=>k (IM (a==b))
 | .neq=>k (IM (!(a==b)))
 | .add=>.iff (decide (a.length+b.length≤4611686018427387904)) (k (PH (a++b))) .none
 |_=>.none
def Gz(cx:Cx)(t:TypeId)(l:L):Bool:=match cx.ty t with
 |some ty => !ty.agg&&Ls.eq? ty.ls (.one l)
 |none=>false
def isRow(cx:Cx)(t:TypeId)(e:Ls):Bool:=match cx.ty t with
 |some ty => !ty.agg&&match ty.ls with
  | .one (.sl _ f)=>Ls.eq? f e
  |_=>false
 |none=>false
def G9:BinOp→Bool
 | .shl=>true
 | .shr=>true
 |_=>false
def binop(isb:Bool)(op:BinOp)(y:Operand)(a b:LA)(k:AV→Step β):Step β:=match a,b with
 | .sc l a,.sc m b=>match l,a,m,b with
  | .int i,a,.int j,b=>if IntKind.code i==IntKind.code j||G9 op then MM op y i a b k else .none
  | .bool,a,.bool,b=>if isb then OE op a b k else .none
  | .str,a,.str,b=>OG op a b k
  |_,_,_,_=>.none
 |_,_=>.none
def Oe(l:L)(a b:LA):Option Bool:=match l with
 | .int k=>match a,b with
  | .sc (.int i) x,.sc (.int j) y=>if IntKind.code i==IntKind.code k&&IntKind.code j==IntKind.code k then some ((show Int from x)==(show Int from y))else none
  |_,_=>none
 | .bool=>match a,b with
  | .sc .bool x,.sc .bool y=>some ((show Bool from x)==(show Bool from y))
  |_,_=>none
 | .str=>match a,b with
  | .sc .str x,.sc .str y=>some ((show List UInt8 from x)==(show List UInt8 from y))
  |_,_=>none
 | .sl _ _=>none
def Fi:List L→List LA→List LA→Option Bool
 | [],[],[]=>some true
 |l::ls,a::as,b::bs=>match Oe l a b,Fi ls as bs with
  |some p,some q=>some (p&&q)
  |_,_=>none
 |_,_,_=>none
def MG(cx:Cx)(op:BinOp)(tx:TypeId)(as bs:List LA)(k:AV→Step β):Step β:=match cx.ty tx with
 |some ty=>if ty.eq then match Fi ty.ls.kinds as bs with
   |some q=>match op with
    | .eql=>k (IM q)
    | .neq=>k (IM (!q))
    |_=>.none
   |none=>.none
  else .none
 |none=>.none
def Mi(cx:Cx)(op:BinOp)(tx:TypeId)(e:Ls)(xs:List e.D)(k:AV→Step β):Step β:=match op with
 | .neq=>if isRow cx tx e then .iff (isNil xs) .none (k (IM true))else .none
 |_=>.none
def OT(a:Int):Int:=0-a
def Ng(a b:Int):Int:=bif decide (b<a)then b else a
def Nf(a b:Int):Int:=bif decide (b>a)then b else a
def seen(r j:Nat)(a:LA):LA:=match a with
 | .arr AA _ _ _ _ _=>.ref ⟨r,j,AA,AA,[]⟩
 |b=>b
def A5(r:Nat):Nat→List LA→List LA
 |_,[]=>[]
 |j,a::as=>seen r j a::A5 r (j+1) as
def IN(r j:Nat)(a:LA):LA:=match a with
 | .arr AA gen t e xs d=>match d with
  |0=>.sc (.sl t e) xs
  |_+1=>.ref ⟨r,j,AA,AA,[]⟩
 |b=>b
def BN(r:Nat):Nat→List LA→List LA
 |_,[]=>[]
 |j,a::as=>IN r j a::BN r (j+1) as
def Bq(c:Loc)(i:Nat)(d:Nat):Nat→List Lv→List LA
 |_,[]=>[]
 |off,v::vs=>(if Bs v.l&&decide (0<d)then LA.ref { c with p:=c.p++[(i,off)] }else .sc v.l v.x)::Bq c i d (off+1) vs
def Am:List (Nat×Nat)→Option (List (Nat×Nat)×Nat×Nat)
 | []=>none
 | [x]=>some ([],x.1,x.2)
 |x::y::r=>match Am (y::r)with
  |some (q,i,off)=>some (x::q,i,off)
  |none=>none
def St.J3(s:St)(r j:Nat):Nat:=match s.leaf r j with
 | .arr _ gen _ _ _ _=>gen
 |_=>0
def St.DG(s:St)(a:LA)(n:Nat)(k:List LA→Step β):Step β:=match a with
 | .ptr r j AA=>if(s.root r).box&&(s.root r).AA==AA&&decide (j+n≤(s.root r).ls.length)then k (BN r j (((s.root r).ls.drop j).take n))else .none
 | .D8 e x off=>k ((((unpack e x).drop off).take n).map fun v=>.sc v.l v.x)
 | .Bl c=>match Am c.p with
  |none=>.none
  |some (q,i,off)=>s.content { c with p:=q } fun t e xs d=>.ND (xs[i]?) fun x=>k (Bq { c with p:=q,gen:=s.J3 c.r c.j } i (dec d) off (((unpack e x).drop off).take n))
 |_=>.none
def St.FW(s:St)(a:AV)(n:Nat)(k:List LA→Step β):Step β:=match a with
 | .bx as=>if decide (n≤as.length)then k (as.take n)else .none
 |a=>s.DG a.one? n k
def MY(s:St)(as:List LA):Bool:=as.any fun a=>match a with
 | .ref c=>c.AA==1 && !(s.root c.r).box
 |_=>false
def St.alive(s:St):LA→Bool
 | .ptr r j AA=>(s.root r).box&&(s.root r).AA==AA
 | .Bl c=>match s.leaf c.r c.j with
  | .arr AA gen _ _ _ _=>AA==c.AA&&(decide (c.p.length≤1)||gen==c.gen)
  |_=>false
 | .D8 _ _ _=>true
 |_=>false
def St.setAt(s:St)(g:Nat)(c:Loc)(h:(e:Ls)→Option (List e.D→List e.D)):Option (List Wr):=match s.leaf c.r c.j with
 | .arr AA gen t e xs d=>if AA==c.AA&&(isNil c.p||gen==c.gen)then match h e with
   |some f=>some [.leaf c.r c.j (.arr AA g t e (f xs) d)]
   |none=>none
  else none
 |_=>none
def St.KO(s:St)(g:Nat)(c:Loc)(vs:List Lv):Option (List Wr):=match s.leaf c.r c.j with
 | .arr AA gen t e xs d=>if AA==c.AA&&(decide (c.p.length≤1)||gen==c.gen)&&decide (0<d)&&(decide (c.p.length≤1)||d==2)then match Gw vs c.p e with
   |some f=>some [.leaf c.r c.j (.arr AA g t e (f xs) d)]
   |none=>none
  else none
 |_=>none
def BD(r:Nat):Nat→List LA→List Wr
 |_,[]=>[]
 |j,a::as=>.leaf r j a::BD r (j+1) as
def St.half(s:St)(r j:Nat):Bool:=match s.leaf r j with
 | .arr _ _ _ _ _ 1=>true
 |_=>false
def ON:LA→Bool
 | .sc _ _=>true
 |_=>false
def St.C4(s:St)(v:Nat)(c:Loc)(ls:List L)(as:List LA)(k:List Wr→Step β):Step β:=match s.leaf c.r c.j with
 | .arr AA _ t e xs 1=>if AA==c.AA&&as.all ON then s.data ls as fun vs=>match Gw vs c.p e with
   |some f=>k [.leaf c.r c.j (.arr AA v t e (f xs) 1)]
   |none=>.none
  else .none
 |_=>.none
def St.GX(cx:Cx)(s:St)(v:Nat)(a:LA)(ls:List L)(as:List LA)(k:List Wr→Step β):Step β:=match a with
 | .ptr r j AA=>if(s.root r).box&&(s.root r).AA==AA&&decide (j+ls.length≤(s.root r).ls.length)then s.F9 cx v ls as fun bs us=>k (gone us++BD r j bs)else .none
 | .Bl c=>if ls.all fun l => !Bs l then s.data ls as fun vs=>match s.KO v c vs with
   |some ws=>k ws
   |none=>.none
  else match c.p with
   | [_]=>if s.half c.r c.j then s.C4 v c ls as k else s.F9 cx v ls as fun bs us=>if us.all fun u => !(u.1==c.r&&u.2==c.j)then match bs.mapM fun b=>match b with
      | .arr _ _ t e xs 2=>some (⟨.sl t e,xs⟩:Lv)
      | .sc l x=>if Bs l then none else some ⟨l,x⟩
      |_=>none with
     |some vs=>match s.leaf c.r c.j with
      | .arr AA _ t e xs 2=>if AA==c.AA then match Gw vs c.p e with
        |some f=>k (gone us++[.leaf c.r c.j (.arr AA v t e (f xs) 2)])
        |none=>.none
       else .none
      |_=>.none
     |none=>.none
    else .none
   |_=>.none
 |_=>.none
def BH:LA→LA
 | .arr AA gen t e xs _=>.arr AA gen t e xs 0
 |a=>a
def Na:LA→Bool
 | .arr _ _ _ _ _ (_+1)=>false
 |_=>true
def St.B2(s:St)(r:Nat):Bool:=(s.root r).ls.all Na
def DB(s:St)(r:Nat):List Wr:=if s.B2 r then []else BD r 0 ((s.root r).ls.map BH)
def Az(cx:Cx)(s:St):List Nat→Option (List Wr)
 | []=>some []
 |r::rs=>if cx.Jf r then none else match Az cx s rs with
  |some ws=>some (DB s r++ws)
  |none=>none
def H0:List LA→List Nat
 | []=>[]
 | .ref c::as=>if isNil c.p then H0 as else c.r::H0 as
 |_::as=>H0 as
def Mh(q:LA)(as:List LA):List Nat:=match q with
 | .ptr _ _ _=>H0 as
 |_=>[]
def GW(cx:Cx)(v:Nat)(s:St)(dst:Option Tmp)(q:LA)(ls:List L)(as:List LA)(fs:List Wr):Step (List Wr):=s.GX cx v q ls as fun ws=>match dst with
 |none=>.go (fs++ws)
 |some _=>.none
def OQ(a:LA)(k:Int→Step β):Step β:=match a with
 | .sc l x=>match l,x with
  | .str,x=>k (List.length (α:=UInt8) x:Int)
  |_,_=>.none
 |_=>.none
def lenOf(s:St)(a:LA)(k:Int→Step β):Step β:=match a with
 | .sc l x=>match l,x with
  | .sl _ e,x=>k (List.length (α:=e.D) x:Int)
  |_,_=>.none
 | .CP=>k 0
 | .ref c=>s.content c fun t e xs _=>k (xs.length:Int)
 | .win c lo hi=>s.content c fun t e xs _=>k ((sub xs lo hi).length:Int)
 |_=>.none
def asInt(a:LA)(k:Int→Step β):Step β:=match a with
 | .sc l n=>match l,n with
  | .int _,n=>k n
  |_,_=>.none
 |_=>.none
def Df(s:St)(x:Option Operand)(d:Int)(k:Int→Step β):Step β:=match x with
 |none=>k d
 |some x=>asInt (s.Al x) k
def ownRow(d v:Nat)(t:TypeId)(e:Ls)(xs:List e.D):List Wr:=[.root d ⟨false,v,[.arr v v t e xs 2]⟩,.slot d (one (.ref ⟨d,0,v,v,[]⟩))]
def GQ(d v:Nat)(ls:List LA):List Wr:=[.root d ⟨true,v,ls⟩,.slot d (one (.ptr d 0 v))]
def Ec(cx:Cx)(s:St)(a:LA)(t:TypeId)(e:Ls)(k:List e.D→List (Nat×Nat)→Step β):Step β:=
 if Br e then s.datum (.sl t e) a fun ys=>k ys []else match a with
  | .ref c=>match s.leaf c.r c.j with
   | .arr AA _ t' e' xs d=>if AA==c.AA&&isNil c.p && !cx.Jf c.r&&d==2 then match L.cast (a:=.sl t' e') (.sl t e) xs with
     |some ys=>k ys [(c.r,c.j)]
     |none=>.none
    else .none
   |_=>.none
  |_=>.none
def Di:Nat:=68719476736
def C7(cx:Cx)(s:St)(d v:Nat)(t:TypeId)(e:Ls)(a b:LA)(k:List Wr→Step β):Step β:=match a with
 | .CP=>Ec cx s b t e fun ys us=>.iff (decide (ys.length≤Di)) (k (gone us++ownRow d v t e ys)) .none
 | .ref c=>match s.leaf c.r c.j with
  | .arr AA _ t' e' xs dd=>if AA==c.AA&&isNil c.p && !cx.Jf c.r&&dd==2 then match L.cast (a:=.sl t' e') (.sl t e) xs with
    |some xs=>Ec cx s b t e fun ys us=>if us.contains (c.r,c.j)then .none else .iff (decide (List.length (α:=e.D) xs+ys.length≤Di)) (k (gone ((c.r,c.j)::us)++ownRow d v t e (List.append (α:=e.D) xs ys))) .none
    |none=>.none
   else .none
  |_=>.none
 | .win c lo hi=>match s.leaf c.r c.j with
  | .arr AA _ t' e' xs dd=>if AA==c.AA&&isNil c.p && !cx.Jf c.r&&dd==2&&Br e then match L.cast (a:=.sl t' e') (.sl t e) xs with
    |some xs=>Ec cx s b t e fun ys us=>if us.contains (c.r,c.j)then .none else .iff (decide ((sub (α:=e.D) xs lo hi).length+ys.length≤Di)) (k (gone ((c.r,c.j)::us)++ownRow d v t e (sub (α:=e.D) xs lo hi++ys))) .none
    |none=>.none
   else .none
  |_=>.none
 |_=>.none
def D1(cx:Cx)(s:St)(d v:Nat)(t:TypeId)(e:Ls)(c:Loc)(b:LA)(k:List Wr→Step β):Step β:=match s.leaf c.r c.j with
 | .arr AA gen t0 e0 xs 2=>if AA==c.AA&&gen==c.gen && !cx.Jf c.r&&Br e then
   s.content c fun t' e' ys0 _=>match L.cast (a:=.sl t' e') (.sl t e) ys0 with
    |some ys0=>s.datum (.sl t e) b fun ys=>.iff (decide (List.length (α:=e.D) ys0+List.length (α:=e.D) ys≤Di)) (k [.half c.r c.j v,.slot d (one (.sc (.sl t e) (List.append (α:=e.D) ys0 ys)))]) .none
    |none=>.none
  else .none
 |_=>.none
def nested(a:LA):Option Loc:=match a with
 | .ref c=>match c.p with
  | [_]=>some c
  |_=>none
 |_=>none
def EY(s:St)(a:LA):Option Loc:=match a with
 | .ref c=>match c.p with
  | []=>if s.half c.r c.j then some c else none
  |_=>none
 |_=>none
def D0(cx:Cx)(s:St)(d v:Nat)(t:TypeId)(e:Ls)(c:Loc)(b:LA)(k:List Wr→Step β):Step β:=match s.leaf c.r c.j with
 | .arr AA _ t' e' xs 1=>if AA==c.AA && !cx.Jf c.r&&ON b then match L.cast (a:=.sl t' e') (.sl t e) xs with
   |some xs=>s.datum (.sl t e) b fun ys=>.iff (decide (List.length (α:=e.D) xs+List.length (α:=e.D) ys≤Di)) (k (gone [(c.r,c.j)]++[.root d ⟨false,v,[.arr v v t e (List.append (α:=e.D) xs ys) 1]⟩,.slot d (one (.ref ⟨d,0,v,v,[]⟩))])) .none
   |none=>.none
  else .none
 |_=>.none
def Dq(cx:Cx)(s:St)(d v:Nat)(t:TypeId)(e:Ls)(a b:LA)(k:List Wr→Step β):Step β:=match nested a with
 |some c=>D1 cx s d v t e c b k
 |none=>match EY s a with
  |some c=>D0 cx s d v t e c b k
  |none=>C7 cx s d v t e a b k
def Ej:List LA→Nat→List LA→List LA
 |ls,_,[]=>ls
 |ls,j,a::as=>Ej (CZ ls j a) (j+1) as
def St.sure(s:St):LA→Bool
 | .sc _ _=>true
 | .CP=>true
 | .JQ=>true
 | .D8 _ _ _=>true
 | .fn _=>true
 | .ptr r j AA=>(s.root r).box&&(s.root r).AA==AA
 | .ref c=>match s.leaf c.r c.j with
  | .arr AA gen _ _ _ _=>AA==c.AA&&(isNil c.p||gen==c.gen)
  |_=>false
 | .win c _ _=>match s.leaf c.r c.j with
  | .arr AA gen _ _ _ _=>AA==c.AA&&(isNil c.p||gen==c.gen)
  |_=>false
 | .Bl c=>s.alive (.Bl c)
 |_=>false
def Hm(cx:Cx)(s:St)(fs:List (Nat×TypeId)):List (Nat×Operand)→List LA→Option (List LA)
 | [],ls=>some ls
 |(i,x)::ps,ls=>match s.Au x,H5 fs i with
  | .v g as,some (off,t)=>match cx.ty t with
   |some tf=>if as.length==tf.ls.n&&decide (off+tf.ls.n≤ls.length)&&(g||as.all s.sure)then Hm cx s fs ps (Ej ls off as)else none
   |none=>none
  |_,_=>none
def zeroOf(l:L):LA:=match l with
 | .sl _ _=>.CP
 |l=>.sc l (LO l)
def LN(p:Bool)(v:Nat)(l:L):LA:=match p with
 |true=>zeroOf l
 |false=>KV v l
def Cm(cx:Cx)(s:St)(v:Nat)(e:Ls):List (Nat×Operand)→Nat→(List e.D→List (Nat×Nat)→Step β)→Step β
 | [],_,k=>k [] []
 |(i,x)::ps,n,k=>if i==n then match s.Au x with
   | .v _ as=>(if Br e then s.data e.kinds as fun vs=>match pack e vs with
     |some y=>Cm cx s v e ps (n+1) fun ys us=>k (y::ys) us
     |none=>.none
    else s.F9 cx v e.kinds as fun bs vs=>match bs.mapM fun b=>match b with
      | .arr _ _ t e xs 2=>some (⟨.sl t e,xs⟩:Lv)
      | .sc l x=>if Bs l then none else some ⟨l,x⟩
      |_=>none with
     |some ws=>match pack e ws with
      |some y=>Cm cx s v e ps (n+1) fun ys us=>if vs.all fun u => !us.contains u then k (y::ys) (vs++us)else .none
      |none=>.none
     |none=>.none)
   |_=>.none
  else .none
def Cf:List LA→Option Loc
 | []=>none
 |a::as=>match nested a with
  |some c=>some c
  |none=>Cf as
def EA(s:St)(e:Ls)(ps:List (Nat×Operand)):Option (Operand×Loc):=if Br e then none else match ps with
 | [(0,x)]=>match s.Au x with
  | .v _ as=>match Cf as with
   |some c=>some (x,c)
   |none=>none
  |_=>none
 |_=>none
def KA(c:Loc)(a:LA):Bool:=match a with
 | .ref c'=>c'.r==c.r&&c'.j==c.j&&c'.AA==c.AA&&c'.gen==c.gen&&match c'.p with
  | [_]=>true
  |_=>false
 | .sc _ _=>true
 |_=>false
def C2(cx:Cx)(s:St)(d v:Nat)(t:TypeId)(e:Ls)(x:Operand)(c:Loc)(k:List Wr→Step β):Step β:=match s.Au x with
 | .v _ as=>match s.leaf c.r c.j with
  | .arr AA gen t0 e0 xs 2=>if AA==c.AA&&gen==c.gen && !cx.Jf c.r&&as.all (KA c)then s.data e.kinds as fun vs=>match pack e vs with
    |some y=>k [.half c.r c.j v,.slot d (one (.sc (.sl t e) (show List e.D from [y])))]
    |none=>.none
   else .none
  |_=>.none
 |_=>.none
def EU:List (L×Nat)→List LA→Bool
 | [],[]=>true
 |(l,m)::ls,a::as=>(match a with
  | .arr _ _ _ _ _ d=>d==m||(m==3&&d==2)
  | .sc _ _ => !Bs l||m==0
  |_=>false)&&EU ls as
 |_,_=>false
abbrev Tg:=Nat×Option Nat
def Tg.Dh(a b:Tg):Bool:=a.1==b.1&&match a.2,b.2 with
 |some i,some j=>i==j
 |_,_=>true
def Ft(rs:List Tg)(a:Tg):Bool:=rs.any fun b=>Tg.Dh b a
def Jb(s:St)(l:L)(d:Nat)(a:LA)(k:Lv→List Tg→Step β):Step β:=match l with
 | .sl t e=>match a with
  | .ref c=>if d != 4&&(match s.leaf c.r c.j with
    | .arr _ _ _ _ _ dd=>dd==d&&(isNil c.p||d==2)
    |_=>false)then s.datum (.sl t e) (.ref c) fun x=>k ⟨.sl t e,x⟩ [(c.r,some c.j)]else .none
  | .CP=>if d==4 then k ⟨.sl t e,([]:List e.D)⟩ []else .none
  |_=>.none
 |l=>s.datum l a fun x=>k ⟨l,x⟩ []
def Ez(s:St):List (L×Nat)→List LA→(List Lv→List Tg→Step β)→Step β
 | [],[],k=>k [] []
 |(l,d)::ls,a::as,k=>Jb s l d a fun x us=>Ez s ls as fun y rs=>if us.any (Ft rs)then .none else k (x::y) (us++rs)
 |_,_,_=>.none
def Aq(s:St):List PM→List AV→(List Lv→List Tg→Step β)→Step β
 | [],[],k=>k [] []
 | .val g ls::ps,.v g' as::vs,k=>if g==g' then s.data ls as fun x=>Aq s ps vs fun y rs=>k (x++y) rs else .none
 | .box ls::ps,.v false [.ptr r 0 AA]::vs,k=>
  if(s.root r).box&&(s.root r).AA==AA&&EU ls (s.root r).ls then
   s.data (ls.map (·.1)) (A5 r 0 (s.root r).ls) fun x=>Aq s ps vs fun y rs=>if Ft rs (r,none)then .none else k (x++y) ((r,none)::rs)
  else .none
 | .row g ls::ps,.v g' as::vs,k=>if g==g' then Ez s ls as fun x us=>Aq s ps vs fun y rs=>if us.any (Ft rs)then .none else k (x++y) (us++rs)else .none
 | .fn f::ps,.v false [.fn g]::vs,k=>if f==g then Aq s ps vs k else .none
 |_,_,_=>.none
def LA.roots:LA→List Nat
 | .ref c=>[c.r]
 | .win c _ _=>[c.r]
 | .Bl c=>[c.r]
 | .ptr r _ _=>[r]
 | .JJ _ c=>[c.r]
 | .EI _ ps qs=>ps.map (·.1)++qs.map (·.1)
 |_=>[]
def AV.roots:AV→List Nat
 | .v _ as=>as.flatMap LA.roots
 | .Dp vs=>vs.flatMap fun v=>v.2.flatMap LA.roots
 | .bx as=>as.flatMap LA.roots
def Aj:List PM→List AV→List Nat
 | .val _ _::ps,v::vs=>v.roots++Aj ps vs
 |_::ps,_::vs=>Aj ps vs
 |_,_=>[]
def Jp(d v:Nat):List (L×Nat)→List Lv→Nat→Option (List LA×List LA×List Lv)
 | [],vs,_=>some ([],[],vs)
 |(l,m)::ls,vs,j=>match vs with
  | []=>none
  |⟨l',x⟩::vs=>match Jp d v ls vs (j+1)with
    |some (as,rs,left)=>match l',x with
     | .sl t e,xs=>match m with
      |0=>some (.sc (.sl t e) xs::as,.bad::rs,left)
      |m+1=>some (.ref ⟨d,j,v,v,[]⟩::as,.arr v v t e xs (m+1)::rs,left)
     |l',x=>some (.sc l' x::as,.bad::rs,left)
    |none=>none
def D3(d v:Nat):List (Bool×List (L×Nat))→List Lv→Nat→Option (List (Bool×List LA)×List LA×List Lv)
 | [],vs,_=>some ([],[],vs)
 |(g,ls)::rs,vs,j=>match Jp d v ls vs j with
  |some (as,own,vs)=>match D3 d v rs vs (j+ls.length)with
   |some (bs,fk,vs)=>some ((g,as)::bs,own++fk,vs)
   |none=>none
  |none=>none
def BT(v m:Nat)(x:Lv):LA:=match x with
 |⟨.sl t e,xs⟩=>match m with
  |0=>.sc (.sl t e) xs
  |m+1=>.arr v v t e xs (m+1)
 |⟨l,x⟩=>.sc l x
def AZ(v:Nat):List (L×Nat)→List Lv→List LA
 |(_,m)::ls,x::xs=>BT v m x::AZ v ls xs
 |_,_=>[]
def Cq(a:LA)(v m:Nat)(x:Lv):LA:=match(bif m==3 then a else .bad)with
 | .arr AA _ t e _ d=>bif d==2 then(match L.cast (.sl t e) (a:=x.l) x.x with
  |some y=>.arr AA v t e y d
  |none=>BT v m x)else BT v m x
 |_=>BT v m x
def AY(s:St)(r v:Nat):Nat→List (L×Nat)→List Lv→List LA
 |j,(_,m)::ls,x::xs=>Cq (s.leaf r j) v m x::AY s r v (j+1) ls xs
 |_,_,_=>[]
def putRow(s:St)(v:Nat):List (L×Nat)→List LA→List Lv→Option (List Wr)
 | [],[],_=>some []
 |(l,d)::ls,a::as,x::vs=>match putRow s v ls as vs with
  |some ws=>match l with
   | .sl _ _=>if d==4 then some ws else match a with
    | .ref c=>match s.leaf c.r c.j with
     | .arr AA _ t0 e0 xs0 d0=>match Hx (Oc x) c.p t0 e0 with
      |some f=>some (.leaf c.r c.j (.arr AA v t0 e0 (f xs0) d0)::ws)
      |none=>none
     |_=>none
    |_=>none
   |_=>some ws
  |none=>none
 |_,_,_=>none
def AX(s:St)(v:Nat):List PM→List AV→List Lv→Option (List Wr)
 | [],[],[]=>some []
 | .val _ _::ps,_::as,vs=>AX s v ps as vs
 | .fn _::ps,_::as,vs=>AX s v ps as vs
 | .box ls::ps,.v false [.ptr r 0 AA]::as,vs=>match AX s v ps as (vs.drop ls.length)with
  |some ws=>some (BD r 0 (AY s r v 0 ls vs)++ws)
  |none=>none
 | .row _ ls::ps,.v _ bs::as,vs=>match putRow s v ls bs vs,AX s v ps as (vs.drop ls.length)with
  |some us,some ws=>some (us++ws)
  |_,_=>none
 |_,_,_=>none
def Oz:L→Bool
 | .sl _ e=>Br e
 |_=>true
def fresh(ls:List (L×Nat)):Bool:=ls.all fun p => !Bs p.1||p.2==2||p.2==3||(p.2==1&&Oz p.1)
def O6(lt:Int→Int→Option Bool)(x y:Int):Bool:=match lt x y with
 |some b=>b
 |none=>false
def M6(lt:Int→Int→Option Bool)(xs:List Int):Option (List Int):=
 bif decide (xs.length≤1)then some xs else bif decide (xs.length≤20)&&xs.all fun x=>xs.all fun y=>(lt x y).isSome then some (Go.Sort.insertionSort (O6 lt) xs.toArray 0 xs.length).toList else none
def N2:LA→Bool
 | .arr _ _ _ _ _ _=>true
 | .sc _ _=>true
 |_=>false
def DP(s:St)(not:Nat):List (List L)→List (Nat×Nat)→(List Lv→Step β)→Step β
 | [],[],k=>k []
 |ls::bs,(r,AA)::ps,k=>if(s.root r).box&&(s.root r).AA==AA&&r != not&&(s.root r).ls.length==ls.length&&(s.root r).ls.all N2 then
   s.data ls (A5 r 0 (s.root r).ls) fun x=>DP s not bs ps fun y=>k (x++y)
  else .none
 |_,_,_=>.none
def Bw(s:St)(c:Loc)(qs:List (Nat×Nat)):List KW→List (Nat×Nat)→(List Lv→Step β)→Step β
 | [],[],k=>k []
 | .box ls::cs,p::ps,k=>DP s c.r [ls] [p] fun x=>Bw s c qs cs ps fun y=>k (x++y)
 | .EI g bs::cs,(r,AA)::ps,k=>match(s.root r).ls with
  | [.EI g' aI _]=>if(s.root r).box&&(s.root r).AA==AA&&r != c.r&&g==g'&&aI.all fun q=>qs.contains q then DP s c.r bs aI fun x=>Bw s c qs cs ps fun y=>k (x++y)else .none
  |_=>.none
 | .row::cs,(r,AA)::ps,k=>if(s.root r).box&&(s.root r).AA==AA&&r==c.r&&c.j==0&&(s.root r).ls.length==1 then Bw s c qs cs ps k else .none
 |_,_,_=>.none
def Dw(cx:Cx)(s:St)(d v:Nat)(f:FuncId)(vs:List AV)(k:List Wr→Step β):Step β:=match vs with
 | [.v false [.JJ t c],.v false [.EI g ps qs]]=>match cx.env.Pf f g with
  |some σ=>match s.leaf c.r c.j with
   | .arr AA _ t0 (.one (.int .i64)) xs 2=>if AA==c.AA&&isNil c.p && !cx.Jf c.r&&t==σ.t then Bw s c qs σ.JG ps fun x=>match pack (E4 (σ.JG.flatMap KW.kinds)) x with
     |some y=>.ND (M6 (σ.lt y) (show List Int from xs)) fun zs=>k [.leaf c.r c.j (.arr AA v t0 (.one (.int .i64)) (show List Int from zs) 2),.slot d (.Dp [])]
     |none=>.none
    else .none
   |_=>.none
  |none=>.none
 |_=>.none
def Dj(s:St):List AV→Option (List (Nat×Nat))
 | []=>some []
 | .v false [.ptr r 0 AA]::vs=>if(s.root r).box&&(s.root r).AA==AA then match Dj s vs with
   |some ps=>some ((r,AA)::ps)
   |none=>none
  else none
 |_::_=>none
def behind(s:St):List (Nat×Nat)→List (Nat×Nat)
 | []=>[]
 |(r,_)::ps=>(match(s.root r).ls with
  | [.EI _ qs _]=>qs
  |_=>[])++behind s ps
def Ku(bs:List (Bool×List LA)):AV:=match bs with
 | [(g,as)]=>.v g as
 |bs=>.Dp bs
def call(cx:Cx)(s:St)(d v:Nat)(f:FuncId)(vs:List AV)(k:List Wr→Step β):Step β:=match cx.env.fn f with
 |none=>Dw cx s d v f vs k
 |some g=>if g.s.mk? then Aq s g.s.ps vs fun x _=>if g.s.plain&&isNil (Aj g.s.ps vs)then match pack g.s.ins x with
   |none=>.none
   |some y=>.ND (g.f y) fun z=>k (GQ d v (AZ v g.s.Gx (unpack g.s.outs z)))
  else .none
  else Aq s g.s.ps vs fun x ws=>if(Aj g.s.ps vs).all fun r => !Ft ws (r,none)then match pack g.s.ins x with
   |none=>.none
   |some y=>.ND (g.f y) fun z=>match D3 d v g.s.rs (unpack g.s.outs z) 0 with
    |none=>.none
    |some (bs,own,left)=>match AX s v g.s.ps vs left,(if fresh g.s.Gx then some []else Az cx s (Aj g.s.ps vs))with
     |some ws,some fs=>k (fs++ws++[.root d ⟨false,v,own⟩,.slot d (Ku bs)])
     |_,_=>.none
  else .none
def IQ(cx:Cx)(s:St)(t:TypeId)(q:LA)(p:AV)(dst:Option Tmp):Step (List Wr):=match p with
 | .v false [.EI g ps qs]=>if cx.env.PR t then match q with
  | .ptr r j AA=>match dst with
   |none=>if(s.root r).box&&(s.root r).AA==AA&&decide (j+1≤(s.root r).ls.length)then .go [.leaf r j (.EI g ps qs)]else .none
   |some _=>.none
  |_=>.none
 else .none
 |_=>.none
def Hu:AV→Bool
 | .v false [.CP]=>true
 |_=>false
def bytesOf(xs:List Int):List UInt8:=xs.map fun n=>UInt8.ofNat n.toNat
def Ct(b:List UInt8):List Int:=b.map fun c=>(c.toNat:Int)
def LL(cx:Cx)(v:Nat)(dst:Option Tmp)(t0:TypeId)(y:LA):Step (List Wr):=match y,dst with
 | .sc .str b,some d=>if Gz cx t0 (.int .u8)then .go (ownRow d v t0 (.one (.int .u8)) (Ct b))else .none
 |_,_=>.none
def AB(cx:Cx)(v:Nat)(o:Oper)(s:St):Step (List Wr):=
 let out (a:AV):Step (List Wr):=match o.dst with
  |some d=>.go [.slot d a]
  |none=>.go []
 match o.op with
 | .move x=>if Hu (s.Au x)then match cx.ty o.type,o.dst with
   |some ty,some d=>if ty.agg then .none else match ty.ls with
    | .one (.sl t e)=>.go (ownRow d v t e [])
    |_=>.none
   |_,_=>.none
  else out (s.Au x)
 | .assign x=>match o.dst with
  |none=>.none
  |some d=>match s.Al x with
   | .sc l x=>.go [.slot d (one (.sc l x))]
   | .ptr r j AA=>.go [.slot d (one (.ptr r j AA))]
   | .fn f=>.go [.slot d (one (.fn f))]
   | .JQ=>.go [.slot d (one .JQ)]
   | .Bl c=>.go [.slot d (one (.Bl c))]
   | .D8 e x off=>.go [.slot d (one (.D8 e x off))]
   |a=>if cx.Jf d then .none else match cx.ty o.type with
    |some ty=>match ty.ls with
     | .one l=>s.take cx v a l fun b us=>match b with
      | .arr _ _ t e xs dd=>.go (gone us++[.root d ⟨false,v,[.arr v v t e xs dd]⟩,.slot d (one (.ref ⟨d,0,v,v,[]⟩))])
      |_=>.none
     |_=>.none
    |none=>.none
 | .pick c a b=>match s.Al c with
  | .sc .bool t=>.iff t (out (s.Au a)) (out (s.Au b))
  |_=>.none
 | .alloc t=>match cx.ty t,o.dst with
  |some ty,some d=>.go (GQ d v (ty.ls.kinds.map (LN (cx.Jf d) v)))
  |none,some d=>if cx.env.PR t then .go (GQ d v [.bad])else .none
  |_,_=>.none
 | .box t x=>match cx.ty t,o.dst,s.Au x with
  |some ty,some d,.v g as=>if g&&MY s as then .go [.slot d (.bx as)]else s.F9 cx v ty.ls.kinds as fun bs us=>if us.all fun u => !(u.1==d)then .go (gone us++GQ d v bs)else .none
  |_,_,_=>.none
 | .build t parts=>match cx.ty t with
  |some ty=>match(if ty.agg then Hm cx s ty.fs parts.toList (ty.ls.kinds.map zeroOf)else none)with
   |some ls=>out (.v true ls)
   |none=>.none
  |none=>.none
 | .buildSlice t len parts=>match cx.ty t,o.dst with
  |some ty,some d=>if ty.agg then .none else match ty.ls with
   | .one (.sl t e)=>if len==parts.size&&decide (len*e.n≤16777216)then(match EA s e parts.toList with
    |some (x,c)=>C2 cx s d v t e x c fun ws=>.go ws
    |none=>Cm cx s v e parts.toList 0 fun ys us=>if us.all fun u => !(u.1==d)then .go (gone us++ownRow d v t e ys)else .none)else .none
   |_=>.none
  |_,_=>.none
 | .load t x=>match cx.ty t with
  |some ty=>s.FW (s.Au x) ty.ls.n fun as=>if as.length==ty.ls.n then out (.v ty.agg as)else .none
  |none=>.none
 | .store t x y=>match cx.ty t,s.Au y with
  |some ty,.v _ as=>match Mh (s.Al x) as with
   | []=>GW cx v s o.dst (s.Al x) ty.ls.kinds as []
   |r::rs=>match Az cx s (r::rs)with
    |some fs=>GW cx v (s.app fs) o.dst (s.Al x) ty.ls.kinds as fs
    |none=>.none
  |none,p=>IQ cx s t (s.Al x) p o.dst
  |_,_=>.none
 | .makeInterface t x=>match cx.ty t,s.Al x with
  |some ty,.ref c=>if ty.agg then .none else match ty.ls with
   | .one (.sl _ _)=>out (one (.JJ t c))
   |_=>.none
  |_,_=>.none
 | .makeFunc (.func g) first captured=>if first.size==0 then match Dj s (captured.toList.map s.Au)with
   |some ps=>out (one (.EI g ps (behind s ps)))
   |none=>.none
  else .none
 | .nilCheck x=>match s.Au x with
  | .bx as=>out (.bx as)
  |a=>if s.alive a.one? then out (one a.one?)else .none
 | .binOp op tx x y _=>match s.Au x,s.Au y with
  | .v true as,.v true bs=>MG cx op tx as bs fun a=>out a
  | .v false [.sc (.sl t e) xs],.v false [.CP]=>Mi cx op tx e xs fun a=>out a
  |p,q=>binop (Gz cx tx .bool) op y p.one? q.one? fun a=>out a
 | .unOp op _ x=>match op,s.Al x with
  | .not,.sc .bool b=>out (IM (!b))
  | .neg,.sc (.int k) n=>out (IY k (k.wrap (OT n)))
  |_,_=>.none
 | .convert a b x=>match cx.ty a,cx.ty b,s.Al x with
  |some ta,some ty,.sc (.int _) n=>if ty.agg then .none else match ty.ls with
   | .one (.int k)=>out (IY k (k.wrap n))
   |_=>.none
  |some ta,some ty,y=>if ta.agg||ty.agg then .none else match ta.ls,ty.ls with
   | .one (.sl t0 (.one (.int .u8))),.one .str=>if Gz cx t0 (.int .u8)then s.datum (.sl t0 (.one (.int .u8))) y fun xs=>out (PH (bytesOf xs))else .none
   | .one .str,.one (.sl t0 (.one (.int .u8)))=>LL cx v o.dst t0 y
   |_,_=>.none
  |_,_,_=>.none
 | .makeSlice t l c=>match cx.ty t,o.dst with
  |some ty,some d=>if ty.agg then .none else match ty.ls with
   | .one (.sl t e)=>asInt (s.Al l) fun n=>asInt (s.Al c) fun m=>
     .iff (decide (0≤n)&&decide (n≤(Di:Int))&&decide (m=n)) (.go (ownRow d v t e (List.replicate n.toNat (Ff e)))) .none
   |_=>.none
  |_,_=>.none
 | .slice ti x lo hi none=>match s.Al x with
  | .sc .str b=>if Gz cx ti .str then Df s lo 0 fun l=>Df s hi (List.length (α:=UInt8) b:Int) fun h=>
    .iff (decide (0≤l)&&decide (l≤h)&&decide (h≤(List.length (α:=UInt8) b:Int))) (out (PH (sub (α:=UInt8) b l.toNat h.toNat))) .none
   else .none
  | .sc (.sl t e) b=>if isRow cx ti e then Df s lo 0 fun l=>Df s hi (List.length (α:=e.D) b:Int) fun h=>
    .iff (decide (0≤l)&&decide (l≤h)&&decide (h≤(List.length (α:=e.D) b:Int))) (out (one (.sc (.sl t e) (sub (α:=e.D) b l.toNat h.toNat)))) .none
   else .none
  | .ref c=>s.content c fun t e xs _=>if isRow cx ti e then Df s lo 0 fun l=>Df s hi (xs.length:Int) fun h=>
    .iff (decide (0≤l)&&decide (l≤h)&&decide (h≤(xs.length:Int))) (out (one (.win c l.toNat h.toNat))) .none
   else .none
  |_=>.none
 | .fieldAddr t x f=>match cx.ty t with
  |some ty=>match(if ty.agg then H5 ty.fs f else none)with
   |some (fo,ft)=>match cx.ty ft with
    |some tf=>if tf.ls.n==0 then .none else match s.Au x with
     | .bx as=>out (.bx (as.drop fo))
     |a=>if !s.alive a.one? then .none else match a.one? with
     | .ptr r j AA=>out (one (.ptr r (j+fo) AA))
     | .D8 e y j=>out (one (.D8 e y (j+fo)))
     | .Bl c=>match Am c.p with
      |some (q,i,off)=>out (one (.Bl { c with p:=q++[(i,off+fo)] }))
      |none=>.none
     |_=>.none
    |none=>.none
   |none=>.none
  |none=>.none
 | .field t x f=>match cx.ty t,s.Au x with
  |some ty,.v true as=>match(if ty.agg then H5 ty.fs f else none)with
   |some (fo,ft)=>match cx.ty ft with
    |some tf=>if decide (fo+tf.ls.n≤as.length)then out (.v tf.agg ((as.drop fo).take tf.ls.n))else .none
    |none=>.none
   |none=>.none
  |_,_=>.none
 | .indexAddr ti x i=>asInt (s.Al i) fun n=>match s.Al x with
  | .sc (.sl t e) xs=>if isRow cx ti e then .ND (NY (α:=e.D) xs n) fun y=>out (one (.D8 e y 0))else .none
  | .ref c=>s.content c fun t e xs _=>if isRow cx ti e then .iff (PG xs n) (out (one (.Bl { c with p:=c.p++[(n.toNat,0)] }))) .none else .none
  | .win c lo hi=>s.content c fun t e xs _=>if isRow cx ti e then .iff (PG (sub xs lo hi) n) (out (one (.Bl { c with p:=c.p++[(lo+n.toNat,0)] }))) .none else .none
  |_=>.none
 | .index ti x i=>asInt (s.Al i) fun n=>match s.Al x with
  | .sc .str b=>if Gz cx ti .str then .ND (NY (α:=UInt8) b n) fun y=>out (IY .u8 (y.toNat:Int))else .none
  |_=>.none
 | .extract x i=>match s.Au x with
  | .Dp vs=>match H5 vs i with
   |some (g,as)=>out (.v g as)
   |none=>.none
  |_=>.none
 | .call c=>match c.callee with
  | .builtin .len=>match c.args.toList,c.argTypes.toList with
   | [x],[t]=>match cx.ty t with
    |some ty=>if ty.agg then .none else match ty.ls with
     | .one .str=>OQ (s.Al x) fun n=>out (IY .i64 n)
     | .one (.sl _ _)=>lenOf s (s.Al x) fun n=>out (IY .i64 n)
     |_=>.none
    |none=>.none
   |_,_=>.none
  | .builtin .append=>match c.args.toList,c.argTypes.toList,cx.ty o.type,o.dst with
   | [x,y],[t1,t2],some ty,some d=>match ty.ls with
    | .one (.sl t e)=>if t1==t2&&isRow cx t1 e then Dq cx s d v t e (s.Al x) (s.Al y) fun ws=>.go ws else .none
    |_=>.none
   |_,_,_,_=>.none
  | .builtin .min=>match c.args.toList with
   | [x,y]=>match s.Al x,s.Al y with
    | .sc (.int k) a,.sc (.int j) b=>out (IY k (Ng a b))
    |_,_=>.none
   |_=>.none
  | .builtin .max=>match c.args.toList with
   | [x,y]=>match s.Al x,s.Al y with
    | .sc (.int k) a,.sc (.int j) b=>out (IY k (Nf a b))
    |_,_=>.none
   |_=>.none
  | .value f=>match s.Al f,o.dst with
   | .fn f,some d=>call cx s d v f (c.args.toList.map s.Au) fun ws=>.go ws
   |_,_=>.none
  |_=>.none
 |_=>.none
end Go.Ev
namespace Go.Ev
variable {β:Type}
def number{α:Type}:Nat→List α→List (Nat×α)
 |_,[]=>[]
 |n,x::xs=>(n,x)::number (n+1) xs
inductive VP where
 |slot (s:Nat) (l:L)
 |own (s:Nat) (t:TypeId) (e:Ls) (d:Nat) (k:Bool)
 |box (r:Nat) (ls:List (Option (L×Nat)))
def VP.kinds:VP→List L
 | .slot _ l=>[l]
 | .own _ t e _ _=>[.sl t e]
 | .box _ ls=>ls.filterMap fun x=>x.map (·.1)
def VP.roots:VP→List Nat
 | .slot _ _=>[]
 | .own s _ _ _ _=>[s]
 | .box r _=>[r]
def VP.AO:VP→List Nat
 | .slot s _=>[s]
 | .own s _ _ _ _=>[s]
 | .box _ _=>[]
def DJ(ps:List VP):Ls:=E4 (ps.flatMap VP.kinds)
def Du(s:St):List (Option (L×Nat))→List LA→(List Lv→Step β)→Step β
 | [],[],k=>k []
 |none::ls,_::as,k=>Du s ls as k
 |some (l,d)::ls,a::as,k=>match a with
  | .arr AA _ t e xs d'=>if(d==0||d==d')&&(!(d==3)||AA==1)then match L.cast (a:=.sl t e) l xs with
    |some y=>Du s ls as fun vs=>k (⟨l,y⟩::vs)
    |none=>.none
   else .none
  |a=>match d with
   |0=>s.datum l a fun y=>Du s ls as fun vs=>k (⟨l,y⟩::vs)
   |_+1=>match l with
    | .sl _ _=>.none
    |l=>s.datum l a fun y=>Du s ls as fun vs=>k (⟨l,y⟩::vs)
 |_,_,_=>.none
def St.still(s:St)(l:L)(a:LA):Bool:=match l with
 | .sl _ _=>match a with
  | .sc _ _=>true
  | .CP=>true
  | .ref c=>match s.leaf c.r c.j with
   | .arr _ _ _ _ _ 0=>true
   |_=>false
  | .win c _ _=>match s.leaf c.r c.j with
   | .arr _ _ _ _ _ 0=>true
   |_=>false
  |_=>false
 |_=>true
def KL(s:St)(v:VP)(k:List Lv→Step β):Step β:=match v with
 | .slot t l=>if s.still l (s.slot t).one? then s.datum l (s.slot t).one? fun x=>k [⟨l,x⟩]else .none
 | .own t ty e d k0=>match s.slot t,s.root t with
  | .v false [.ref c],⟨false,_,[.arr AA _ t' e' xs d']⟩=>if c.r==t&&c.j==0&&isNil c.p&&AA==c.AA&&d==d'&&(!k0||AA==1)then match L.cast (a:=.sl t' e') (.sl ty e) xs with
    |some y=>k [⟨.sl ty e,y⟩]
    |none=>.none
   else .none
  |_,_=>.none
 | .box r ls=>if(s.root r).box then Du s ls (s.root r).ls k else .none
def K8(s:St):List VP→(List Lv→Step β)→Step β
 | [],k=>k []
 |v::vs,k=>KL s v fun x=>K8 s vs fun y=>k (x++y)
def Aw(ps:List VP)(s:St):Option (DJ ps).D:=(K8 s ps .go).run (pack (DJ ps))
def Fa(v:Nat)(k:Bool):Nat:=match k with
 |true=>1
 |false=>v
def CD(v d:Nat)(k:Bool)(x:Lv):LA:=match BT v d x with
 | .arr _ g t e xs d=>.arr (Fa v k) g t e xs d
 |a=>a
def AQ(v:Nat):List (Option (L×Nat))→List Lv→List LA
 | [],_=>[]
 |none::ls,vs=>.bad::AQ v ls vs
 |some (l,d)::ls,x::vs=>CD v d (d==3) x::AQ v ls vs
 |some _::ls,[]=>.bad::AQ v ls []
def B0(v:Nat)(s:St):List VP→List Lv→List Wr
 | [],_=>[]
 | .slot t _::ps,x::vs=>.slot t (one (.sc x.l x.x))::B0 v s ps vs
 | .own t ty e d k::ps,x::vs=>.root t ⟨false,v,[CD v d k x]⟩::.slot t (one (.ref ⟨t,0,Fa v k,v,[]⟩))::B0 v s ps vs
 | .box r ls::ps,vs=>.root r ⟨true,(s.root r).AA,AQ v ls vs⟩::B0 v s ps (vs.drop (ls.filterMap id).length)
 |_,[]=>[]
def LA.clean(ms ch:Nat→Bool)(a:LA):LA:=match a with
 | .ref c=>if ch c.r then .bad else .ref c
 | .win c lo hi=>if ch c.r then .bad else .win c lo hi
 | .Bl c=>if ch c.r then .bad else .Bl c
 | .ptr r j AA=>if ms r then .bad else .ptr r j AA
 | .JJ t c=>if ch c.r then .bad else .JJ t c
 | .EI g ps qs=>if ps.any fun p=>ms p.1 then .bad else .EI g ps qs
 |a=>a
def AV.clean(ms ch:Nat→Bool):AV→AV
 | .v g as=>.v g (as.map (LA.clean ms ch))
 | .Dp _=>one .bad
 | .bx _=>one .bad
def Kj{α γ:Type}(f:Nat→α→γ):Nat→List α→List γ
 |_,[]=>[]
 |n,x::xs=>f n x::Kj f (n+1) xs
def base(ms:List Nat)(ps:List VP)(s:St):St:=
 {sl:=Kj (fun t x=>if has ms t then one .bad else x.clean (fun r=>has ms r||has (ps.flatMap VP.AO) r) fun r=>has ms r||has (ps.flatMap VP.roots) r) 0 s.sl
  ro:=Kj (fun r x=>if has ms r then dead else x) 0 s.ro
  Bp:=s.Bp+1 }
def Bz(ms:List Nat)(ps:List VP)(s:St)(x:(DJ ps).D):St:=(base ms ps s).app (B0 s.Bp s ps (unpack (DJ ps) x))
def Cx.in(cx:Cx)(ms:List Nat)(ps:List VP):Cx:=
 { cx with lock:=fun r=>cx.lock r || !(has ms r||has (ps.flatMap VP.roots) r),FH:=fun t=>cx.FH t || !(has ms t||has (ps.flatMap VP.AO) t) }
def distinct:List Nat→Bool
 | []=>true
 |x::xs => !has xs x&&distinct xs
def Cr(cx:Cx)(ms:List Nat)(ps:List VP):Bool:=distinct (ps.flatMap VP.roots)&&distinct (ps.flatMap VP.AO)&&ps.all fun p=>match p with
 | .slot s _ => !cx.FH s
 | .own s _ _ _ _ => !cx.lock s && !cx.FH s && !cx.Jf s
 | .box r _ => !has ms r && !cx.lock r && !has (ps.flatMap VP.AO) r
structure An where
 PS:Nat→Option (List VP)
 AT:Nat→Option (List VP×Bool)
 Pk:Nat→Option (List VP×Bool)
 pre:Nat→List Nat
def Gv:List (Nat×Oper)→List Nat
 | []=>[]
 |(_,o)::r=>match o.dst with
  |some d=>d::Gv r
  |none=>Gv r
def CF:Code→List Nat
 | .region _ ops _=>Gv (number 0 ops.toList)
 | .seq a b=>CF a++CF b
 | .cond _ a b=>CF a++CF b
 | .block _ c=>CF c
 | .loop c=>CF c
 |_=>[]
def GK:Code→Nat
 | .region id _ _=>id
 | .seq a _=>GK a
 | .block _ c=>GK c
 | .loop c=>GK c
 |_=>0
def OP:Code→Nat
 | .seq a _=>3*GK a+3
 | .block id _=>3*id+4
 | .cond _ x y=>3*(match GK x with
  |0=>GK y
  |n+1=>n+1)+5
 |_=>0
def mask(t:Nat):Nat:=2 ^ t
def JX(r:Nat):Nat:=2 ^ (4*r+1)
def J5(r:Nat):Nat:=2 ^ (4*r+3)
def AV.mask(a:AV):Nat:=a.roots.foldr (fun r m=>Nat.lor (JX r) (Nat.lor (J5 r) m)) 0
def BX(ops:Array Oper)(o:Oper):Nat:=match o.guard with
 |some (g,_)=>match(ops[g]?).bind (·.dst)with
  |some t=>2 ^ (2*t)
  |none=>0
 |none=>0
def A9(ops:Array Oper)(o:Oper)(s:St):Nat:=match o.op with
 | .move (.tmp t)=>Nat.lor (2 ^ (2*t)) (BX ops o)
 | .extract (.tmp t) _=>Nat.lor (2 ^ (2*t)) (BX ops o)
 | .field _ (.tmp t) _=>Nat.lor (2 ^ (2*t)) (BX ops o)
 | .load _ (.tmp t)=>Nat.lor (2 ^ (2*t)) (Nat.lor (match s.slot t with
  | .v _ [.ptr r _ _]=>JX r
  |a=>a.mask) (BX ops o))
 | .fieldAddr _ (.tmp t) _=>Nat.lor (2 ^ (2*t)) (Nat.lor (match s.slot t with
  | .v _ [.ptr r _ _]=>JX r
  |a=>a.mask) (BX ops o))
 |_=>o.op.operands.toList.foldr (fun x m=>match x with
  | .tmp t=>Nat.lor (2 ^ (2*t)) (Nat.lor (s.slot t).mask m)
  |_=>m) (BX ops o)
def Wr.mask:Wr→Nat
 | .slot t _=>2 ^ (2*t)
 | .root r _=>Nat.lor (JX r) (J5 r)
 | .leaf r _ _=>Nat.lor (JX r) (J5 r)
 | .half r _ _=>J5 r
def AE(ws:List Wr):Nat:=ws.foldr (fun w m=>Nat.lor w.mask m) 0
def bit(m i:Nat):Bool:=m.testBit i
def E2:List Oper→List Nat→List Nat
 | [],acc=>acc
 |o::r,acc=>E2 r (acc++[o.after.toList.foldr (fun e m=>if Region.binds .any e then Nat.lor (2 ^ e.on) (Nat.lor (nth 0 acc e.on) m)else m) 0])
def indep(b rm wm:Nat):Nat→List (Nat×Nat)→Bool
 |_,[]=>true
 |j,(r,w)::lg=>(bit b j||(Nat.land w (Nat.lor rm wm)==0&&Nat.land r wm==0))&&indep b rm wm (j+1) lg
def LA.AG:LA→List Nat
 | .ref c=>[c.AA,c.gen]
 | .win c _ _=>[c.AA,c.gen]
 | .Bl c=>[c.AA,c.gen]
 | .ptr _ _ AA=>[AA]
 | .JJ _ c=>[c.AA,c.gen]
 | .EI _ ps _=>ps.map (·.2)
 | .arr AA gen _ _ _ _=>[AA,gen]
 |_=>[]
def AV.AG:AV→List Nat
 | .v _ as=>as.flatMap LA.AG
 | .Dp vs=>vs.flatMap fun v=>v.2.flatMap LA.AG
 | .bx as=>as.flatMap LA.AG
def Bo.AG(r:Bo):List Nat:=r.AA::r.ls.flatMap LA.AG
def Wr.AG:Wr→List Nat
 | .slot _ a=>a.AG
 | .root _ x=>x.AG
 | .leaf _ _ a=>a.AG
 | .half _ _ v=>[v]
def LA.Ce:LA→Bool
 | .ref _=>false
 | .win _ _ _=>false
 | .Bl _=>false
 | .JJ _ _=>false
 |_=>true
def Wr.ok(cx:Cx)(dst:Option Nat):Wr→Bool
 | .slot t _=>match dst with
  |some d=>t==d
  |none=>false
 | .root r x => !cx.lock r&&x.ls.all LA.Ce&&match dst with
  |some d=>r==d
  |none=>false
 | .leaf r _ a => !cx.lock r&&a.Ce
 | .half r _ _ => !cx.lock r
def JS(cx:Cx)(dst:Option Nat)(v0 v b:Nat)(ws:List Wr):Bool:=
 ws.all fun w=>w.ok cx dst&&w.AG.all fun n=>decide (n<v0)||n==v||(decide (v0≤n)&&bit b (n-v0))
def Cw(dst:Option Nat):List Wr:=match dst with
 |some d=>[.slot d (one .undef)]
 |none=>[]
structure Rg where
 ops:Array Oper
 v0:Nat
 draw:Bool
def EW{R:Type}(cx:Cx)(g:Rg):List (Nat×Oper)→List Nat→List (Nat×Nat)→St→(St→Option R)→Option R
 | [],_,_,s,k=>k s
 |(i,o)::r,bs,lg,s,k=>
  let b:=nth 0 bs i
  let rm:=A9 g.ops o s
  let exec (s:St):Option R:=(AB cx (g.v0+i) o s).run fun ws=>
   if JS cx o.dst g.v0 (g.v0+i) b ws&&(!g.draw||indep b rm (AE ws) 0 lg)then EW cx g r bs (lg++[(rm,AE ws)]) (s.app ws) k else none
  let skip (s:St):Option R:=if !g.draw||indep b rm (AE (Cw o.dst)) 0 lg then EW cx g r bs (lg++[(rm,AE (Cw o.dst))]) (s.app (Cw o.dst)) k else none
  match o.guard with
  |none=>exec s
  |some (j,want)=>match(g.ops[j]?).bind (·.dst)with
   |none=>none
   |some t=>match s.slot t with
    | .v false [.undef]=>skip s
    | .v false [.sc .bool c]=>match want with
     |true=>bif c then exec (s.AF (.slot t (IM true)))else skip (s.AF (.slot t (IM false)))
     |false=>bif c then skip (s.AF (.slot t (IM true)))else exec (s.AF (.slot t (IM false)))
    |_=>none
def JN(os:List Oper):List VP:=match os.getLast? with
 |some o=>match o.dst with
  |some d=>[.slot d .bool]
  |none=>[]
 |none=>[]
def Et{R:Type}(cx:Cx)(an:An)(id:Nat)(ops:Array Oper)(draw:Bool)(s:St)(k:St→Option R):Option R:=
 let os:=number 0 ops.toList
 let g:Rg:=⟨ops,s.Bp,draw⟩
 let bs:=E2 ops.toList []
 if ops.toList.all fun o=>match o.guard with
  |none=>true
  |some _=>false
 then EW cx g os bs [] s fun s'=>k { s' with Bp:=s.Bp+ops.size }
 else
  let ps:=match an.PS id with
   |some p=>p
   |none=>JN ops.toList
  let ms:=Gv os
  if Cr cx ms ps then(EW (cx.in ms ps) g os bs [] s (Aw ps)).bind fun x=>k (Bz ms ps s x)else none
def Hk{R:Type}(cx:Cx)(an:An)(id:Nat)(ops:Array Oper)(draw:Bool)(s:St)(k:St→Option R):Option R:=match an.pre id with
 | []=>Et cx an id ops draw s k
 |r::rs=>if(r::rs).all fun r => !cx.lock r then match Az cx s (r::rs)with
   |some fs=>Et cx an id ops draw (s.app fs) k
   |none=>none
  else none
def iter{α γ:Type}:Nat→(α→Option (α⊕γ))→α→Option γ
 |0,_,_=>none
 |n+1,f,x=>(f x).bind fun y=>match y with
  | .inl x=>iter n f x
  | .inr z=>some z
def ev(an:An)(n:Nat){RD:Type}(rp:St→Option RD):Code→{R:Type}→Cx→St→(St→Option R)→(Nat→St→Option R)→(RD→Option R)→Option R
 | .skip,_,cx,s,kn,kx,kr=>kn s
 | .region id ops draw,_,cx,s,kn,kx,kr=>Hk cx an id ops draw s kn
 | .seq a b,_,cx,s,kn,kx,kr=>match an.Pk (OP a)with
  |none=>ev an n rp a cx s (fun s=>ev an n rp b cx s kn kx kr) kx kr
  |some (ps,rets)=>
   let ms:=CF a
   if Cr cx ms ps then match rets with
    |false=>(ev an n rp a (R:=(DJ ps).D) (cx.in ms ps) s (Aw ps) (fun _ _=>none) (fun _=>none)).bind fun x=>ev an n rp b cx (Bz ms ps s x) kn kx kr
    |true=>(ev an n rp a (R:=(DJ ps).D⊕RD) (cx.in ms ps) s (fun s=>(Aw ps s).bind fun x=>some (.inl x)) (fun _ _=>none) (fun r=>some (.inr r))).bind fun q=>match q with
     | .inl x=>ev an n rp b cx (Bz ms ps s x) kn kx kr
     | .inr r=>kr r
   else none
 | .cond c x y,_,cx,s,kn,kx,kr=>match s.Al c with
  | .sc .bool b=>bif b then ev an n rp x cx s kn kx kr else ev an n rp y cx s kn kx kr
  |_=>none
 | .block id c,_,cx,s,kn,kx,kr=>match an.AT id with
  |none=>ev an n rp c cx s kn (fun i s=>if i==id then kn s else kx i s) kr
  |some (ps,rets)=>match c with
   | .loop c=>
    let ms:=CF c
    if Cr cx ms ps then match rets with
     |false=>(Aw ps s).bind fun x0=>(iter (α:=(DJ ps).D) (γ:=(DJ ps).D) n (fun x=>ev an n rp c (cx.in ms ps) (Bz ms ps s x)
        (fun s=>(Aw ps s).bind fun x=>some (.inl x)) (fun i s=>if i==id then(Aw ps s).bind fun x=>some (.inr x)else none) (fun _=>none)) x0).bind fun x=>
       kn (Bz ms ps s x)
     |true=>(Aw ps s).bind fun x0=>(iter (α:=(DJ ps).D) (γ:=(DJ ps).D⊕RD) n (fun x=>ev an n rp c (cx.in ms ps) (Bz ms ps s x)
        (fun s=>(Aw ps s).bind fun x=>some (.inl x)) (fun i s=>if i==id then(Aw ps s).bind fun x=>some (.inr (.inl x))else none) (fun r=>some (.inr (.inr r)))) x0).bind fun q=>match q with
       | .inl x=>kn (Bz ms ps s x)
       | .inr r=>kr r
    else none
   |_=>none
 | .exit id,_,cx,s,kn,kx,kr=>kx id s
 | .ret,_,cx,s,kn,kx,kr=>(rp s).bind kr
 |_,_,_,_,_,_,_=>none
def D7:Nat→List Oper→Bool
 |_,[]=>true
 |i,o::r=>o.after.toList.all (fun e => !Region.binds .any e||decide (e.on<i))&&D7 (i+1) r
def codeOk(n:Nat):Code→Bool
 | .region _ ops _=>D7 0 ops.toList&&ops.toList.all fun o=>match o.dst with
  |some d=>decide (d<n)
  |none=>true
 | .seq a b=>codeOk n a&&codeOk n b
 | .cond _ a b=>codeOk n a&&codeOk n b
 | .block _ c=>codeOk n c
 | .loop c=>codeOk n c
 |_=>true
def BE(i:Nat):Nat→List (L×Nat)→List Lv→List LA
 |j,(l,d)::ls,x::vs=>(match l with
  | .sl _ _=>if d==4 then LA.CP else LA.ref ⟨i,j,1,1,[]⟩
  |_=>.sc x.l x.x)::BE i (j+1) ls vs
 |_,_,_=>[]
def DF:Nat→List PM→List Lv→Option (List Wr)
 |_,[],[]=>some []
 |_,[],_::_=>none
 |i,.val g ls::ps,vs=>match DF (i+1) ps (vs.drop ls.length)with
  |some ws=>some (.slot i (.v g ((vs.take ls.length).map fun x=>.sc x.l x.x))::ws)
  |none=>none
 |i,.box ls::ps,vs=>match DF (i+1) ps (vs.drop ls.length)with
  |some ws=>some (.root i ⟨true,1,AZ 1 ls vs⟩::.slot i (one (.ptr i 0 1))::ws)
  |none=>none
 |i,.row g ls::ps,vs=>match DF (i+1) ps (vs.drop ls.length)with
  |some ws=>some (.root i ⟨false,1,AZ 1 ls vs⟩::.slot i (.v g (BE i 0 ls vs))::ws)
  |none=>none
 |i,.fn f::ps,vs=>match DF (i+1) ps vs with
  |some ws=>some (.slot i (one (.fn f))::ws)
  |none=>none
def blank(n:Nat):St:={sl:=List.replicate n (one .bad),ro:=List.replicate n dead,Bp:=2 }
def Fk(s:St)(us:List (Nat×Nat))(l:L)(m:Nat)(a:LA)(k:Lv→List (Nat×Nat)→Step β):Step β:=match l with
 | .sl t e=>match m with
  |0=>if s.still (.sl t e) a then s.datum (.sl t e) a fun x=>k ⟨.sl t e,x⟩ us else .none
  |m+1=>match a with
   | .CP=>k ⟨.sl t e,([]:List e.D)⟩ us
   | .ref c=>match s.leaf c.r c.j with
    | .arr AA _ t' e' xs d=>if AA==c.AA&&isNil c.p&&d==m+1 && !us.contains (c.r,c.j)then match L.cast (a:=.sl t' e') (.sl t e) xs with
      |some y=>k ⟨.sl t e,y⟩ ((c.r,c.j)::us)
      |none=>.none
     else .none
    |_=>.none
   | .win c lo hi=>match s.leaf c.r c.j with
    | .arr AA _ t' e' xs d=>if AA==c.AA&&isNil c.p&&d==m+1 && !us.contains (c.r,c.j)then match L.cast (a:=.sl t' e') (.sl t e) (sub xs lo hi)with
      |some y=>k ⟨.sl t e,y⟩ ((c.r,c.j)::us)
      |none=>.none
     else .none
    |_=>.none
   |_=>.none
 |l=>s.datum l a fun x=>k ⟨l,x⟩ us
def Cc(s:St):List (L×Nat)→List LA→List (Nat×Nat)→(List Lv→List (Nat×Nat)→Step β)→Step β
 | [],[],us,k=>k [] us
 |(l,m)::ls,a::as,us,k=>Fk s us l m a fun x us=>Cc s ls as us fun xs us=>k (x::xs) us
 |_,_,_,_=>.none
def D4(ty:TypeId→Option Ty)(s:St):List (Bool×List (L×Nat))→List ResultVar→List (Nat×Nat)→(List Lv→List (Nat×Nat)→Step β)→Step β
 | [],[],us,k=>k [] us
 |(g,ls)::rs,.tmp t::vs,us,k=>match s.slot t with
  | .v g' as=>if g==g' then Cc s ls as us fun xs us=>D4 ty s rs vs us fun ys us=>k (xs++ys) us else .none
  |_=>.none
 |(g,ls)::rs,.cell t T::vs,us,k=>match ty T,s.slot t with
  |some y,.v false [.ptr r 0 AA]=>if y.agg==g&&y.ls.n==ls.length then s.DG (.ptr r 0 AA) ls.length fun as=>if as.length==ls.length then Cc s ls as us fun xs us=>D4 ty s rs vs us fun ys us=>k (xs++ys) us else .none else .none
  |_,_=>.none
 |_,_,_,_=>.none
def Ep(s:St)(i:Nat):Nat→List (L×Nat)→List Lv→List (Nat×Nat)→(List Lv→List (Nat×Nat)→Step β)→Step β
 |_,[],_,us,k=>k [] us
 |_,_::_,[],_,_=>.none
 |j,(l,d)::ls,x::vs,us,k=>match l with
  | .sl t e=>Fk s us (.sl t e) d (match s.leaf i j with
    | .arr 1 gen _ _ _ _=>.ref ⟨i,j,1,gen,[]⟩
    |_=>.bad) fun y us=>Ep s i (j+1) ls vs us fun ys us=>k (y::ys) us
  |_=>Ep s i (j+1) ls vs us fun ys us=>k (x::ys) us
def JM(s:St)(i:Nat):Nat→List (L×Nat)→Bool
 |_,[]=>true
 |j,(_,m)::ls=>(bif m==3 then(match s.leaf i j with
  | .arr AA _ _ _ _ _=>AA==1
  |_=>false)else true)&&JM s i (j+1) ls
def C8(s:St):Nat→List PM→List Lv→List (Nat×Nat)→(List Lv→Step β)→Step β
 |_,[],_,_,k=>k []
 |i,.box ls::ps,vs,us,k=>if(s.root i).box&&(s.root i).AA==1&&(s.root i).ls.length==ls.length&&JM s i 0 ls then s.DG (.ptr i 0 1) ls.length fun as=>Cc s ls as us fun xs us=>C8 s (i+1) ps (vs.drop ls.length) us fun ys=>k (xs++ys)else .none
 |i,.row _ ls::ps,vs,us,k=>Ep s i 0 ls vs us fun xs us=>C8 s (i+1) ps (vs.drop ls.length) us fun ys=>k (xs++ys)
 |i,.val _ ls::ps,vs,us,k=>C8 s (i+1) ps (vs.drop ls.length) us k
 |i,.fn _::ps,vs,us,k=>C8 s (i+1) ps vs us k
def DW:List L→List LA→Option (List Lv)
 | [],[]=>some []
 |l::ls,.sc m x::as=>match L.cast l (a:=m) x,DW ls as with
  |some y,some vs=>some (⟨l,y⟩::vs)
  |_,_=>none
 |_,_=>none
def N4(sm:Sm)(rv:List ResultVar)(s:St):Option sm.outs.D:=match rv with
 | [.tmp t]=>match s.slot t with
  | .v false [.ptr r 0 AA]=>if sm.plain&&(s.root r).box&&(s.root r).AA==AA then match DW (sm.Gx.map (·.1)) (s.root r).ls with
    |some vs=>pack sm.outs vs
    |none=>none
   else none
  |_=>none
 |_=>none
def Kl(s:St):List (L×Nat)→List LA→List Nat
 |(l,m)::ls,a::as=>(if Bs l&&m==0 && !s.still l a then match a with
   | .ref c=>[c.r]
   | .win c _ _=>[c.r]
   |_=>[]
  else [])++Kl s ls as
 |_,_=>[]
def My(s:St):List (Bool×List (L×Nat))→List ResultVar→List Nat
 |(_,ls)::rs,.tmp t::vs=>(match s.slot t with
  | .v _ as=>Kl s ls as
  |_=>[])++My s rs vs
 |(_,ls)::rs,.cell t _::vs=>(match s.slot t with
  | .v false [.ptr r 0 _]=>Kl s ls (A5 r 0 (s.root r).ls)
  |_=>[])++My s rs vs
 |_,_=>[]
def IH(ty:TypeId→Option Ty)(sm:Sm)(rv:List ResultVar)(vs:List Lv)(s:St):Option sm.outs.D:=
 (D4 ty s sm.rs rv [] fun xs us=>C8 s 0 sm.ps vs us fun ys=>.go (xs++ys)).run (pack sm.outs)
def Pj:Cx:={ty:=fun _=>none,env:=⟨fun _=>none,fun _ _=>none,fun _=>false⟩,lock:=fun _=>false,FH:=fun _=>false,Jf:=fun _=>false }
def DX(ty:TypeId→Option Ty)(sm:Sm)(rv:List ResultVar)(vs:List Lv)(s:St):Option sm.outs.D:=if sm.mk? then N4 sm rv s else
 match Az Pj s (My s sm.rs rv)with
 |some fs=>IH ty sm rv vs (s.app fs)
 |none=>none
def MO(ty:TypeId→Option Ty)(env:Env)(an:An)(n:Nat)(fn:Func)(sm:Sm)(x:sm.ins.D):Option sm.outs.D:=
 match fn.body,DF 0 sm.ps (unpack sm.ins x)with
 |some c,some ws=>if !codeOk fn.ntmps c then none else ev an n (DX ty sm fn.results.toList (unpack sm.ins x)) c {ty:=ty,env:=env,lock:=fun _=>false,FH:=fun _=>false,Jf:=has (an.pre 1000000) } ((blank fn.ntmps).app ws) (DX ty sm fn.results.toList (unpack sm.ins x)) (fun _ _=>none) some
 |_,_=>none
end Go.Ev
namespace Go.Ev
theorem Ai{α:Type}(d:α):∀(l:List α)(n:Nat),nth d l n=(l[n]?).getD d
 | [],n=>by simp[nth]
 |x::xs,0=>by simp[nth]
 |x::xs,n+1=>by simp[nth,Ai d xs n]
theorem CY{α:Type}:∀(l:List α)(n:Nat)(y:α),(CZ l n y).length=l.length
 | [],_,_=>rfl
 |_::xs,0,_=>rfl
 |_::xs,n+1,y=>by simp[CZ,CY xs n y]
theorem Bi{α:Type}:∀(l:List α)(n:Nat)(y:α),CZ l n y=l.set n y
 | [],_,_=>rfl
 |_::xs,0,_=>rfl
 |x::xs,n+1,y=>by simp[CZ,Bi xs n y]
theorem A4{α:Type}(d:α)(l:List α)(n m:Nat)(y:α):nth d (CZ l n y) m=if n=m∧n<l.length then y else nth d l m:=by rw[Ai,Ai,Bi,List.getElem?_set];grind
theorem A6{α:Type}(d:α){l:List α}{n:Nat}(h:l.length≤n):nth d l n=d:=by rw[Ai];grind
structure Cy where
 base:Nat
 io:Nat→Prop
 fa:Nat→Prop
 w0:World
 Ol:Nat→Nat→Option Value
 Pc:Nat→Nat
 Nx:List (String×Array Value)
def at_(a:Addr)(k:Nat):Addr:=⟨a.block,a.off+k,none⟩
def Je(w:World):List (Nat×Nat)→Ls→Value→Ls→Value→Prop
 | [],e,h,e',v=>e'=e∧v=h
 |(i,j)::p,e,h,e',v=>∃a len c t f h',h=.slice (some a) len c∧a.spot=none∧i<len∧e.kinds[j]?=some (.sl t f)∧w.cell? (at_ a (i*e.n+j))=some h'∧Je w p f h' e' v
inductive Key where
 |AT (r:Nat)
 |lf (r j:Nat)
 |fl (k:Nat)
 deriving DecidableEq
structure Wd where
 w:World
 fz:Nat→Prop
 cv:Nat→Nat→Option Value
 bk:Nat→Nat
 om:Key→List Nat
def AP(s:St)(W:Wd):LA→Value→Prop
 | .bad,_=>True
 | .undef,v=>v=Go.undef
 | .CP,v=>v=.slice none 0 0
 | .JQ,v=>v=.pointer none
 | .sc l x,v=>l.rd 0 W.w W.fz v x []
 | .ref c,v=>∀gen t e xs d,s.leaf c.r c.j=.arr c.AA gen t e xs d→(c.p=[]∨gen=c.gen)→∃h e',W.cv c.r c.j=some h∧Je W.w c.p e h e' v
 | .win c lo hi,v=>∀gen t e xs d,s.leaf c.r c.j=.arr c.AA gen t e xs d→(c.p=[]∨gen=c.gen)→∃h e' A n k,W.cv c.r c.j=some h∧Je W.w c.p e h e' (.slice A n k)∧
   lo≤hi∧hi≤n∧v=.slice (if k=lo then A else A.map (·.add (lo*e'.n))) (hi-lo) (k-lo)
 | .ptr r j AA,v=>(s.root r).box=true→(s.root r).AA=AA→v=.pointer (some ⟨W.bk r,j,none⟩)
 | .Bl c,v=>∀gen t e xs d,s.leaf c.r c.j=.arr c.AA gen t e xs d→(c.p.length≤1∨gen=c.gen)→∃q i off h e' a n k,Am c.p=some (q,i,off)∧W.cv c.r c.j=some h∧
   Je W.w q e h e' (.slice (some a) n k)∧a.spot=none∧i<n∧v=.pointer (some (at_ a (i*e'.n+off)))
 | .D8 e x off,v=>∃(a:Addr) (g:Nat→Option Value) (arr:Array Value) (T:TypeId) (fr:Nat×Nat),v=.pointer (some (at_ a off))∧W.fz a.block∧W.w.heap[a.block]?=some (.cells arr T fr)∧
   (∀j,g j=arr[a.off+j]?)∧e.rd 0 W.w W.fz g x []
 | .fn f,v=>v=.func (.func f) #[] #[]
 | .JJ t c,v=>∃u,v=.iface t u∧∀gen t e xs d,s.leaf c.r c.j=.arr c.AA gen t e xs d→(c.p=[]∨gen=c.gen)→∃h e',W.cv c.r c.j=some h∧Je W.w c.p e h e' u
 | .EI g ps _,v=>∃bs:List Nat,v=.func (.func g) #[] (bs.map fun b=>Value.pointer (some ⟨b,0,none⟩)).toArray∧bs.length=ps.length∧∀(k:Nat)(p:Nat×Nat)(b:Nat),ps[k]?=some p→bs[k]?=some b→(s.root p.1).box=true→(s.root p.1).AA=p.2→b=W.bk p.1
 | .arr ..,_=>False
def E6(s:St)(W:Wd)(g:Bool)(as:List LA)(v:Value):Prop:=match g with
 |false=>match as with
  | [a]=>AP s W a v
  |_=>False
 |true=>∃cs:Array Value,v=.agg cs∧cs.size=as.length∧∀(j:Nat)(a:LA),as[j]?=some a→∃u,cs[j]?=some u∧AP s W a u
def BU(s:St)(W:Wd):AV→Value→Prop
 | .v g as,v=>E6 s W g as v
 | .Dp vs,v=>∃us:Array Value,v=.tuple us∧us.size=vs.length∧∀(j:Nat)(p:Bool×List LA),vs[j]?=some p→∃u,us[j]?=some u∧E6 s W p.1 p.2 u
 | .bx as,v=>∃(b off:Nat) (arr:Array Value) (T:TypeId) (fr:Nat×Nat),v=.pointer (some ⟨b,off,none⟩)∧W.fz b∧W.w.heap[b]?=some (.cells arr T fr)∧(∀j,j<arr.size→¬(fr.1≤j∧j<fr.2))∧∀(j:Nat)(a:LA),as[j]?=some a→∃u,arr[off+j]?=some u∧AP s W a u
def Ab(s:St)(W:Wd)(a:LA)(v?:Option Value)(o:List Nat):Prop:=match a with
 | .arr _ _ t e xs d=>∃v,v?=some v∧AD e d W.w W.fz v xs o
 |a=>o=[]∧∀v,v?=some v→AP s W a v
def EK(s:St)(W:Wd)(r:Nat)(x:Bo):Prop:=
 (∀j,Ab s W (nth .bad x.ls j) (W.cv r j) (W.om (.lf r j)))∧
 (if x.box then W.om (.AT r)=[W.bk r]∧∃arr T fr,W.w.heap[W.bk r]?=some (.cells arr T fr)∧(∀j,j<arr.size→¬(fr.1≤j∧j<fr.2))∧arr.size=x.ls.length∧∀j,W.cv r j=arr[j]?
  else W.om (.AT r)=[])
structure Sep(E:Cy)(W:Wd):Prop where
 nodup:∀k,(W.om k).Nodup
 Av:∀k k',k≠k'→∀b∈W.om k,b∉W.om k'
 own:∀k,∀b∈W.om k,¬W.fz b∧b<W.w.heap.size∧(E.base≤b∨E.io b)
 fz:∀b,W.fz b→b<W.w.heap.size∧(E.fa b∨E.base≤b∨E.io b)
 frame:∀b,b<E.base→¬E.io b→W.w.heap[b]?=E.w0.heap[b]?
 size:E.base≤W.w.heap.size
 rest:W.w.os=E.w0.os∧W.w.tape=E.w0.tape∧W.w.output=E.w0.output
structure AW(E:Cy)(s:St)(tm:Array Value)(W:Wd):Prop where
 DM:s.sl.length=tm.size
 BQ:s.ro.length=tm.size
 AO:∀t,BU s W (s.slot t) (tm.getD t Go.undef)
 roots:∀r,EK s W r (s.root r)
 sep:Sep E W
 init:(∀(r j gen:Nat)(t:TypeId)(e:Ls)(xs:List e.D)(d:Nat),s.leaf r j=.arr 1 gen t e xs d→W.cv r j=E.Ol r j)∧∀r,(s.root r).box=true→(s.root r).AA=1→W.bk r=E.Pc r
theorem Ls.HD:∀(e:Ls)(j:Nat) {d:Nat} {w:World} {fz:Nat→Prop} {g:Nat→Option Value} {x:e.D} {o:List Nat} {t:TypeId} {f:Ls},
  e.rd d w fz g x o→e.kinds[j]?=some (.sl t f)→∃(h:Value) (ys:List f.D) (o':List Nat),g j=some h∧AD f d w fz h ys o'∧∀b∈o',b∈o
 | .nil,j,_,_,_,_,_,_,_,_,_,hk=>by simp[Ls.kinds]at hk
 | .one l,j,d,w,fz,g,x,o,t,f,h,hk=>by
  simp only[Ls.rd]at h;obtain⟨v,hg,h⟩:=h;cases j with
  |zero=>simp[Ls.kinds]at hk;subst hk;exact⟨v,x,o,hg,h,fun b hb=>hb⟩
  |succ j=>simp[Ls.kinds]at hk
 | .cons l ls,j,d,w,fz,g,x,o,t,f,h,hk=>by
  simp only[Ls.rd]at h;obtain⟨v,o1,o2,hg,h1,h2,rfl⟩:=h;cases j with
  |zero=>simp[Ls.kinds]at hk;subst hk;exact⟨v,x.1,o1,hg,h1,fun b hb=>kK _ hb⟩
  |succ j=>
   simp only[Ls.kinds,lH]at hk;obtain⟨h',ys,o',a,b,c⟩:=Ls.HD ls j h2 hk;grind
theorem Row.cell{w:World}{a:Addr}{n:Nat}{own:Bool}{g:Nat→Option Value}(h:Row w a n own g)(j:Nat):w.cell? (at_ a j)=g j:=by obtain⟨hs,arr,T,fr,hh,hn,hb,hg⟩:=h;simp[World.cell?,at_,hh,hg]
theorem Mg{w:World}:∀(p:List (Nat×Nat)) {e:Ls} {d:Nat} {fz:Nat→Prop} {h:Value} {xs:List e.D} {o:List Nat} {e':Ls} {v:Value},
  AD e d w fz h xs o→Je w p e h e' v→∃(d':Nat) (ys:List e'.D) (o':List Nat),AD e' d' w fz v ys o'∧∀b∈o',b∈o
 | [],e,d,fz,h,xs,o,e',v,hr,hn=>by obtain⟨rfl,rfl⟩:=hn;grind
 |(i,j)::p,e,d,fz,h,xs,o,e',v,hr,hn=>by
  obtain⟨a,len,c,t',f,h',rfl,hs,hi,hk,hc,hn⟩:=hn;obtain⟨A,c',hv,hle,hr⟩:=hr;injection hv with hA hl WS
  subst hA;have XJ:i<xs.length:=hl▸hi;rcases hr with hr|⟨g,os,Vr,V5,ho⟩
  ·have:=hr.2.1;omega
  obtain⟨h2,ys,o',hg,Vw,Wb⟩:=Ls.HD e j (V5 i XJ) hk
  have:h2=h':=by have:=Vr.cell (i*e.n+j);rw[this,hg]at hc;exact Option.some.inj hc
  subst this;obtain⟨d2,zs,o2,hz,Yo⟩:=Mg p Vw hn;grind
theorem BM{w w':World}:∀(p:List (Nat×Nat)) {e:Ls} {d:Nat} {fz:Nat→Prop} {h:Value} {xs:List e.D} {o:List Nat} {e':Ls} {v:Value},
  AD e d w fz h xs o→Je w p e h e' v→(∀b,b∈o∨fz b→w'.heap[b]?=w.heap[b]?)→Je w' p e h e' v
 | [],e,d,fz,h,xs,o,e',v,hr,hn,hf=>hn
 |(i,j)::p,e,d,fz,h,xs,o,e',v,hr,hn,hf=>by
  obtain⟨a,len,c,t',f,h',rfl,hs,hi,hk,hc,hn⟩:=hn;obtain⟨A,c',hv,hle,hr⟩:=hr;injection hv with hA hl WS
  subst hA;have XJ:i<xs.length:=hl▸hi;rcases hr with hr|⟨g,os,Vr,V5,ho⟩
  ·have:=hr.2.1;omega
  obtain⟨h2,ys,o',hg,Vw,Wb⟩:=Ls.HD e j (V5 i XJ) hk
  have Wu:a.block∈o∨fz a.block:=by
   revert ho
   cases decide (0<d)with
   |true=>intro ho;left;rw[ho];simp
   |false=>intro ho;exact .inr ho.1
  have:h2=h':=by have:=Vr.cell (i*e.n+j);rw[this,hg]at hc;exact Option.some.inj hc
  subst this;refine⟨a,len,c,t',f,h2,rfl,hs,hi,hk,?_,BM p Vw hn fun b hb=>hf b ?_⟩
  ·rw[(Vr.frame (hf _ Wu)).cell,hg]
  grind
section
variable {E:Cy}{s s':St}{tm:Array Value}{W:Wd}{w':World}
theorem EK.row{r:Nat}(h:EK s W r (s.root r)){j AA gen:Nat}{t:TypeId}{e:Ls}{xs:List e.D}{d:Nat}(hl:s.leaf r j=.arr AA gen t e xs d):
  ∃v,W.cv r j=some v∧AD e d W.w W.fz v xs (W.om (.lf r j)):=by
 have:=h.1 j;unfold St.leaf at hl;rw[hl]at this;exact this
def Still(W:Wd)(w':World):Prop:=∀b,(W.fz b∨∃k,b∈W.om k)→w'.heap[b]?=W.w.heap[b]?
theorem AP.world(hr:∀r,EK s W r (s.root r))(hf:Still W w'){a:LA}{v:Value}(h:AP s W a v):AP s { W with w:=w' } a v:=by
 cases a with
 |bad=>trivial
 |undef=>exact h
 |CP=>exact h
 |JQ=>exact h
 |sc l x=>exact L.AI l h (fun b hb=>hf b (hb.elim (fun hb=>by cases hb) .inl)) fun b hb=>hb
 |ref c=>
  intro gen t e xs d hl hp;obtain⟨h',e',hc,hn⟩:=h gen t e xs d hl hp;obtain⟨u,hu,Vw⟩:=(hr c.r).row hl;have:u=h':=Option.some.inj (hu.symm.trans hc);subst this;exact⟨u,e',hc,BM _ Vw hn fun b hb=>hf b (hb.elim (fun hb=>.inr ⟨_,hb⟩) .inl)⟩
 |win c lo hi=>
  intro gen t e xs d hl hp;obtain⟨h',e',A,n,k,hc,hn,rest⟩:=h gen t e xs d hl hp;obtain⟨u,hu,Vw⟩:=(hr c.r).row hl;have:u=h':=Option.some.inj (hu.symm.trans hc);subst this;exact⟨u,e',A,n,k,hc,BM _ Vw hn fun b hb=>hf b (hb.elim (fun hb=>.inr ⟨_,hb⟩) .inl),rest⟩
 |ptr r j AA=>exact h
 |Bl c=>
  intro gen t e xs d hl hp;obtain⟨q,i,off,h',e',a,n,k,hs,hc,hn,rest⟩:=h gen t e xs d hl hp;obtain⟨u,hu,Vw⟩:=(hr c.r).row hl;have:u=h':=Option.some.inj (hu.symm.trans hc);subst this;exact⟨q,i,off,u,e',a,n,k,hs,hc,BM _ Vw hn fun b hb=>hf b (hb.elim (fun hb=>.inr ⟨_,hb⟩) .inl),rest⟩
 |D8 e x off=>
  obtain⟨a,g,arr,T,fr,hv,hz,hh,hg,Vw⟩:=h;exact⟨a,g,arr,T,fr,hv,hz,(hf _ (.inl hz)).trans hh,hg,Ls.AI e Vw (fun b hb=>hf b (hb.elim (fun hb=>by cases hb) .inl)) fun b hb=>hb⟩
 |fn f=>exact h
 |JJ t c=>
  obtain⟨u,hv,h⟩:=h;refine⟨u,hv,fun gen t e xs d hl hp=>?_⟩;obtain⟨h',e',hc,hn⟩:=h gen t e xs d hl hp;obtain⟨u',hu,Vw⟩:=(hr c.r).row hl;have:u'=h':=Option.some.inj (hu.symm.trans hc);subst this;exact⟨u',e',hc,BM _ Vw hn fun b hb=>hf b (hb.elim (fun hb=>.inr ⟨_,hb⟩) .inl)⟩
 |EI g ps qs=>exact h
 |arr=>exact h
theorem E6.map{s s':St}{W W':Wd}(f:∀a v,AP s W a v→AP s' W' a v){g:Bool}{as:List LA}{v:Value}(h:E6 s W g as v):E6 s' W' g as v:=by unfold E6 at *;grind
theorem BU.map{s s':St}{W W':Wd}(hz:∀b,W.fz b→W'.fz b∧W'.w.heap[b]?=W.w.heap[b]?)(f:∀a v,AP s W a v→AP s' W' a v){a:AV}{v:Value}(h:BU s W a v):BU s' W' a v:=by
 cases a with
 |v g as=>exact E6.map f h
 |Dp vs=>
  obtain⟨us,hv,hs,h⟩:=h;exact⟨us,hv,hs,fun j p hp=>let ⟨u,hu,hl⟩:=h j p hp;⟨u,hu,E6.map f hl⟩⟩
 |bx as=>
  obtain⟨b,off,arr,T,fr,hv,h1,h2,h3,h⟩:=h;exact⟨b,off,arr,T,fr,hv,(hz b h1).1,(hz b h1).2.trans h2,h3,fun j a ha=>let ⟨u,hu,hl⟩:=h j a ha;⟨u,hu,f _ _ hl⟩⟩
theorem Ab.map{s s':St}{W W':Wd}(f:∀a v,AP s W a v→AP s' W' a v){a:LA}{v?:Option Value}{o:List Nat}
  (g:∀(e:Ls)(d:Nat)(xs:List e.D)(v:Value),AD e d W.w W.fz v xs o→AD e d W'.w W'.fz v xs o) (h:Ab s W a v? o):Ab s' W' a v? o:=by
 unfold Ab at *;grind
theorem AW.world(h:AW E s tm W)(hf:Still W w')(hb:∀b,b<E.base→¬E.io b→w'.heap[b]?=W.w.heap[b]?)(hs:W.w.heap.size≤w'.heap.size)(ho:w'.os=W.w.os∧w'.tape=W.w.tape∧w'.output=W.w.output):AW E s tm { W with w:=w' } where
 DM:=h.DM
 BQ:=h.BQ
 AO t:=BU.map (W:=W) (W':={ W with w:=w' }) (fun b hb=>⟨hb,hf b (.inl hb)⟩) (fun _ _=>AP.world h.roots hf) (h.AO t)
 roots r:=by
  obtain⟨h1,h2⟩:=h.roots r;refine⟨fun j=>(h1 j).map (fun _ _=>AP.world h.roots hf) fun e d xs v Vw=>Vw.frame (fun b hb=>hf b (hb.elim (fun hb=>.inr ⟨_,hb⟩) .inl)) fun b hb=>hb,?_⟩;split
  ·rename_i X8;rw[kF X8]at h2;obtain⟨ho,arr,T,fr,hh,rest⟩:=h2;exact⟨ho,arr,T,fr,(hf _ (.inr ⟨.AT r,by rw[ho];simp⟩)).trans hh,rest⟩
  grind
 sep:={
  nodup:=h.sep.nodup
  Av:=h.sep.Av
  own:=fun k b hb=>let ⟨a,c,d⟩:=h.sep.own k b hb;⟨a,lB c hs,d⟩
  fz:=fun b Vz=>let ⟨a,c⟩:=h.sep.fz b Vz;⟨lB a hs,c⟩
  frame:=fun b XP XT=>(hb b XP XT).trans (h.sep.frame b XP XT)
  size:=kv h.sep.size hs
  rest:=⟨ho.1.trans h.sep.rest.1,ho.2.1.trans h.sep.rest.2.1,ho.2.2.trans h.sep.rest.2.2⟩ }
 init:=h.init
theorem AW.KQ(h:AW E s tm W)(hf:∀b,b<W.w.heap.size→w'.heap[b]?=W.w.heap[b]?):Still W w':=by
 intro b hb;rcases hb with hb|⟨k,hb⟩
 ·exact hf b (h.sep.fz b hb).1
 ·exact hf b (h.sep.own k b hb).2.1
end
end Go.Ev
namespace Go.Ev
def LA.CK:LA→Bool
 | .arr _ _ _ _ _ _=>true
 |_=>false
def Af(s:St)(v:Nat):Prop:=(∀t,v∉(s.slot t).AG)∧(∀r j,(s.leaf r j).CK=true∨v∉(s.leaf r j).AG)∧1<v
structure EL(v:Nat)(s s':St)(W W':Wd):Prop where
 fz:∀b,W.fz b→W'.fz b
 Le:∀b,W.fz b→W'.w.heap[b]?=W.w.heap[b]?
 leaf:∀r j AA gen t e xs d,s'.leaf r j=.arr AA gen t e xs d→AA≠v→W'.cv r j=W.cv r j∧
  ∃gen0 t0 xs0 d0,s.leaf r j=.arr AA gen0 t0 e xs0 d0∧(gen≠v→gen=gen0∧∀p h e' u,W.cv r j=some h→Je W.w p e h e' u→Je W'.w p e h e' u)
 box:∀r,(s'.root r).box=true→(s'.root r).AA≠v→(s.root r).box=true∧(s.root r).AA=(s'.root r).AA∧W'.bk r=W.bk r
section
variable {v:Nat}{E:Cy}{s s':St}{tm dw:Array Value}{W W':Wd}
theorem Cn:∀ {p q:List (Nat×Nat)} {i off:Nat},Am p=some (q,i,off)→p=q++[(i,off)]
 | [],_,_,_,h=>by simp[Am]at h
 | [x],q,i,off,h=>by simp[Am]at h;grind
 |x::y::r,q,i,off,h=>by
  simp only[Am]at h;split at h
  ·rename_i q' i' dv hq;injection h with h
   injection h with h1 h2
   injection h2 with h2 h3
   subst h1;subst h2;subst h3;rw[Cn hq];rfl
  ·cases h
theorem AP.DL(h:EL v s s' W W'){a:LA}{u:Value}(hv:v∉a.AG)(ha:AP s W a u):AP s' W' a u:=by
 cases a with
 |bad=>trivial
 |undef=>exact ha
 |CP=>exact ha
 |JQ=>exact ha
 |sc l x=>exact L.AI l ha (fun b hb=>h.Le b (hb.elim (fun hb=>by cases hb) id)) h.fz
 |ref c=>
  intro gen t e xs d hl hp;have Vv:c.AA≠v∧c.gen≠v:=by simp[LA.AG]at hv;exact⟨fun e=>hv.1 e.symm,fun e=>hv.2 e.symm⟩
  obtain⟨hc,gen0,t0,xs0,d0,XB,hg⟩:=h.leaf _ _ _ _ _ _ _ _ hl Vv.1;by_cases hn:c.p=[]
  ·obtain⟨h',e',WS,ZW⟩:=ha _ _ _ _ _ XB (.inl hn);rw[hn]at ZW;exact⟨h',e',hc.trans WS,by rw[hn];exact ZW⟩
  ·have Wg:gen=c.gen:=hp.resolve_left hn;obtain⟨rfl,Wo⟩:=hg (by rw[Wg];exact Vv.2);obtain⟨h',e',WS,ZW⟩:=ha _ _ _ _ _ XB (.inr Wg);grind
 |win c lo hi=>
  intro gen t e xs d hl hp;have Vv:c.AA≠v∧c.gen≠v:=by simp[LA.AG]at hv;exact⟨fun e=>hv.1 e.symm,fun e=>hv.2 e.symm⟩
  obtain⟨hc,gen0,t0,xs0,d0,XB,hg⟩:=h.leaf _ _ _ _ _ _ _ _ hl Vv.1;by_cases hn:c.p=[]
  ·obtain⟨h',e',A,n,k,WS,ZW,rest⟩:=ha _ _ _ _ _ XB (.inl hn);rw[hn]at ZW;exact⟨h',e',A,n,k,hc.trans WS,by rw[hn];exact ZW,rest⟩
  ·have Wg:gen=c.gen:=hp.resolve_left hn;obtain⟨rfl,Wo⟩:=hg (by rw[Wg];exact Vv.2);obtain⟨h',e',A,n,k,WS,ZW,rest⟩:=ha _ _ _ _ _ XB (.inr Wg);grind
 |ptr r j AA=>
  intro hb Vu;have Vv:AA≠v:=by simp[LA.AG]at hv;exact fun e=>hv e.symm
  obtain⟨b1,b2,b3⟩:=h.box r hb (by omega);rw[b3];exact ha b1 (b2.trans Vu)
 |Bl c=>
  intro gen t e xs d hl hp;have Vv:c.AA≠v∧c.gen≠v:=by simp[LA.AG]at hv;exact⟨fun e=>hv.1 e.symm,fun e=>hv.2 e.symm⟩
  obtain⟨hc,gen0,t0,xs0,d0,XB,hg⟩:=h.leaf _ _ _ _ _ _ _ _ hl Vv.1;by_cases hn:c.p.length≤1
  ·obtain⟨q,i,off,h',e',a,n,k,hs,WS,ZW,rest⟩:=ha _ _ _ _ _ XB (.inl hn)
   have hq:q=[]:=by have h1:=Cn hs;rw[h1,lC]at hn;simpa using hn
   subst hq;exact⟨[],i,off,h',e',a,n,k,hs,hc.trans WS,ZW,rest⟩
  ·have Wg:gen=c.gen:=hp.resolve_left hn;obtain⟨rfl,Wo⟩:=hg (by rw[Wg];exact Vv.2);obtain⟨q,i,off,h',e',a,n,k,hs,WS,ZW,rest⟩:=ha _ _ _ _ _ XB (.inr Wg);grind
 |D8 e x off=>
  obtain⟨a,g,arr,T,fr,W0,hz,hh,hg,Vw⟩:=ha;exact⟨a,g,arr,T,fr,W0,h.fz _ hz,(h.Le _ hz).trans hh,hg,Ls.AI e Vw (fun b hb=>h.Le b (hb.elim (fun hb=>by cases hb) id)) h.fz⟩
 |fn f=>exact ha
 |JJ tt c=>
  obtain⟨u',W0,ha⟩:=ha;refine⟨u',W0,fun gen t e xs d hl hp=>?_⟩;have Vv:c.AA≠v∧c.gen≠v:=by simp[LA.AG]at hv;exact⟨fun e=>hv.1 e.symm,fun e=>hv.2 e.symm⟩
  obtain⟨hc,gen0,t0,xs0,d0,XB,hg⟩:=h.leaf _ _ _ _ _ _ _ _ hl Vv.1;by_cases hn:c.p=[]
  ·obtain⟨h',e',WS,ZW⟩:=ha _ _ _ _ _ XB (.inl hn);rw[hn]at ZW;exact⟨h',e',hc.trans WS,by rw[hn];exact ZW⟩
  grind
 |EI g ps qs=>
  obtain⟨bs,hu,hlen,hk⟩:=ha;refine⟨bs,hu,hlen,fun k p b hp hb h1 h2=>?_⟩;have Vv:p.2≠v:=fun e=>hv (by simp only[LA.AG];exact kt.2 ⟨p,kC hp,e⟩);obtain⟨b1,b2,b3⟩:=h.box p.1 h1 (by rw[h2];exact Vv);grind
 |arr=>exact ha
theorem E6.DL(h:EL v s s' W W'){g:Bool}{as:List LA}{u:Value}(hv:∀a∈as,v∉a.AG)(ha:E6 s W g as u):E6 s' W' g as u:=by
 unfold E6 at *;cases g with
 |false=>cases as with
  |nil=>exact ha
  |cons a as=>cases as with
   |nil=>exact AP.DL h (hv a (by simp)) ha
   |cons=>exact ha
 |true=>
  obtain⟨cs,hc,hs,ha⟩:=ha;exact⟨cs,hc,hs,fun j a hj=>let ⟨u,hu,hl⟩:=ha j a hj;⟨u,hu,AP.DL h (hv a (kC hj)) hl⟩⟩
theorem BU.DL(h:EL v s s' W W'){a:AV}{u:Value}(hv:v∉a.AG)(ha:BU s W a u):BU s' W' a u:=by
 cases a with
 |v g as=>exact E6.DL h (fun a hm hx=>hv (kA.2 ⟨a,hm,hx⟩)) ha
 |Dp vs=>
  obtain⟨us,hu,hs,ha⟩:=ha;refine⟨us,hu,hs,fun j p hp=>?_⟩;obtain⟨u,hu,hl⟩:=ha j p hp;exact⟨u,hu,E6.DL h (fun a hm hx=>hv (kA.2 ⟨p,kC hp,kA.2 ⟨a,hm,hx⟩⟩)) hl⟩
 |bx as=>
  obtain⟨b,off,arr,T,fr,hu,h1,h2,h3,ha⟩:=ha;refine⟨b,off,arr,T,fr,hu,h.fz b h1,(h.Le b h1).trans h2,h3,fun j a hj=>?_⟩;obtain⟨u,hu,hl⟩:=ha j a hj;exact⟨u,hu,AP.DL h (fun hx=>hv (kA.2 ⟨a,kC hj,hx⟩)) hl⟩
theorem HB{α:Type}{d:α}{l:List α}{n:Nat}(h:n<l.length):nth d l n∈l:=by rw[Ai,j7 h];simp
theorem Ab.DL(h:EL v s s' W W'){a:LA}{v?:Option Value}{o:List Nat}(hv:a.CK=true∨v∉a.AG)(ho:∀b∈o,W'.w.heap[b]?=W.w.heap[b]?)(ha:Ab s W a v? o):Ab s' W' a v? o:=by
 unfold Ab at *;cases a with
 |arr AA gen t e xs d=>
  obtain⟨u,hu,hr⟩:=ha;exact⟨u,hu,hr.frame (fun b hb=>hb.elim (ho b) (h.Le b)) h.fz⟩
 |_=>exact⟨ha.1,fun u hu=>AP.DL h (hv.resolve_left (by simp[LA.CK])) (ha.2 u hu)⟩
theorem Sep.IE(h:Sep E W)(ch:Key→Prop)(XA:W'.fz=W.fz)(V7:W.w.heap.size≤W'.w.heap.size)
  (We:∀b,b<E.base→¬E.io b→W'.w.heap[b]?=W.w.heap[b]?) (ho:W'.w.os=W.w.os∧W'.w.tape=W.w.tape∧W'.w.output=W.w.output)
  (Vq:∀k,¬ch k→W'.om k=W.om k) (Wi:∀k,ch k→(W'.om k).Nodup) (Wh:∀k k',ch k→ch k'→k≠k'→∀b∈W'.om k,b∉W'.om k')
  (Wf:∀k,ch k→∀b∈W'.om k,(∃k0,ch k0∧b∈W.om k0)∨(W.w.heap.size≤b∧b<W'.w.heap.size)):Sep E W' where
 nodup k:=by
  by_cases hk:ch k
  ·grind
  ·rw[Vq k hk];exact h.nodup k
 Av k k' Vv b hb Vz:=by
  by_cases hk:ch k<;>by_cases Wq:ch k'
  ·grind
  ·rw[Vq k' Wq]at Vz;rcases Wf k hk b hb with⟨k0,Zd,h0⟩|⟨h0,_⟩
   ·exact h.Av k0 k' (fun e=>Wq (e▸Zd)) b h0 Vz
   ·have:=(h.own k' b Vz).2.1;omega
  ·rw[Vq k hk]at hb;rcases Wf k' Wq b Vz with⟨k0,Zd,h0⟩|⟨h0,_⟩
   ·exact h.Av k0 k (fun e=>hk (e▸Zd)) b h0 hb
   ·have:=(h.own k b hb).2.1;omega
  ·rw[Vq k hk]at hb;rw[Vq k' Wq]at Vz;exact h.Av k k' Vv b hb Vz
 own k b hb:=by
  rw[XA];by_cases hk:ch k
  ·rcases Wf k hk b hb with⟨k0,_,h0⟩|⟨h0,h1⟩
   ·obtain⟨a,c,d⟩:=h.own k0 b h0;grind
   ·exact⟨fun hz=>by have:=(h.fz b hz).1;omega,h1,.inl (by have:=h.size;omega)⟩
  ·rw[Vq k hk]at hb;obtain⟨a,c,d⟩:=h.own k b hb;grind
 fz b hb:=by rw[XA]at hb;obtain⟨a,c⟩:=h.fz b hb;grind
 frame b h1 h2:=(We b h1 h2).trans (h.frame b h1 h2)
 size:=kv h.size V7
 rest:=⟨ho.1.trans h.rest.1,ho.2.1.trans h.rest.2.1,ho.2.2.trans h.rest.2.2⟩
theorem AW.IE(h:AW E s tm W)(hv:Af s v)(ht:EL v s s' W W')(XR:Sep E W')(l1:s'.sl.length=dw.size)(l2:s'.ro.length=dw.size)
  (hs:∀t,(s'.slot t=s.slot t∧dw.getD t Go.undef=tm.getD t Go.undef)∨BU s' W' (s'.slot t) (dw.getD t Go.undef))
  (hr:∀r,EK s' W' r (s'.root r)):AW E s' dw W' where
 DM:=l1
 BQ:=l2
 AO t:=by
  rcases hs t with⟨a,b⟩|a
  ·rw[a,b];exact BU.DL ht (hv.1 t) (h.AO t)
  ·exact a
 roots:=hr
 sep:=XR
 init:=by
  have h1:1≠v:=Nat.ne_of_lt hv.2.2;refine⟨fun r j gen t e xs d hl=>?_,fun r hb Vu=>?_⟩
  ·obtain⟨hc,gen0,t0,xs0,d0,XB,_⟩:=ht.leaf r j 1 gen t e xs d hl h1;exact hc.trans (h.init.1 _ _ _ _ _ _ _ XB)
  ·obtain⟨b1,b2,b3⟩:=ht.box r hb (by omega);exact b3.trans (h.init.2 r b1 (b2.trans Vu))
end
end Go.Ev
namespace Go.Ev
def CA:L→Value
 | .int k=>.int k 0
 | .bool=>.bool false
 | .str=>.string .empty
 | .sl _ _=>.slice none 0 0
structure MC(P:Program)(t:TypeId)(e:Ls):Prop where
 info:∃i,P.info? t=some i∧i.size=e.n∧i.bytes≤1024∧∃z,i.zero=some z∧z.cells=(e.kinds.map CA).toArray
 pos:0<e.n
def GY(P:Program)(t:TypeId):L→Prop
 | .int k=>P.underlying t=some (.int k)
 | .bool=>P.underlying t=some .bool
 | .str=>P.underlying t=some .string
 | .sl t' e=>P.underlying t=some (.slice t')∧MC P t' e
def JA(P:Program)(t:TypeId):L→Prop
 | .int k=>P.underlying t=some (.int k)
 | .bool=>P.underlying t=some .bool
 | .str=>P.underlying t=some .string
 | .sl _ _=>False
def G0(P:Program):Nat→List Field→List L→Prop
 |_,[],[]=>True
 | n, f :: fs, l :: ls => f.name ≠ "_" ∧ f.offset = n ∧ JA P f.type l ∧ G0 P (n + 1) fs ls
 |_,_,_=>False
structure Pa(P:Program)(t:TypeId)(ls:List L):Prop where
 held:P.stoodInHeld t=false
 guard:P.eqGuardType P.depth t=false
 fields:∃fs:Array Field,P.underlying t=some (.struct fs)∧G0 P 0 fs.toList ls
structure N1(P:Program)(t:TypeId)(ty:Ty):Prop where
 info:∃i,P.info? t=some i∧i.size=ty.ls.n∧∃z,i.zero=some z∧z.cells=(ty.ls.kinds.map CA).toArray∧(z=.agg (ty.ls.kinds.map CA).toArray∨ty.agg=false)
 agg:ty.agg=true→∃fs:Array Field,P.underlying t=some (.struct fs)∧fs.toList.map (fun f=>(f.offset,f.type))=ty.fs∧∃pl,fs.toList.mapM (fun f=>(P.info? f.type).map fun i=>(f.offset,i.size))=some pl
 lone:ty.agg=false→∃l,ty.ls=.one l∧GY P t l
 eqs:ty.eq=true→Pa P t ty.ls.kinds
def PL(P:Program)(t:TypeId):Prop:=∃i z c,P.info? t=some i∧i.size=1∧i.zero=some z∧z.cells = #[c]∧c.oneCell'=true
def MD(P:Program)(env:Env):Prop:=∀t,env.PR t=true→PL P t
def Db(P:Program)(cx:Cx):Prop:=∀t ty,cx.ty t=some ty→N1 P t ty
theorem GY.JR{P:Program}{t:TypeId}{l:L}(h:GY P t l):∃d,P.underlying t=some d∧(match d with | .struct _ | .array _ _=>true|_=>false)=false:=by
 cases l with
 |int k=>exact⟨_,h,rfl⟩
 |bool=>exact⟨_,h,rfl⟩
 |str=>exact⟨_,h,rfl⟩
 |sl t' e=>exact⟨_,h.1,rfl⟩
def Bc(P:Program)(E:Cy)(o:Oper)(a:Act)(w:World)(s':St):Prop:=
 ∀(next:Act→World→Prop)(Q:Exit→Act→World→Prop),(∀a' W',a'.defers=a.defers→AW E s' a'.tmps W'→next a' W'.w)→o.wp P a w next Q
section
variable {P:Program}{E:Cy}{s:St}{tm:Array Value}{W:Wd}{o:Oper}{a:Act}
theorem BR(s:St)(d:Nat)(x:AV)(t:Nat):(s.AF (.slot d x)).slot t=if d=t∧d<s.sl.length then x else s.slot t:=A4 _ _ _ _ _
theorem A3(s:St)(d:Nat)(x:Bo)(t:Nat):(s.AF (.root d x)).root t=if d=t∧d<s.ro.length then x else s.root t:=A4 _ _ _ _ _
theorem AW.slot(h:AW E s tm W)(d:Nat){x:AV}{u:Value}(hx:BU s W x u):AW E (s.AF (.slot d x)) (tm.setIfInBounds d u) W where
 DM:=by simp[St.AF,CY,h.DM]
 BQ:=by simp[St.AF,h.BQ]
 AO t:=by
  rw[BR];by_cases hd:d=t∧d<s.sl.length
  ·obtain⟨rfl,Vs⟩:=hd;rw[kF ⟨rfl,Vs⟩]
   have:(tm.setIfInBounds d u).getD d Go.undef=u:=by rw[h.DM]at Vs;simp[ky,Vs]
   rw[this];exact hx
  ·rw[kG hd]
   have:(tm.setIfInBounds d u).getD t Go.undef=tm.getD t Go.undef:=by
    by_cases bO:d=t
    ·have:¬d<tm.size:=fun hl=>hd ⟨bO,by rw[h.DM];exact hl⟩;grind
    ·simp[ky,bO]
   rw[this];exact h.AO t
 roots r:=h.roots r
 sep:=h.sep
 init:=h.init
theorem AW.outs(h:AW E s tm W)(dst:Option Nat){x:AV}{u:Value}(hx:BU s W x u):
  AW E (s.app (match dst with|some d=>[.slot d x]|none=>[])) (match dst with|some d=>tm.setIfInBounds d u|none=>tm) W:=by
 cases dst with
 |none=>exact h
 |some d=>exact h.slot d hx
theorem BP(v:Value):AP s W (ofConst v) v:=by
 cases v with
 |int k n=>exact⟨rfl,rfl⟩
 |bool b=>exact⟨rfl,rfl⟩
 |string b=>exact⟨by simp,rfl⟩
 |slice A n c=>
  cases A with
  |none=>cases n with
   |zero=>cases c with
    |zero=>exact rfl
    |succ c=>trivial
   |succ n=>trivial
  |some a=>trivial
 |pointer A=>cases A with
  |none=>exact rfl
  |some a=>trivial
 |_=>trivial
theorem A8(h:AW E s a.tmps W)(x:Operand):BU s W (s.Au x) (a.eval x):=by
 cases x with
 |tmp t=>exact h.AO t
 |const v=>
  cases v with
  |agg cs=>
   refine⟨cs,rfl,by simp,fun j b hj=>?_⟩;simp only[kN]at hj;cases hc:cs.toList[j]? with
   |none=>grind
   |some u=>
    rw[hc]at hj;injection hj with hj;subst hj
    exact⟨u,by grind,BP u⟩
  |bool b=>exact BP (s:=s) (W:=W) (.bool b)
  |int k n=>exact BP (s:=s) (W:=W) (.int k n)
  |float k n=>exact BP (s:=s) (W:=W) (.float k n)
  |complex k x y=>exact BP (s:=s) (W:=W) (.complex k x y)
  |string b=>exact BP (s:=s) (W:=W) (.string b)
  |pointer b=>exact BP (s:=s) (W:=W) (.pointer b)
  |slice b n c=>exact BP (s:=s) (W:=W) (.slice b n c)
  |map r=>exact BP (s:=s) (W:=W) (.map r)
  |chan r=>exact BP (s:=s) (W:=W) (.chan r)
  |func f x y=>exact BP (s:=s) (W:=W) (.func f x y)
  |nilFunc=>exact BP (s:=s) (W:=W) .nilFunc
  |iface t x=>exact BP (s:=s) (W:=W) (.iface t x)
  |nilIface=>exact BP (s:=s) (W:=W) .nilIface
  |tuple vs=>exact BP (s:=s) (W:=W) (.tuple vs)
 |global g=>exact trivial
 |func f=>exact rfl
theorem Ah(h:AW E s a.tmps W)(x:Operand):AP s W (s.Al x) (a.eval x):=by
 have:=A8 h x;unfold St.Al
 revert this
 cases s.Au x with
 |Dp vs=>intro _;trivial
 |bx as=>intro _;trivial
 |v g as=>
  cases g with
  |true=>intro _;cases as with
   |nil=>trivial
   |cons b bs=>cases bs<;>trivial
  |false=>cases as with
   |nil=>intro _;trivial
   |cons b bs=>cases bs with
    |nil=>intro h;exact h
    |cons=>intro _;trivial
theorem Hq(h:AW E s a.tmps W){u:Value}{x:AV}(Vx:(execOp a.eval o).run P W.w=.ok (.value u) W.w)(hx:BU s W x u):
  Bc P E o a W.w (s.app (match o.dst with|some d=>[.slot d x]|none=>[])):=by
 intro next Q hn
 unfold Oper.wp;rw[Vx];show next (a.put o.dst u) W.w
 refine hn _ W ?_ ?_
 ·cases o.dst<;>rfl
 ·have:=h.outs o.dst hx;cases hd:o.dst with
  |none=>rw[hd]at this;exact this
  |some d=>rw[hd]at this;exact this
theorem Oq(h:AW E s a.tmps W){x:Operand}(ho:o.op=.move x):Bc P E o a W.w (s.app (match o.dst with|some d=>[.slot d (s.Au x)]|none=>[])):=
 Hq h (by simp[execOp,ho]) (A8 h x)
theorem IntKind.Hd{i j:IntKind}(h:(IntKind.code i==IntKind.code j)=true):i=j:=IntKind.ES (by simpa using h)
theorem Bh(k:IntKind)(n:Int):BU s W (IY k n) (.int k n):=⟨rfl,rfl⟩
theorem Ci(b:Bool):BU s W (IM b) (.bool b):=⟨rfl,rfl⟩
theorem Ks(b:List UInt8):BU s W (PH b) (.string ⟨b.toArray⟩):=⟨rfl,rfl⟩
theorem L7{cx:Cx}(hc:Db P cx){t:TypeId}(h:Gz cx t .bool=true):P.underlying t=some .bool:=by
 unfold Gz at h;split at h
 ·rename_i ty ht;simp at h;obtain⟨l,hl,hf⟩:=(hc t ty ht).lone h.1;rw[hl]at h;have:=h.2;simp only[Ls.eq?]at this;obtain rfl:=L.Ds this;exact hf
 ·cases h
variable {T:Type}{β:Type}
theorem Ag{b:Bool}{x y:Step β}{t:β}(h:(Step.iff b x y).leads t):(b=true∧x.leads t)∨(b=false∧y.leads t):=by
 cases b
 ·exact .inr ⟨rfl,h⟩
 ·exact .inl ⟨rfl,h⟩
theorem NQ{op:BinOp}{y:Operand}{i:IntKind}{m n:Int}{k:AV→Step β}{t:β}(hz:isZero y=false→n≠0)(h:(MM op y i m n k).leads t)(tx:TypeId)(x:Operand)(w:World):
  ∃z r,(k z).leads t∧BU s W z r∧(do eqGuard op tx x y (.int i m) (.int i n);binOp op tx (.int i m) (.int i n):Sem Value).run P w=.ok r w:=by
 cases op<;>simp only[MM]at h
 case add=>exact⟨_,_,h,Bh _ _,by simp[eqGuard,binOp,Op.intArith]⟩
 case sub=>exact⟨_,_,h,Bh _ _,by simp[eqGuard,binOp,Op.intArith]⟩
 case mul=>exact⟨_,_,h,Bh _ _,by simp[eqGuard,binOp,Op.intArith]⟩
 case quo=>
  have h0:n≠0∧(k (IY i (i.wrap (Int.tdiv m n)))).leads t:=by
   split at h
   ·rcases Ag h with⟨_,h⟩|⟨hb,h⟩
    ·exact h.elim
    grind
   ·grind
  exact⟨_,_,h0.2,Bh _ _,by simp[eqGuard,binOp,Op.intDiv,h0.1]⟩
 case rem=>
  have h0:n≠0∧(k (IY i (Int.tmod m n))).leads t:=by
   split at h
   ·rcases Ag h with⟨_,h⟩|⟨hb,h⟩
    ·exact h.elim
    grind
   ·grind
  exact⟨_,_,h0.2,Bh _ _,by simp[eqGuard,binOp,Op.intDiv,h0.1]⟩
 case eql=>exact⟨_,_,h,Ci _,by simp[eqGuard,binOp,Op.intCmp]⟩
 case neq=>exact⟨_,_,h,Ci _,by simp[eqGuard,binOp,Op.intCmp]⟩
 case lss=>exact⟨_,_,h,Ci _,by simp[eqGuard,binOp,Op.intCmp]⟩
 case leq=>exact⟨_,_,h,Ci _,by simp[eqGuard,binOp,Op.intCmp]⟩
 case gtr=>exact⟨_,_,h,Ci _,by simp[eqGuard,binOp,Op.intCmp]⟩
 case geq=>exact⟨_,_,h,Ci _,by simp[eqGuard,binOp,Op.intCmp]⟩
 case and=>exact⟨_,_,h,Bh _ _,by simp[eqGuard,binOp,Op.intBits,Ox]⟩
 case or=>exact⟨_,_,h,Bh _ _,by simp[eqGuard,binOp,Op.intBits,Pe]⟩
 case xor=>exact⟨_,_,h,Bh _ _,by simp[eqGuard,binOp,Op.intBits,PA]⟩
 case shl=>
  rcases Ag h with⟨hb,h⟩|⟨_,h⟩
  ·have hb:¬n<0:=by have:=kp hb;omega
   exact⟨_,_,h,Bh _ _,by simp[eqGuard,binOp,Op.shift,Of,hb]⟩
  ·exact h.elim
 case shr=>
  rcases Ag h with⟨hb,h⟩|⟨_,h⟩
  ·have hb:¬n<0:=by have:=kp hb;omega
   exact⟨_,_,h,Bh _ _,by simp[eqGuard,binOp,Op.shift,Og,hb]⟩
  ·exact h.elim
 all_goals exact h.elim
theorem M5{op:BinOp}(hs:G9 op=true){y:Operand}{i j:IntKind}{m n:Int}{k:AV→Step β}{t:β}(h:(MM op y i m n k).leads t)(tx:TypeId)(x:Operand)(w:World):
  ∃z r,(k z).leads t∧BU s W z r∧(do eqGuard op tx x y (.int i m) (.int j n);binOp op tx (.int i m) (.int j n):Sem Value).run P w=.ok r w:=by
 cases op<;>simp only[G9,lh]at hs<;>simp only[MM]at h
 case shl=>
  rcases Ag h with⟨hb,h⟩|⟨_,h⟩
  ·have hb:¬n<0:=by have:=kp hb;omega
   exact⟨_,_,h,Bh _ _,by simp[eqGuard,binOp,Op.shift,Of,hb]⟩
  ·exact h.elim
 case shr=>
  rcases Ag h with⟨hb,h⟩|⟨_,h⟩
  ·have hb:¬n<0:=by have:=kp hb;omega
   exact⟨_,_,h,Bh _ _,by simp[eqGuard,binOp,Op.shift,Og,hb]⟩
  ·exact h.elim
theorem NP{op:BinOp}{y:Operand}{m n:Bool}{k:AV→Step β}{t:β}(h:(OE op m n k).leads t)(tx:TypeId)(gT:P.underlying tx=some .bool)(x:Operand)(w:World):
  ∃z r,(k z).leads t∧BU s W z r∧(do eqGuard op tx x y (.bool m) (.bool n);binOp op tx (.bool m) (.bool n):Sem Value).run P w=.ok r w:=by
 cases op<;>simp only[OE]at h
 case eql=>exact⟨_,_,h,Ci _,by simp[eqGuard,run_eql_bool _ tx m n gT]⟩
 case neq=>exact⟨_,.bool (!(m==n)),h,⟨rfl,rfl⟩,by simp[eqGuard,run_neq_bool _ tx m n gT]⟩
 all_goals exact h.elim
theorem NR{op:BinOp}{y:Operand}{m n:List UInt8}{k:AV→Step β}{t:β}(h:(OG op m n k).leads t)(tx:TypeId)(x:Operand)(w:World):
  ∃z r,(k z).leads t∧BU s W z r∧(do eqGuard op tx x y (.string ⟨m.toArray⟩) (.string ⟨n.toArray⟩);binOp op tx (.string ⟨m.toArray⟩) (.string ⟨n.toArray⟩):Sem Value).run P w=.ok r w:=by
 have tl:∀l:List UInt8,(⟨l.toArray⟩:ByteArray).toList=l:=fun l=>by simp
 cases op<;>simp only[OG]at h
 case eql=>exact⟨_,_,h,Ci _,by simp[eqGuard,binOp,Op.stringOp,tl]⟩
 case neq=>exact⟨_,_,h,Ci _,by simp[eqGuard,binOp,Op.stringOp,tl]⟩
 case add=>
  rcases Ag h with⟨hb,h⟩|⟨_,h⟩
  ·refine⟨_,_,h,Ks _,?_⟩;have hb:m.length+n.length≤4611686018427387904:=kp hb;have hr:=run_string_add_sum (P:=P) w ⟨m.toArray⟩ ⟨n.toArray⟩ (by simp[ByteArray.size];omega);rw[ByteArray.mk_append_mk]at hr;simp only[eqGuard,binOp];grind
  ·exact h.elim
 all_goals exact h.elim
theorem MN{cx:Cx}(hc:Db P cx){op:BinOp}{tx:TypeId}{x y:Operand}(h:AW E s a.tmps W){k:AV→Step β}{t:β}
  (hl:(binop (Gz cx tx .bool) op y (s.Al x) (s.Al y) k).leads t):
  ∃z r,(k z).leads t∧BU s W z r∧(do eqGuard op tx x y (a.eval x) (a.eval y);binOp op tx (a.eval x) (a.eval y):Sem Value).run P W.w=.ok r W.w:=by
 have h1:=Ah h x;have h2:=Ah h y
 have hz:∀(k:IntKind)(n:Int),s.Al y=.sc (.int k) n→isZero y=false→n≠0:=by
  intro k n hy h0;cases y with
  |const v=>
   cases v with
   |int j m=>
    simp only[St.Al,St.Au,AV.one?,ofConst]at hy;injection hy with e1 e2
    injection e1 with e1
    subst e1;subst e2;simp[isZero]at h0;exact h0
   |_=>simp[isZero]at h0
  |_=>simp[isZero]at h0
 revert h1 h2 hl hz
 generalize s.Al x=p;generalize s.Al y=q;intro hl h1 h2 hz;unfold binop at hl;split at hl
 ·rename_i l m n r;cases l with
  |int i=>cases n with
   |int j=>
    simp only at hl;split at hl
    ·rename_i aC;rw[h1.1,h2.1];cases hs:G9 op with
     |true=>exact M5 hs hl tx x _
     |false=>
      rw[hs,Bool.or_false]at aC;obtain rfl:=IntKind.Hd aC;exact NQ (hz _ _ rfl) hl tx x _
    ·exact hl.elim
   |_=>exact hl.elim
  |bool=>cases n with
   |bool=>
    simp only at hl;split at hl
    ·rename_i hb;rw[h1.1,h2.1];exact NP hl tx (L7 hc hb) x _
    ·exact hl.elim
   |_=>exact hl.elim
  |str=>cases n with
   |str=>
    rw[h1.1,h2.1];exact NR hl tx x _
   |_=>exact hl.elim
  |sl t e=>cases n<;>exact hl.elim
 ·exact hl.elim
theorem Ix{d:Nat}{w:World}{fz:Nat→Prop}{k:(t:TypeId)→(f:Ls)→List f.D→Step β}{t:β}:∀(e:Ls)(j:Nat) {g:Nat→Option Value} {x:e.D} {o:List Nat} {t':TypeId} {f:Ls} {h:Value},
  (JO e j x k).leads t→e.rd d w fz g x o→e.kinds[j]?=some (.sl t' f)→g j=some h→∃(ys:List f.D) (o':List Nat),(k t' f ys).leads t∧AD f d w fz h ys o'∧∀b∈o',b∈o
 | .nil,j,_,_,_,_,_,_,hl,_,_,_=>hl.elim
 | .one l,0,g,x,o,t',f,h,hl,hr,hk,hg=>by
  simp only[Ls.rd]at hr;obtain⟨v,hv,hr⟩:=hr;simp[Ls.kinds]at hk;subst hk;rw[hg]at hv;injection hv with hv;subst hv
  exact⟨x,o,hl,hr,fun b hb=>hb⟩
 | .one _,_+1,_,_,_,_,_,_,hl,_,_,_=>hl.elim
 | .cons l ls,0,g,x,o,t',f,h,hl,hr,hk,hg=>by
  simp only[Ls.rd]at hr;obtain⟨v,o1,o2,hv,hr,Z2,rfl⟩:=hr;simp[Ls.kinds]at hk;subst hk;rw[hg]at hv;injection hv with hv;subst hv
  exact⟨x.1,o1,hl,hr,fun b hb=>kK _ hb⟩
 | .cons l ls,j+1,g,x,o,t',f,h,hl,hr,hk,hg=>by simp only[Ls.rd]at hr;obtain⟨v,o1,o2,hv,hr,Z2,rfl⟩:=hr;obtain⟨ys,o',a,b,c⟩:=Ix ls j hl Z2 (by simpa[Ls.kinds]using hk) hg;grind
theorem MP{w:World}{fz:Nat→Prop}{k:(t:TypeId)→(e:Ls)→List e.D→Nat→Step β}{t:β}:∀(p:List (Nat×Nat)) {t0:TypeId} {e:Ls} {xs:List e.D} {d:Nat} {h:Value} {o:List Nat} {e':Ls} {v:Value},
  (O2 k p t0 e xs d).leads t→AD e d w fz h xs o→Je w p e h e' v→∃(t':TypeId) (ys:List e'.D) (d':Nat) (o':List Nat),(k t' e' ys d').leads t∧AD e' d' w fz v ys o'∧∀b∈o',b∈o
 | [],t0,e,xs,d,h,o,e',v,hl,hr,hn=>by obtain⟨rfl,rfl⟩:=hn;exact⟨t0,xs,d,o,hl,hr,fun b hb=>hb⟩
 |(i,j)::p,t0,e,xs,d,h,o,e',v,hl,hr,hn=>by
  obtain⟨a,len,c,t',f,h',rfl,hs,hi,hk,hc,hn⟩:=hn;obtain⟨A,c',hv,hle,hr⟩:=hr;injection hv with hA Ws WS
  subst hA;have XJ:i<xs.length:=Ws▸hi;rcases hr with hr|⟨g,os,Vr,V5,ho⟩
  ·have:=hr.2.1;omega
  obtain⟨x,hx,hl⟩:=hl;rw[j7 XJ]at hx;injection hx with hx;subst hx
  have hg:(fun j=>g (i*e.n+j)) j=some h':=by rw[Vr.cell (i*e.n+j)]at hc;exact hc
  obtain⟨ys,o',hl,Vw,Wb⟩:=Ix e j hl (V5 i XJ) hk hg;obtain⟨t2,zs,d2,o2,hl,hz,Yo⟩:=MP p hl Vw hn;grind
theorem Cd(h:AW E s tm W){c:Loc}{k:(t:TypeId)→(e:Ls)→List e.D→Nat→Step β}{t:β}(hl:(s.content c k).leads t):
  ∃(t0:TypeId) (e0:Ls) (xs0:List e0.D) (d0 gen:Nat),s.leaf c.r c.j=.arr c.AA gen t0 e0 xs0 d0∧(c.p=[]∨gen=c.gen)∧
   ∀(u:Value)(e':Ls)(v:Value),W.cv c.r c.j=some u→Je W.w c.p e0 u e' v→∃(t':TypeId) (ys:List e'.D) (d':Nat) (o':List Nat),(k t' e' ys d').leads t∧AD e' d' W.w W.fz v ys o'∧∀b∈o',b∈W.om (.lf c.r c.j):=by
 unfold St.content at hl;split at hl
 ·rename_i AA gen t0 e0 xs0 d0 Vl;split at hl
  ·rename_i Vt;simp only[j8,kI,kU]at Vt;obtain⟨hv,hg⟩:=Vt;subst hv;refine⟨t0,e0,xs0,d0,gen,Vl,hg.imp (fun h=>by cases hp:c.p<;>simp_all[isNil]) id,fun u e' v hu hn=>?_⟩;obtain⟨u',Vy,hr⟩:=(h.roots c.r).row Vl;rw[hu]at Vy;injection Vy with Vy;subst Vy
   exact MP c.p hl hr hn
  ·exact hl.elim
 ·exact hl.elim
theorem DQ(h:AW E s tm W){c:Loc}{v:Value}(hv:AP s W (.ref c) v){k:(t:TypeId)→(e:Ls)→List e.D→Nat→Step β}{t:β}(hl:(s.content c k).leads t):
  ∃(t':TypeId) (e':Ls) (ys:List e'.D) (d':Nat) (o':List Nat),(k t' e' ys d').leads t∧AD e' d' W.w W.fz v ys o'∧∀b∈o',b∈W.om (.lf c.r c.j):=by
 obtain⟨t0,e0,xs0,d0,gen,Vl,hp,hk⟩:=Cd h hl;obtain⟨u,e',hu,hn⟩:=hv gen t0 e0 xs0 d0 Vl hp;grind
theorem AD.len{e:Ls}{d:Nat}{w:World}{fz:Nat→Prop}{v:Value}{xs:List e.D}{o:List Nat}(h:AD e d w fz v xs o):∃A c,v=.slice A xs.length c∧xs.length≤c:=by obtain⟨A,c,hv,hc,_⟩:=h;grind
theorem CE.sub{α:Type}{n:Nat}{R:(Nat→Option Value)→α→List Nat→Prop}{own:Bool}{w:World}{fz:Nat→Prop}{A:Option Addr}{len c:Nat}{xs:List α}{o:List Nat}
  (h:CE n R own w fz (.slice A len c) xs o) {lo hi:Nat} (h1:lo≤hi) (h2:hi≤len):
  ∃o',CE n R own w fz (.slice (if c=lo then A else A.map (·.add (lo*n))) (hi-lo) (c-lo)) (Ev.sub xs lo hi) o'∧(∀b∈o',b∈o)∧(o.Nodup→o'.Nodup):=by
 obtain⟨A',c',hv,hc,h⟩:=h;injection hv with hA hl WS
 subst hA;subst hl;subst WS;have hlen:(Ev.sub xs lo hi).length=hi-lo:=by simp[Ev.sub];omega
 cases A with
 |none=>
  refine⟨[],⟨none,c-lo,?_,by rw[hlen];omega,?_⟩,by simp,by simp⟩
  all_goals grind
 |some a=>
  rcases h with h|⟨g,os,Vr,V5,ho⟩
  ·obtain⟨rfl,rfl,rfl⟩:=h;have XB:xs.length=0:=by omega
   have Ys:hi=0:=by omega
   have XI:lo=0:=by omega
   subst Ys;subst XI;have ba:xs=[]:=kD XB;subst ba;exact⟨[],⟨some a,0,by simp[Ev.sub],by simp[Ev.sub],.inl ⟨rfl,rfl,rfl⟩⟩,by simp,by simp⟩
  obtain⟨hs,arr,T,fr,hh,hn,hb,hg⟩:=Vr
  have V4:∀i (XJ:i<(Ev.sub xs lo hi).length),∃hx:lo+i<xs.length,(Ev.sub xs lo hi)[i]=xs[lo+i]:=by
   intro i XJ;have:lo+i<xs.length:=by rw[hlen]at XJ;omega
   exact⟨this,by simp[Ev.sub]⟩
  by_cases aP:c=lo
  ·have Ys:hi=lo:=by omega
   have ba:Ev.sub xs lo hi=[]:=by simp[Ev.sub,Ys]
   rw[kF aP,ba,Ys];refine⟨match own with|true=>[a.block]|false=>[],⟨some a,c-lo,by simp,by simp,.inr ⟨fun j=>arr[a.off+j]?,fun _=>[],⟨hs,arr,T,fr,hh,by rw[aP];simp;omega,hb,fun j=>rfl⟩,fun i hi=>by simp at hi,?_⟩⟩,?_,?_⟩
   ·cases own with
    |true=>simp
    |false=>exact⟨ho.1,rfl,fun _ _=>rfl⟩
   all_goals grind
  ·rw[kG aP]
   have XH:(a.add (lo*n)).block=a.block∧(a.add (lo*n)).off=a.off+lo*n∧(a.add (lo*n)).spot=none:=by
    unfold Addr.add;split
    ·grind
    ·grind
   refine⟨match own with|true=>a.block::(List.range (hi-lo)).flatMap fun i=>os (lo+i)|false=>[],
    ⟨some (a.add (lo*n)),c-lo,by grind,by omega,.inr ⟨fun j=>g (lo*n+j),fun i=>os (lo+i),⟨XH.2.2,arr,T,fr,by grind,?_,hb,fun j=>by grind⟩,fun i XJ=>?_,?_⟩⟩,?_,?_⟩
   ·rw[XH.2.1];have:lo*n+(c-lo)*n=c*n:=by rw[←kd];congr 1;omega
    omega
   ·grind
   ·grind
   ·grind
   ·cases own with
    |false=>simp
    |true=>
     intro Wi;rw[ho]at Wi;obtain⟨XS,X7⟩:=kQ.1 Wi;refine kQ.2 ⟨fun hm=>?_,?_⟩
     ·grind
     ·have e:(List.range (hi-lo)).flatMap (fun i=>os (lo+i))=((List.range (hi-lo)).map (lo + ·)).flatMap os:=by simp[List.flatMap_map]
      rw[e,←List.range'_eq_map_range];rw[List.range_eq_range']at X7
      have:List.range' 0 xs.length=List.range' 0 lo++(List.range' lo (hi-lo)++List.range' hi (xs.length-hi)):=by have e1:=List.range'_append_1 (s:=lo) (m:=hi-lo) (n:=xs.length-hi);have e2:=List.range'_append_1 (s:=0) (m:=lo) (n:=xs.length-lo);rw[show lo+(hi-lo)=hi by omega]at e1;rw[e1,show hi-lo+(xs.length-hi)=xs.length-lo by omega];rw[kO]at e2;rw[e2];congr 1;omega
      grind
end
end Go.Ev
namespace Go.Ev
def Seen(W:Wd)(rs:List Nat)(b:Nat):Prop:=W.fz b∨∃r∈rs,∃j,b∈W.om (.lf r j)
theorem GS:∀(ls:Ls) {d:Nat} {w:World} {fz:Nat→Prop} {g:Nat→Option Value} {x:ls.D} {o:List Nat},
  ls.rd d w fz g x o→∀(j:Nat)(lv:Lv),(unpack ls x)[j]?=some lv→∃u o',g j=some u∧lv.l.rd d w fz u lv.x o'∧∀b∈o',b∈o
 | .nil,_,_,_,_,_,_,_,j,lv,hj=>by simp[unpack]at hj
 | .one l,d,w,fz,g,x,o,h,j,lv,hj=>by
  simp only[Ls.rd]at h;obtain⟨v,hg,h⟩:=h;cases j with
  |zero=>simp[unpack]at hj;grind
  |succ j=>simp[unpack]at hj
 | .cons l ls,d,w,fz,g,x,o,h,j,lv,hj=>by
  simp only[Ls.rd]at h;obtain⟨v,o1,o2,hg,h1,h2,rfl⟩:=h;cases j with
  |zero=>simp[unpack]at hj;grind
  |succ j=>
   simp only[unpack,lH]at hj;obtain⟨u,o',a,b,c⟩:=GS ls h2 j lv hj;grind
theorem Bg:∀(ls:Ls) {w:World} {fz:Nat→Prop} {g:Nat→Option Value} {x:ls.D},
  (∀(j:Nat)(lv:Lv),(unpack ls x)[j]?=some lv→∃u,g j=some u∧lv.l.rd 0 w fz u lv.x [])→ls.rd 0 w fz g x []
 | .nil,_,_,_,_,_=>by simp only[Ls.rd]
 | .one l,w,fz,g,x,h=>by simp only[Ls.rd];exact h 0 ⟨l,x⟩ rfl
 | .cons l ls,w,fz,g,x,h=>by simp only[Ls.rd];obtain⟨u,hu,hr⟩:=h 0 ⟨l,x.1⟩ rfl;exact⟨u,[],[],hu,hr,Bg ls fun j lv hj=>h (j+1) lv (by simpa[unpack]using hj),rfl⟩
theorem Bm{e:Ls}{d:Nat}{w:World}{fz:Nat→Prop}:AD e d w fz (.slice none 0 0) ([]:List e.D) []:=⟨none,0,rfl,kT _,rfl,rfl⟩
section
variable {P:Program}{E:Cy}{s:St}{tm:Array Value}{W:Wd}{o:Oper}{a:Act}{β:Type}{t:β}
theorem Seen.mono{rs eL:List Nat}(h:∀r∈rs,r∈eL){b:Nat}(hb:Seen W rs b):Seen W eL b:=hb.imp id fun⟨r,hr,x⟩=>⟨r,h r hr,x⟩
theorem ET(h:AW E s tm W){c:Loc}{lo hi:Nat}{v:Value}(hv:AP s W (.win c lo hi) v){k:(t:TypeId)→(e:Ls)→List e.D→Nat→Step β}(hl:(s.content c k).leads t):
  ∃(t':TypeId) (e':Ls) (ys:List e'.D) (d':Nat) (o':List Nat),(k t' e' ys d').leads t∧AD e' d' W.w W.fz v (sub ys lo hi) o'∧(∀b∈o',b∈W.om (.lf c.r c.j)):=by
 obtain⟨t0,e0,xs0,d0,gen,Vl,hp,hk⟩:=Cd h hl;obtain⟨u,e',A,n,k',hu,hn,h1,h2,rfl⟩:=hv gen t0 e0 xs0 d0 Vl hp;obtain⟨t',ys,d',o',a,b,c'⟩:=hk u e' _ hu hn;obtain⟨o2,q1,q2,_⟩:=CE.sub b h1 h2;exact⟨t',e',ys,d',o2,a,q1,fun b hb=>c' b (q2 b hb)⟩
theorem Bj(h:AW E s tm W){l:L}{la:LA}{v:Value}(hv:AP s W la v){k:l.D→Step β}(hl:(s.datum l la k).leads t):
  ∃x,(k x).leads t∧l.rd 0 W.w (Seen W la.roots) v x []:=by
 unfold St.datum at hl;cases la with
 |sc m x=>
  simp only at hl;split at hl
  ·rename_i y hy;obtain⟨e,he⟩:=L.AH hy;subst e;subst he;exact⟨x,hl,L.AI m hv (fun b hb=>rfl) fun b hb=>.inl hb⟩
  ·exact hl.elim
 |CP=>
  cases l with
  |sl t' e=>exact⟨_,hl,by rw[show v=.slice none 0 0 from hv];exact Bm⟩
  |_=>exact hl.elim
 |ref c=>
  obtain⟨t',e',ys,d',o',hl,hr,ho⟩:=DQ h hv hl;split at hl
  ·rename_i y hy;obtain⟨e,he⟩:=L.AH hy;subst e;subst he;exact⟨ys,hl,hr.freeze fun b hb=>hb.elim .inl fun hb=>.inr ⟨c.r,by simp[LA.roots],c.j,ho b hb⟩⟩
  ·exact hl.elim
 |win c lo hi=>
  obtain⟨t',e',ys,d',o',hl,hr,ho⟩:=ET h hv hl;split at hl
  ·rename_i y hy;obtain⟨e,he⟩:=L.AH hy;subst e;subst he;exact⟨_,hl,hr.freeze fun b hb=>hb.elim .inl fun hb=>.inr ⟨c.r,by simp[LA.roots],c.j,ho b hb⟩⟩
  ·exact hl.elim
 |_=>exact hl.elim
theorem Es(h:AW E s tm W):∀ {ls:List L} {as:List LA} {g:Nat→Option Value} {k:List Lv→Step β},(∀(j:Nat)(b:LA),as[j]?=some b→∃u,g j=some u∧AP s W b u)→(s.data ls as k).leads t→
  ∃vs:List Lv,(k vs).leads t∧vs.length=as.length∧vs.map (·.l)=ls∧∀(j:Nat)(lv:Lv),vs[j]?=some lv→∃u,g j=some u∧lv.l.rd 0 W.w (Seen W (as.flatMap LA.roots)) u lv.x []
 | [],[],g,k,hg,hl=>⟨[],hl,rfl,rfl,fun j lv hj=>by simp at hj⟩
 | [],_::_,g,k,hg,hl=>hl.elim
 |_::_,[],g,k,hg,hl=>hl.elim
 |l::ls,b::as,g,k,hg,hl=>by
  obtain⟨u,hu,hb⟩:=hg 0 b rfl;obtain⟨x,hl,hx⟩:=Bj h hb hl;obtain⟨vs,hl,hn,hm,XV⟩:=Es h (g:=fun j=>g (j+1)) (fun j b hj=>hg (j+1) b (by grind)) hl;refine⟨⟨l,x⟩::vs,hl,by simp[hn],by simp[hm],fun j lv hj=>?_⟩;cases j with
  |zero=>
   simp at hj;subst hj;exact⟨u,hu,L.AI l hx (fun _ _=>rfl) fun b hb=>Seen.mono (fun r hr=>by simp[hr]) hb⟩
  |succ j=>
   obtain⟨u',Vy,hr⟩:=XV j lv (by simpa using hj);refine⟨u',Vy,L.AI lv.l hr (fun _ _=>rfl) fun b hb=>Seen.mono (fun r hr=>?_) hb⟩;grind
theorem Cz(r:Nat):∀(as:List LA)(j i:Nat),(A5 r j as)[i]?=(as[i]?).map (seen r (j+i))
 | [],j,i=>by simp[A5]
 |b::as,j,0=>by simp[A5]
 |b::as,j,i+1=>by simp only[A5,lH];rw[Cz r as (j+1) i,show j+1+i=j+(i+1) by omega]
theorem Jc(r:Nat):∀(as:List LA)(j:Nat),(A5 r j as).length=as.length
 | [],j=>rfl
 |b::as,j=>by simp[A5,Jc r as (j+1)]
theorem FF(r:Nat):∀(as:List LA)(j i:Nat),(BN r j as)[i]?=(as[i]?).map (IN r (j+i))
 | [],j,i=>by simp[BN]
 |b::as,j,0=>by simp[BN]
 |b::as,j,i+1=>by simp only[BN,lH];rw[FF r as (j+1) i,show j+1+i=j+(i+1) by omega]
theorem FG(r:Nat):∀(as:List LA)(j:Nat),(BN r j as).length=as.length
 | [],j=>rfl
 |b::as,j=>by simp[BN,FG r as (j+1)]
theorem LF(h:AW E s tm W){r j:Nat}{b:LA}{v:Value}(hb:s.leaf r j=b)(hc:W.cv r j=some v):AP s W (seen r j b) v:=by
 have hr:=(h.roots r).1 j;unfold St.leaf at hb;rw[hb,hc]at hr;cases b with
 |arr AA gen t' e xs d=>
  intro W5 t2 e2 xs2 d2 hl _;have:s.leaf r j=.arr AA gen t' e xs d:=hb;rw[this]at hl;injection hl with h1 h2 h3 h4
  subst h4;exact⟨v,e,hc,rfl,rfl⟩
 |_=>exact hr.2 v rfl
theorem M1(h:AW E s tm W){r j:Nat}{b:LA}{v:Value}(hb:s.leaf r j=b)(hc:W.cv r j=some v):AP s W (IN r j b) v:=by
 have hs:=LF h hb hc;cases b with
 |arr AA gen t' e xs d=>
  cases d with
  |succ d=>exact hs
  |zero=>
   obtain⟨u,hu,Vw⟩:=(h.roots r).row hb;have:u=v:=Option.some.inj (hu.symm.trans hc);subst this;show AD e 0 W.w W.fz u xs [];have hz:=AD.zero Vw;grind
 |_=>exact hs
theorem EV(c:Loc)(i d:Nat):∀(vs:List Lv)(off j:Nat),(Bq c i d off vs)[j]?=(vs[j]?).map fun v=>if Bs v.l&&decide (0<d)then LA.ref { c with p:=c.p++[(i,off+j)] }else .sc v.l v.x
 | [],off,j=>by simp[Bq]
 |v::vs,off,0=>by simp[Bq]
 |v::vs,off,j+1=>by simp only[Bq,lH];rw[EV c i d vs (off+1) j,show off+1+j=off+(j+1) by omega]
theorem KF{w:World}:∀(q:List (Nat×Nat)) {e:Ls} {h:Value} {e':Ls} {a:Addr} {n k:Nat} {i off:Nat} {t':TypeId} {f:Ls} {u:Value},
  Je w q e h e' (.slice (some a) n k)→a.spot=none→i<n→e'.kinds[off]?=some (.sl t' f)→w.cell? (at_ a (i*e'.n+off))=some u→Je w (q++[(i,off)]) e h f u
 | [],e,h,e',a,n,k,i,off,t',f,u,hn,hs,hi,hk,hc=>by obtain⟨rfl,rfl⟩:=hn;exact⟨a,n,k,t',f,u,rfl,hs,hi,hk,hc,rfl,rfl⟩
 |(i0,j0)::q,e,h,e',a,n,k,i,off,t',f,u,hn,hs,hi,hk,hc=>by obtain⟨a0,len,c0,t0,f0,h0,e0,s0,i1,k1,c1,hn⟩:=hn;exact⟨a0,len,c0,t0,f0,h0,e0,s0,i1,k1,c1,KF q hn hs hi hk hc⟩
theorem EC:∀(ls:Ls)(x:ls.D),(unpack ls x).map (·.l)=ls.kinds
 | .nil,_=>rfl
 | .one _,_=>rfl
 | .cons l ls,x=>by simp[unpack,Ls.kinds,EC ls x.2]
theorem Fz(h:AW E s tm W){la:LA}{v:Value}(hv:AP s W la v){n:Nat}{k:List LA→Step β}(hl:(s.DG la n k).leads t):
  ∃as:List LA,(k as).leads t∧as.length≤n∧∃(b off:Nat),v=.pointer (some ⟨b,off,none⟩)∧∀(j:Nat)(x:LA),as[j]?=some x→∃u,W.w.cell? ⟨b,off+j,none⟩=some u∧AP s W x u:=by
 unfold St.DG at hl;cases la with
 |ptr r j AA=>
  simp only at hl;split at hl
  ·rename_i Vt;simp only[j8,kI,kV]at Vt;obtain⟨⟨hb,Vu⟩,hlen⟩:=Vt;refine⟨_,hl,by rw[FG];simp;omega,W.bk r,j,hv hb Vu,fun i x hx=>?_⟩;rw[FF]at hx;obtain⟨_,WN⟩:=h.roots r;rw[kF hb]at WN;obtain⟨_,arr,T,fr,hh,_,V7,WE⟩:=WN;cases hy:((s.root r).ls.drop j |>.take n)[i]? with
   |none=>grind
   |some y=>
    rw[hy]at hx;injection hx with hx;subst hx
    have hi:i<n∧(s.root r).ls[j+i]?=some y:=by
     rw[List.getElem?_take]at hy;split at hy
     ·grind
     ·cases hy
    have Vs:j+i<(s.root r).ls.length:=(j9.1 hi.2).1;have Vl:s.leaf r (j+i)=y:=by unfold St.leaf;rw[Ai,hi.2];rfl
    have V6:W.cv r (j+i)=some (arr[j+i]'(by omega)):=by rw[WE];exact kX _
    refine⟨arr[j+i]'(by omega),?_,M1 h Vl V6⟩;rw[←V6,WE];simp[World.cell?,hh]
  ·exact hl.elim
 |D8 e x off=>
  obtain⟨a,g,arr,T,fr,hv,hz,hh,hg,Vw⟩:=hv;refine⟨_,hl,by simp;omega,a.block,a.off+off,hv,fun i y hy=>?_⟩;simp only[kN]at hy;cases hq:(((unpack e x).drop off).take n)[i]? with
  |none=>grind
  |some lv=>
   rw[hq]at hy;injection hy with hy;subst hy
   have hi:(unpack e x)[off+i]?=some lv:=by
    rw[List.getElem?_take]at hq;split at hq
    ·rw[List.getElem?_drop]at hq;exact hq
    ·cases hq
   obtain⟨u,o',hu,hr,ho⟩:=GS e Vw _ lv hi;have:o'=[]:=L.Bn lv.l hr;subst this;refine⟨u,?_,hr⟩;rw[hg]at hu;simp only[World.cell?,hh];grind
 |Bl c=>
  simp only at hl;split at hl
  ·exact hl.elim
  ·rename_i q i off hq;obtain⟨t0,e0,xs0,d0,gen,Vl,hp,hk⟩:=Cd h hl;dsimp only at Vl hp hk
   have Xu:c.p.length≤1∨gen=c.gen:=by
    rcases hp with hp|hp
    ·left;rw[Cn hq,hp];simp
    ·exact .inr hp
   obtain⟨q',i',dv,u,e',a,n',k',aZ,hu,hn,hs,hi,rfl⟩:=hv gen t0 e0 xs0 d0 Vl Xu;rw[hq]at aZ;injection aZ with aZ
   injection aZ with q1 q2
   injection q2 with q2 q3
   subst q1;subst q2;subst q3;obtain⟨t',ys,d',o',hl,hr,ho⟩:=hk u e' _ hu hn;obtain⟨x,hx,hl⟩:=hl;obtain⟨A,c',hv,hle,hr⟩:=hr;injection hv with hA hlen Wn
   subst hA;have XJ:i<ys.length:=hlen▸hi;rcases hr with hr|⟨g,os,Vr,V5,fN⟩
   ·omega
   rw[j7 XJ]at hx;injection hx with hx;subst hx
   refine⟨_,hl,?_,a.block,a.off+(i*e'.n+off),rfl,fun j y hy=>?_⟩
   ·have:∀(vs:List Lv)(off:Nat),(Bq { c with p:=q,gen:=s.J3 c.r c.j } i (dec d') off vs).length=vs.length:=by
     intro vs;induction vs with
     |nil=>intro _;rfl
     |cons v vs ih=>intro off;simp[Bq,ih]
    grind
   ·rw[EV]at hy;cases hz:(((unpack e' ys[i]).drop off).take n)[j]? with
    |none=>grind
    |some lv=>
     rw[hz]at hy;injection hy with hy
     have hj:(unpack e' ys[i])[off+j]?=some lv:=by
      rw[List.getElem?_take]at hz;split at hz
      ·grind
      ·cases hz
     obtain⟨w1,o1,iT,ZY,YC⟩:=GS e' (V5 i XJ) _ lv hj;have V6:W.w.cell? (at_ a (i*e'.n+(off+j)))=some w1:=by rw[Vr.cell];exact iT
     refine⟨w1,by rw[show a.off+(i*e'.n+off)+j=a.off+(i*e'.n+(off+j)) by omega];exact V6,?_⟩;subst hy;dsimp only;split
     ·rename_i XU;simp only[j8,kV]at XU;obtain⟨ll,lx⟩:=lv;cases ll with
      |sl t2 f=>
       intro gen2 t3 e3 xs3 d3 et eE;dsimp only at et eE;rw[Vl]at et;injection et with z1 z2 z3 z4
       subst z4;refine⟨u,f,hu,?_⟩
       have hY:e'.kinds[off+j]?=some (.sl t2 f):=by rw[←EC e' ys[i],kN,hj];rfl
       exact KF q hn hs hi hY V6
      |_=>simp[Bs]at XU
     ·rename_i XU
      have hzero:lv.l.rd 0 W.w W.fz w1 lv.x []:=by
       obtain⟨ll,lx⟩:=lv;cases ll with
       |sl t2 f=>
        have hd:dec d'=0:=by simp[Bs]at XU;exact XU
        rw[hd]at ZY;have:o1=[]:=L.Bn _ ZY;grind
       |int k=>exact⟨ZY.1,rfl⟩
       |bool=>exact⟨ZY.1,rfl⟩
       |str=>exact⟨ZY.1,rfl⟩
      exact hzero
 |_=>exact hl.elim
end
end Go.Ev
namespace Go.Ev
def O8(dst:Option Nat)(x:AV):List Wr:=match dst with
 |some d=>[.slot d x]
 |none=>[]
theorem AM{dst:Option Nat}{x:AV}{ws:List Wr}(h:(match dst with|some d=>Step.go [Wr.slot d x]|none=>Step.go []).leads ws):ws=O8 dst x:=by
 cases dst<;>exact h.symm
section
variable {P:Program}{E:Cy}{s:St}{W:Wd}{o:Oper}{a:Act}{ws:List Wr}{cx:Cx}{v:Nat}{β:Type}
theorem AR(h:AW E s a.tmps W){u:Value}{x:AV}(Vx:(execOp a.eval o).run P W.w=.ok (.value u) W.w)(hx:BU s W x u):Bc P E o a W.w (s.app (O8 o.dst x)):=Hq h Vx hx
theorem Ld{l:L}{la lb:LA}{u w:Value}{q:Bool}(ha:AP s W la u)(hb:AP s W lb w)(h:Oe l la lb=some q){t:TypeId}(ht:JA P t l)(d:Nat)(w0:World):(Op.equalIn (d+1) t u w).run P w0=.ok q w0:=by
 unfold Oe at h;cases l with
 |int k=>
  simp only at h;split at h
  ·rename_i i x j y;split at h
   ·rename_i hc;simp only[j8]at hc;obtain rfl:=IntKind.Hd hc.1;obtain rfl:=IntKind.Hd hc.2;injection h with h
    rw[show u=.int j x from ha.1,show w=.int j y from hb.1,run_equalIn_int w0 d t j j x y ht];subst h;rfl
   ·cases h
  ·cases h
 |bool=>
  simp only at h;split at h
  ·rename_i x y;injection h with h
   rw[show u=.bool x from ha.1,show w=.bool y from hb.1,run_equalIn_bool' w0 d t x y ht];subst h;rfl
  ·cases h
 |str=>
  simp only at h;split at h
  ·rename_i x y;injection h with h
   rw[show u=.string ⟨(show List UInt8 from x).toArray⟩from ha.1,show w=.string ⟨(show List UInt8 from y).toArray⟩from hb.1,run_equalIn_string w0 d t _ _ ht];have tl:∀l:List UInt8,(⟨l.toArray⟩:ByteArray).toList=l:=fun l=>by simp
   subst h;rw[tl,tl]
  ·cases h
 |sl t' e=>cases h
theorem I1{t:TypeId}{l:L}(h:JA P t l)(cs:Array Value)(n:Nat)(x:Value)(hx:cs[n]?=some x)(w:World):(part t cs n).run P w=.ok x w:=by
 unfold part;rw[Sem.run_bind]
 have YE:(isAgg t).run P w=.ok false w:=by
  unfold isAgg;rw[Sem.run_bind];cases l with
  |int k=>rw[run_underlying (show P.underlying t=some (.int k)from h)];rfl
  |bool=>rw[run_underlying (show P.underlying t=some .bool from h)];rfl
  |str=>rw[run_underlying (show P.underlying t=some .string from h)];rfl
  |sl t' e=>exact h.elim
 rw[YE];simp[hx]
theorem Gh{d:Nat}{xs ys:Array Value}{w0:World}:∀(fs:List Field)(ls:List L)(as bs:List LA)(n:Nat)(q:Bool),G0 P n fs ls→Fi ls as bs=some q→
  (∀(j:Nat)(b:LA),as[j]?=some b→∃u,xs[n+j]?=some u∧AP s W b u)→(∀(j:Nat)(b:LA),bs[j]?=some b→∃u,ys[n+j]?=some u∧AP s W b u)→
  (Op.eqFields (d+1) xs ys fs).run P w0=.ok q w0
 | [],[],[],[],n,q,hf,hq,h1,h2=>by simp only[Fi,Option.some.injEq]at hq;subst hq;rfl
 |f::fs,l::ls,a::as,b::bs,n,q,hf,hq,h1,h2=>by
  obtain⟨f1,f2,f3,f4⟩:=hf;simp only[Fi]at hq;split at hq
  ·rename_i p r hp hr;injection hq with hq;subst hq
   obtain⟨u,hu,iQ⟩:=h1 0 a rfl;obtain⟨v,hv,iR⟩:=h2 0 b rfl;have ih:=Gh (d:=d) (xs:=xs) (ys:=ys) (w0:=w0) fs ls as bs (n+1) r f4 hr (fun j b hj=>by rw[show n+1+j=n+(j+1) by omega];exact h1 (j+1) b (by grind)) (fun j b hj=>by rw[show n+1+j=n+(j+1) by omega];exact h2 (j+1) b (by grind));simp only[Op.eqFields];rw[kF f1,f2,Sem.run_bind,I1 f3 xs n u (by omega)];simp only[Result.andThen_ok];rw[Sem.run_bind,I1 f3 ys n v (by omega)];simp only[Result.andThen_ok];rw[Sem.run_bind,Ld iQ iR hp f3 d w0];simp only[Result.andThen_ok];cases p with
   |true=>grind
   |false=>simp
  ·cases hq
 | [],[],[],_::_,n,q,hf,hq,h1,h2=>by simp[Fi]at hq
 | [],[],_::_,_,n,q,hf,hq,h1,h2=>by simp[Fi]at hq
 |f::fs,l::ls,[],_,n,q,hf,hq,h1,h2=>by simp[Fi]at hq
 |f::fs,l::ls,_::_,[],n,q,hf,hq,h1,h2=>by simp[Fi]at hq
 | [],_::_,as,bs,n,q,hf,hq,h1,h2=>hf.elim
 |_::_,[],as,bs,n,q,hf,hq,h1,h2=>hf.elim
theorem MH(hc:Db P cx){op:BinOp}{tx:TypeId}{x y:Operand}{as bs:List LA}{u w:Value}(hu:E6 s W true as u)(hw:E6 s W true bs w){k:AV→Step β}{t:β}(hl:(MG cx op tx as bs k).leads t)(w0:World):
  ∃z r,(k z).leads t∧BU s W z r∧(do eqGuard op tx x y u w;binOp op tx u w:Sem Value).run P w0=.ok r w0:=by
 unfold MG at hl;split at hl
 ·rename_i ty Xf;split at hl
  ·rename_i heq;split at hl
   ·rename_i q hq;obtain⟨cs,rfl,_,h1⟩:=hu;obtain⟨ds,rfl,_,h2⟩:=hw;obtain⟨e1,e2,fs,e3,e4⟩:=(hc tx ty Xf).eqs heq;have Xg:P.fieldsOf tx=fs:=by unfold Program.fieldsOf;rw[e3]
    have Vx:(Op.equalIn 10000 tx (.agg cs) (.agg ds)).run P w0=.ok q w0:=by
     rw[run_equalIn_struct w0 9999 tx cs ds (by grind) e1,Xg];exact Gh (d:=9998) _ _ _ _ 0 q e4 hq (fun j b hj=>by rw[kO];exact h1 j b hj) (fun j b hj=>by grind)
    split at hl
    ·refine⟨_,_,hl,Ci _,?_⟩;rw[Sem.run_bind,run_eqGuard_agg w0 _ tx x y cs ds e2];simp only[Result.andThen_ok];rw[run_eql_struct,Vx];rfl
    ·refine⟨_,_,hl,Ci _,?_⟩;rw[Sem.run_bind,run_eqGuard_agg w0 _ tx x y cs ds e2];simp only[Result.andThen_ok];rw[run_neq_struct,Vx];rfl
    ·exact hl.elim
   ·exact hl.elim
  ·exact hl.elim
 ·exact hl.elim
theorem Mj(hc:Db P cx){op:BinOp}{tx:TypeId}{x y:Operand}{t:TypeId}{e:Ls}{xs:List e.D}{u w:Value}(hu:AP s W (.sc (.sl t e) xs) u)(hw:AP s W .CP w){k:AV→Step β}{z:β}(hl:(Mi cx op tx e xs k).leads z)(w0:World):
  ∃q r,(k q).leads z∧BU s W q r∧(do eqGuard op tx x y u w;binOp op tx u w:Sem Value).run P w0=.ok r w0:=by
 unfold Mi at hl;split at hl
 ·split at hl
  ·rename_i hr;rcases Ag hl with⟨_,hl⟩|⟨Vv,hl⟩
   ·exact hl.elim
   ·refine⟨_,_,hl,Ci _,?_⟩
    obtain⟨t',WI⟩:∃t',P.underlying tx=some (.slice t'):=by
     unfold isRow at hr;split at hr
     ·rename_i ty Xf;simp only[j8,kJ]at hr;obtain⟨Xi,hr⟩:=hr;split at hr
      ·rename_i f t0 XK;obtain⟨l',h1,h2⟩:=(hc tx ty Xf).lone Xi;rw[XK]at h1;injection h1 with h1
       subst h1;exact⟨_,h2.1⟩
      ·cases hr
     ·cases hr
    obtain⟨A,c,hv,hlen,hm⟩:=(L.IC (t:=t)).1 hu;have hw:w=.slice none 0 0:=hw;cases A with
    |none=>
     obtain⟨hm,_⟩:c=0∧([]:List Nat)=[]:=hm;have:xs=[]:=kD (by omega);subst this;cases Vv
    |some a=>
     rw[hv,hw,Sem.run_bind];show Result.andThen (.ok () w0) _=_;rw[Result.andThen_ok,run_neq_slice_nil w0 tx t' (some a) _ c WI];rfl
  ·exact hl.elim
 ·exact hl.elim
theorem Mm(hc:Db P cx)(h:AW E s a.tmps W){op:BinOp}{tx ty:TypeId}{x y:Operand}(ho:o.op=.binOp op tx x y ty)(hl:(AB cx v o s).leads ws):Bc P E o a W.w (s.app ws):=by
 simp only[AB,ho]at hl
 have key:∃z r,(match o.dst with|some d=>Step.go [Wr.slot d z]|none=>Step.go []).leads ws∧BU s W z r∧(do eqGuard op tx x y (a.eval x) (a.eval y);binOp op tx (a.eval x) (a.eval y):Sem Value).run P W.w=.ok r W.w:=by
  split at hl
  ·rename_i as bs h1 h2;exact MH hc (by have:=A8 h x;rw[h1]at this;exact this) (by have:=A8 h y;rw[h2]at this;exact this) hl W.w
  ·rename_i t e xs h1 h2;exact Mj (t:=t) hc (by have:=A8 h x;rw[h1]at this;exact this) (by have:=A8 h y;rw[h2]at this;exact this) hl W.w
  ·exact MN (x:=x) hc h hl
 obtain⟨z,r,hl,hz,hr⟩:=key;rw[AM hl];refine AR h ?_ hz;simp only[execOp,ho];rw[Sem.run_bind,hr];rfl
theorem Np(h:AW E s a.tmps W){op:UnOp}{tx:TypeId}{x:Operand}(ho:o.op=.unOp op tx x)(hl:(AB cx v o s).leads ws):Bc P E o a W.w (s.app ws):=by
 simp only[AB,ho]at hl;have h1:=Ah h x
 revert hl h1
 generalize s.Al x=p;intro hl h1;split at hl
 ·rw[AM hl];rename_i b;refine AR h (u:=.bool (!b)) ?_ (Ci _);simp[execOp,ho,show a.eval x=.bool b from h1.1,Op.unary]
 ·rename_i k n;rw[AM hl];refine AR h (u:=.int k (k.wrap (OT n))) ?_ (Bh _ _);simp[execOp,ho,show a.eval x=.int k n from h1.1,Op.unary,Op.intArith,OT]
 ·exact hl.elim
theorem CC{t:TypeId}{ty:Ty}(hc:Db P cx)(ht:cx.ty t=some ty){l:L}(hl:ty.ls=.one l)(hg:ty.agg=false):GY P t l:=by obtain⟨l',h1,h2⟩:=(hc t ty ht).lone hg;grind
theorem Nn(h:AW E s a.tmps W){x y z:Operand}(ho:o.op=.pick x y z)(hl:(AB cx v o s).leads ws):Bc P E o a W.w (s.app ws):=by
 simp only[AB,ho]at hl;have h1:=Ah h x
 revert hl h1
 generalize s.Al x=p;intro hl h1;split at hl
 ·rename_i t;rcases Ag hl with⟨ht,hl⟩|⟨ht,hl⟩
  ·rw[AM hl];refine AR h (u:=a.eval y) ?_ (A8 h y);simp[execOp,ho,show a.eval x=.bool t from h1.1,asBool,show t=true from ht]
  ·rw[AM hl];refine AR h (u:=a.eval z) ?_ (A8 h z);simp[execOp,ho,show a.eval x=.bool t from h1.1,asBool,show t=false from ht]
 ·exact hl.elim
theorem HL{la:LA}{u:Value}(hv:AP s W la u)(ha:s.alive la=true):∃ad,u=.pointer (some ad):=by
 unfold St.alive at ha;cases la with
 |ptr r j AA=>
  simp only[j8,kI]at ha;exact⟨_,hv ha.1 ha.2⟩
 |Bl c=>
  simp only at ha;split at ha
  ·rename_i AA gen t e xs d hl;simp only[j8,kI,kU,kV]at ha;obtain⟨rfl,hg⟩:=ha;obtain⟨q,i,off,h',e',ad,n,k,_,_,_,_,_,hu⟩:=hv gen t e xs d hl hg;grind
  ·cases ha
 |D8 e x off=>obtain⟨ad,g,arr,T,fr,hu,_⟩:=hv;grind
 |_=>cases ha
theorem Kc{a:AV}{v:Value}(h:BU s W a v):AP s W a.one? v:=by
 cases a with
 |Dp vs=>trivial
 |bx as=>trivial
 |v g as=>
  cases g with
  |true=>trivial
  |false=>cases as with
   |nil=>trivial
   |cons b bs=>cases bs with
    |nil=>exact h
    |cons=>trivial
theorem Lk{tm:Array Value}(h:AW E s tm W){la:AV}{v:Value}(hv:BU s W la v){n:Nat}{β:Type}{t:β}{k:List LA→Step β}(hl:(s.FW la n k).leads t):
  ∃as:List LA,(k as).leads t∧as.length≤n∧∃(b off:Nat),v=.pointer (some ⟨b,off,none⟩)∧∀(j:Nat)(x:LA),as[j]?=some x→∃u,W.w.cell? ⟨b,off+j,none⟩=some u∧AP s W x u:=by
 cases la with
 |v g as=>exact Fz h (Kc hv) hl
 |Dp vs=>exact Fz h (Kc hv) hl
 |bx as=>
  simp only[St.FW]at hl;split at hl
  ·rename_i hlen;obtain⟨b,off,arr,T,fr,hp,hz,hh,We,V4⟩:=hv;refine⟨_,hl,by grind,b,off,hp,fun j x hx=>?_⟩
   have bu:as[j]?=some x:=by
    rw[List.getElem?_take]at hx;split at hx
    ·exact hx
    ·cases hx
   obtain⟨u,hu,WQ⟩:=V4 j x bu;exact⟨u,by simp[World.cell?,hh,hu],WQ⟩
  ·exact hl.elim
theorem KK(h:AW E s a.tmps W){x:Operand}(ho:o.op=.nilCheck x)(hl:(AB cx v o s).leads ws):Bc P E o a W.w (s.app ws):=by
 simp only[AB,ho]at hl;have h1:=A8 h x
 have WU:∀p:AV,BU s W p (a.eval x)→(if s.alive p.one? then(match o.dst with|some d=>(.go [.slot d (one p.one?)]:Step (List Wr))|none=>.go [])else .none).leads ws→Bc P E o a W.w (s.app ws):=by
  intro p h1 hl;have h1:=Kc h1;split at hl
  ·rename_i gB;obtain⟨ad,hp⟩:=HL h1 gB;rw[AM hl];exact AR h (u:=a.eval x) (by simp[execOp,ho,hp]) h1
  ·exact hl.elim
 generalize s.Au x=p at hl h1;cases p with
 |bx as=>
  have h2:=h1;obtain⟨b,off,arr,T,fr,hp,_⟩:=h1;rw[AM hl];exact AR h (u:=a.eval x) (by simp[execOp,ho,hp]) h2
 |v g as=>grind
 |Dp vs=>grind
theorem EP{la:LA}{u:Value}(hv:AP s W la u){β:Type}{k:Int→Step β}{t:β}(hl:(asInt la k).leads t):∃j n,u=.int j n∧(k n).leads t:=by
 unfold asInt at hl;cases la with
 |sc l x=>cases l with
  |int j=>exact⟨j,x,hv.1,hl⟩
  |_=>exact hl.elim
 |_=>exact hl.elim
theorem Nc{la:LA}{u:Value}(hv:AP s W la u){β:Type}{k:Int→Step β}{t:β}(hl:(OQ la k).leads t):∃(n:Int) (b:ByteArray),(k n).leads t∧u=.string b∧n=b.size:=by
 unfold OQ at hl;cases la with
 |sc l x=>cases l with
  |str=>exact⟨_,_,hl,hv.1,rfl⟩
  |_=>exact hl.elim
 |_=>exact hl.elim
theorem MX(h:AW E s a.tmps W){la:LA}{u:Value}(hv:AP s W la u){β:Type}{k:Int→Step β}{t:β}(hl:(lenOf s la k).leads t):
  ∃n:Int,(k n).leads t∧∃A len c,u=.slice A len c∧n=(len:Int):=by
 unfold lenOf at hl;cases la with
 |sc l x=>cases l with
  |sl t e=>
   obtain⟨A,c,hu,_⟩:=AD.len (show AD e 0 W.w W.fz u x []from hv);grind
  |_=>exact hl.elim
 |CP=>exact⟨_,hl,none,0,0,hv,rfl⟩
 |ref c=>
  obtain⟨t',e',ys,d',o',hl,hr,ho⟩:=DQ h hv hl;obtain⟨A,c,hu,_⟩:=hr.len;grind
 |win c lo hi=>
  obtain⟨t',e',ys,d',o',hl,hr,ho⟩:=ET h hv hl;obtain⟨A,c,hu,_⟩:=hr.len;grind
 |_=>exact hl.elim
theorem Nk(hc:Db P cx)(h:AW E s a.tmps W){t:TypeId}{x:Operand}(ho:o.op=.load t x)(hl:(AB cx v o s).leads ws):Bc P E o a W.w (s.app ws):=by
 simp only[AB,ho]at hl;split at hl
 ·rename_i ty ht;have Xf:=hc t ty ht;obtain⟨as,hl,_,b,off,hx,V4⟩:=Lk h (A8 h x) hl;split at hl
  ·rename_i hlen;have hlen:as.length=ty.ls.n:=by simpa using hlen
   rw[AM hl];cases Xi:ty.agg with
   |false=>
    obtain⟨l,XK,XI⟩:=Xf.lone Xi;rw[XK]at hlen
    obtain⟨y,rfl⟩:∃y,as=[y]:=by
     match as,hlen with
     | [y],_=>grind
    obtain⟨u,hu,hy⟩:=V4 0 y rfl;obtain⟨d,hd,Wi⟩:=XI.JR;refine AR h (u:=u) ?_ (show BU s W (.v false [y]) u from hy)
    have YE:(isAgg t).run P W.w=.ok false W.w:=by
     unfold isAgg;rw[Sem.run_bind,run_underlying hd];cases d<;>simp_all
    simp only[kz]at hu;simp[execOp,ho,Instr.loadAt,hx,Instr.sureAddr,loadVar,YE,load,Sem.run,hu]
   |true=>
    obtain⟨fs,Xg,_⟩:=Xf.agg Xi;obtain⟨i,hi,V7,_⟩:=Xf.info
    let f:Nat→Value:=fun j=>(W.w.cell? ⟨b,off+j,none⟩).getD Go.undef
    let cs:List Value:=(List.range as.length).map f
    have Xt:∀j u,cs[j]?=some u→W.w.cell? ⟨b,off+j,none⟩=some u:=by
     intro j u hj;simp only[cs,kN]at hj;by_cases Vs:j<as.length
     ·rw[List.getElem?_range Vs]at hj;simp at hj;obtain⟨u',Vy,_⟩:=V4 j as[j] (j7 Vs);grind
     ·grind
    have Vx:=run_loadVar_mid (P:=P) W.w b off t cs (.struct fs) (fun j u hj=>Xt j u hj) Xg rfl (by grind);refine AR h (u:=.agg cs.toArray) ?_ ?_
    ·simp[execOp,ho,Instr.loadAt,hx,Instr.sureAddr,Vx]
    ·refine⟨cs.toArray,rfl,by simp[cs],fun j y hy=>?_⟩;grind
  ·exact hl.elim
 ·exact hl.elim
theorem OX(hc:Db P cx)(h:AW E s a.tmps W){c:Call}(ho:o.op=.call c)(hb:c.callee=.builtin .len)(hl:(AB cx v o s).leads ws):Bc P E o a W.w (s.app ws):=by
 simp only[AB,ho,hb]at hl;split at hl
 ·rename_i x t hx ht;split at hl
  ·rename_i ty Xf;split at hl
   ·exact hl.elim
   ·rename_i Xi;have WJ:c.args = #[x]:=by grind
    have Zh:c.argTypes = #[t]:=by grind
    obtain⟨cal,args,ats⟩:=c;dsimp only at hb WJ Zh;subst hb;subst WJ;subst Zh;split at hl
    ·rename_i XK;obtain⟨n,b,hl,hu,rfl⟩:=Nc (Ah h x) hl;rw[AM hl];refine AR h (u:=.int .i64 b.size) ?_ (Bh _ _);have WI:P.underlying t=some .string:=CC hc Xf XK (by grind);simp[execOp,ho,resolve,invoke,builtin,Builtin.len_,hu,run_underlying WI,goInt]
    ·rename_i t' e XK;obtain⟨n,hl,A,len,k,hu,rfl⟩:=MX h (Ah h x) hl;rw[AM hl];refine AR h (u:=.int .i64 len) ?_ (Bh _ _);have WI:=(CC hc Xf XK (by grind)).1;simp[execOp,ho,resolve,invoke,builtin,Builtin.len_,hu,run_underlying WI,goInt]
    ·exact hl.elim
  ·exact hl.elim
 ·exact hl.elim
end
end Go.Ev
namespace Go.Ev
theorem F3{α:Type}:∀(l:List α)(i:Nat),H5 l i=l[i]?
 | [],i=>by simp[H5]
 |x::xs,0=>by simp[H5]
 |x::xs,i+1=>by simp[H5,F3 xs i]
section
variable {P:Program}{E:Cy}{s:St}{W:Wd}{o:Oper}{a:Act}{ws:List Wr}{cx:Cx}{v:Nat}
theorem addr_add(b off n:Nat):(⟨b,off,none⟩:Addr).add n=⟨b,off+n,none⟩:=by unfold Addr.add;grind
theorem Kb(ad:Addr)(k n:Nat):(at_ ad k).add n=at_ ad (k+n):=by unfold at_;rw[addr_add];grind
theorem Jv(hc:Db P cx){t:TypeId}{ty:Ty}(ht:cx.ty t=some ty){f fo:Nat}{ft:TypeId}(hf:(if ty.agg=true then H5 ty.fs f else none)=some (fo,ft)):
  ty.agg=true∧∃(fs:Array Field) (fd:Field),P.underlying t=some (.struct fs)∧fs[f]?=some fd∧fd.offset=fo∧fd.type=ft:=by
 split at hf
 ·rename_i Xi;obtain⟨fs,hu,Xg,_⟩:=(hc t ty ht).agg Xi;rw[F3,←Xg,kN]at hf;grind
 ·cases hf
theorem LG(hc:Db P cx){t:TypeId}{ty:Ty}(ht:cx.ty t=some ty)(w:World):(sizeOf t).run P w=.ok ty.ls.n w:=by obtain⟨i,hi,hs,_⟩:=(hc t ty ht).info;simp[sizeOf,typeInfo,hi,hs]
theorem CW:∀(q:List (Nat×Nat)) (i off:Nat),Am (q++[(i,off)])=some (q,i,off)
 | [],i,off=>rfl
 | [x],i,off=>rfl
 |x::y::r,i,off=>by have:=CW (y::r) i off;simp only[lJ]at this ⊢;simp only[Am];rw[this]
theorem JT(hc:Db P cx)(h:AW E s a.tmps W){t:TypeId}{x:Operand}{f:Nat}(ho:o.op=.fieldAddr t x f)(hl:(AB cx v o s).leads ws):
  Bc P E o a W.w (s.app ws):=by
 simp only[AB,ho]at hl;split at hl
 ·rename_i ty ht;split at hl
  ·rename_i fo ft hf;obtain⟨Xi,fs,fd,hu,eb,rfl,rfl⟩:=Jv hc ht hf;split at hl
   ·rename_i tf cJ;split at hl
    ·exact hl.elim
    ·rename_i Vv;have V7:=LG hc cJ W.w;simp only[kI]at Vv;have h0:=A8 h x
     have run:∀ad:Addr,a.eval x=.pointer (some ad)→(execOp a.eval o).run P W.w=.ok (.value (.pointer (some (ad.add fd.offset)))) W.w:=by intro ad Wt;simp[execOp,ho,Instr.fieldAt,run_underlying hu,eb,Wt,Instr.sureAddr,fieldPlace,V7,Vv]
     have WU:∀h1:AP s W (s.Al x) (a.eval x),(∀as,s.Au x≠.bx as)→s.alive (s.Al x)=true→(match s.Al x with
       | .ptr r j AA=>(match o.dst with|some d=>(.go [.slot d (one (.ptr r (j+fd.offset) AA))]:Step (List Wr))|none=>.go [])
       | .D8 e y j=>(match o.dst with|some d=>(.go [.slot d (one (.D8 e y (j+fd.offset)))]:Step (List Wr))|none=>.go [])
       | .Bl c=>match Am c.p with
        |some (q,i,off)=>(match o.dst with|some d=>(.go [.slot d (one (.Bl { c with p:=q++[(i,off+fd.offset)] }))]:Step (List Wr))|none=>.go [])
        |none=>.none
       |_=>.none:Step (List Wr)).leads ws→Bc P E o a W.w (s.app ws):=by
      intro h1 ZL Zg hl;obtain⟨ad,Wt⟩:=HL h1 Zg;have run:=run ad Wt;clear ZL;generalize s.Al x=p at hl h1 Zg;split at hl
      ·rename_i r j AA;rw[AM hl];refine AR h run ?_;intro hb Vu;have:=h1 hb Vu;rw[Wt]at this;injection this with this;injection this with this
       subst this;rw[addr_add]
      ·rename_i e y j;rw[AM hl];refine AR h run ?_;obtain⟨bD,g,arr,T,fr,hv,rest⟩:=h1;rw[Wt]at hv;injection hv with hv;injection hv with hv
       subst hv;exact⟨bD,g,arr,T,fr,by rw[Kb],rest⟩
      ·rename_i c;split at hl
       ·rename_i q i off hq;rw[AM hl];refine AR h run ?_;intro gen t0 e0 xs0 d0 Vl hp;dsimp only at Vl hp
        obtain⟨q',i',dv,h',e',bD,n,k,aZ,WE,hn,hs,hi,hv⟩:=h1 gen t0 e0 xs0 d0 Vl (by
         rcases hp with hp|hp
         ·left;rw[Cn hq];simpa using hp
         omega)
        rw[hq]at aZ;injection aZ with aZ;injection aZ with z1 z2;injection z2 with z2 z3
        subst z1;subst z2;subst z3;rw[Wt]at hv;injection hv with hv;injection hv with hv
        subst hv;exact⟨q,i,off+fd.offset,h',e',bD,n,k,CW _ _ _,WE,hn,hs,hi,by rw[Kb,Nat.add_assoc]⟩
       ·exact hl.elim
      ·exact hl.elim
     have dZ:∀p,s.Au x=p→(∀as,p≠.bx as)→(if !s.alive p.one? then(.none:Step (List Wr))else match p.one? with
       | .ptr r j AA=>(match o.dst with|some d=>(.go [.slot d (one (.ptr r (j+fd.offset) AA))]:Step (List Wr))|none=>.go [])
       | .D8 e y j=>(match o.dst with|some d=>(.go [.slot d (one (.D8 e y (j+fd.offset)))]:Step (List Wr))|none=>.go [])
       | .Bl c=>match Am c.p with
        |some (q,i,off)=>(match o.dst with|some d=>(.go [.slot d (one (.Bl { c with p:=q++[(i,off+fd.offset)] }))]:Step (List Wr))|none=>.go [])
        |none=>.none
       |_=>.none).leads ws→Bc P E o a W.w (s.app ws):=by
      intro p hp ZL hl;have h1:AP s W (s.Al x) (a.eval x):=Ah h x;split at hl
      ·exact hl.elim
      ·rename_i gB;refine WU h1 (hp▸ZL) (by rw[St.Al,hp];grind) ?_;rw[St.Al,hp];exact hl
     generalize hq:s.Au x=p at hl h0;cases p with
     |bx as=>
      obtain⟨b,off,arr,T,fr,hv,hz,hh,We,V4⟩:=h0;have run:=run _ hv;rw[AM hl];refine AR h run ?_;refine⟨b,off+fd.offset,arr,T,fr,by rw[addr_add],hz,hh,We,fun j y hy=>?_⟩;grind
     |v g as=>exact dZ _ hq (by simp) hl
     |Dp vs=>exact dZ _ hq (by simp) hl
   ·exact hl.elim
  ·exact hl.elim
 ·exact hl.elim
theorem Mo(hc:Db P cx)(h:AW E s a.tmps W){t:TypeId}{x:Operand}{f:Nat}(ho:o.op=.field t x f)(hl:(AB cx v o s).leads ws):Bc P E o a W.w (s.app ws):=by
 simp only[AB,ho]at hl;have h1:=A8 h x
 revert hl h1
 generalize s.Au x=p;intro hl h1;split at hl
 ·rename_i ty as ht;split at hl
  ·rename_i fo ft hf;obtain⟨Xi,fs,fd,hu,eb,rfl,rfl⟩:=Jv hc ht hf;split at hl
   ·rename_i tf cJ;split at hl
    ·rename_i hle;have hle:fd.offset+tf.ls.n≤as.length:=kp hle;rw[AM hl];obtain⟨cs,Xt,V7,V4⟩:=h1
     have dP:∃u,(part fd.type cs fd.offset).run P W.w=.ok u W.w∧BU s W (.v tf.agg ((as.drop fd.offset).take tf.ls.n)) u:=by
      have dh:=hc _ _ cJ;cases cV:tf.agg with
      |false=>
       obtain⟨l,XK,XI⟩:=dh.lone cV;obtain⟨d,hd,Wi⟩:=XI.JR
       have YE:(isAgg fd.type).run P W.w=.ok false W.w:=by
        unfold isAgg;rw[Sem.run_bind,run_underlying hd];cases d<;>simp_all
       have hn:tf.ls.n=1:=by rw[XK];rfl
       rw[hn]at hle ⊢;have Vs:fd.offset<as.length:=by omega
       obtain⟨u,hu,WQ⟩:=V4 fd.offset as[fd.offset] (j7 Vs);refine⟨u,by simp[part,YE,hu],?_⟩
       have:(as.drop fd.offset).take 1=[as[fd.offset]]:=by rw[List.drop_eq_getElem_cons Vs];rfl
       rw[this];exact WQ
      |true=>
       obtain⟨fs',eh,_⟩:=dh.agg cV
       have YE:(isAgg fd.type).run P W.w=.ok true W.w:=by unfold isAgg;rw[Sem.run_bind,run_underlying eh];rfl
       refine⟨.agg (cs.extract fd.offset (fd.offset+tf.ls.n)),by simp[part,YE,LG hc cJ],_,rfl,by simp;omega,fun j y hy=>?_⟩;grind
     obtain⟨u,Vx,WQ⟩:=dP;exact AR h (u:=u) (by simp[execOp,ho,Instr.field,run_underlying hu,eb,Xt,asAgg,Vx]) WQ
    ·exact hl.elim
   ·exact hl.elim
  ·exact hl.elim
 ·exact hl.elim
theorem Kn(h:AW E s a.tmps W){x:Operand}{i:Nat}(ho:o.op=.extract x i)(hl:(AB cx v o s).leads ws):Bc P E o a W.w (s.app ws):=by
 simp only[AB,ho]at hl;have h1:=A8 h x
 revert hl h1
 generalize s.Au x=p;intro hl h1;split at hl
 ·rename_i vs;split at hl
  ·rename_i g as hn;rw[AM hl];rw[F3]at hn;obtain⟨us,bB,V7,V4⟩:=h1;obtain⟨u,hu,WQ⟩:=V4 i _ hn;exact AR h (u:=u) (by simp[execOp,ho,Instr.extract,bB,hu]) WQ
  ·exact hl.elim
 ·exact hl.elim
theorem Nl(h:AW E s a.tmps W){x:Operand}(ho:o.op=.move x)(hn:Hu (s.Au x)=false)(hl:(AB cx v o s).leads ws):Bc P E o a W.w (s.app ws):=by simp only[AB,ho,hn]at hl;rw[AM hl];exact AR h (u:=a.eval x) (by simp[execOp,ho]) (A8 h x)
theorem OZ(h:AW E s a.tmps W){c:Call}(ho:o.op=.call c)(hb:c.callee=.builtin .min)(hl:(AB cx v o s).leads ws):Bc P E o a W.w (s.app ws):=by
 simp only[AB,ho,hb]at hl;split at hl
 ·rename_i x y hx;have h1:=Ah h x;have h2:=Ah h y;generalize s.Al x=p at hl h1;generalize s.Al y=q at hl h2;split at hl
  ·rename_i k m j n;change Int at m n;rw[AM hl];have WJ:c.args = #[x,y]:=by grind
   obtain⟨cal,args,ats⟩:=c;dsimp only at hb WJ;subst hb;subst WJ;have e1:a.eval x=.int k m:=h1.1;have e2:a.eval y=.int j n:=h2.1
   have hr:(Builtin.min_ ats o.type #[.int k m,.int j n]).run P W.w=.ok (.int k (Ng m n)) W.w:=by rw[run_min_int2];unfold Ng;grind
   refine AR h (u:=.int k (Ng m n)) ?_ (Bh _ _);simp[execOp,ho,resolve,invoke,builtin,e1,e2];rw[hr];rfl
  ·exact hl.elim
 ·exact hl.elim
theorem OY(h:AW E s a.tmps W){c:Call}(ho:o.op=.call c)(hb:c.callee=.builtin .max)(hl:(AB cx v o s).leads ws):Bc P E o a W.w (s.app ws):=by
 simp only[AB,ho,hb]at hl;split at hl
 ·rename_i x y hx;have h1:=Ah h x;have h2:=Ah h y;generalize s.Al x=p at hl h1;generalize s.Al y=q at hl h2;split at hl
  ·rename_i k m j n;change Int at m n;rw[AM hl];have WJ:c.args = #[x,y]:=by grind
   obtain⟨cal,args,ats⟩:=c;dsimp only at hb WJ;subst hb;subst WJ;have e1:a.eval x=.int k m:=h1.1;have e2:a.eval y=.int j n:=h2.1
   have hr:(Builtin.max_ ats o.type #[.int k m,.int j n]).run P W.w=.ok (.int k (Nf m n)) W.w:=by rw[run_max_int2];unfold Nf;grind
   refine AR h (u:=.int k (Nf m n)) ?_ (Bh _ _);simp[execOp,ho,resolve,invoke,builtin,e1,e2];rw[hr];rfl
  ·exact hl.elim
 ·exact hl.elim
end
end Go.Ev
namespace Go.Ev
section
variable {P:Program}{E:Cy}{s:St}{W:Wd}{o:Oper}{a:Act}{ws:List Wr}{cx:Cx}{v:Nat}
theorem Fx(hc:Db P cx){t:TypeId}{e:Ls}(h:isRow cx t e=true):∃t',P.underlying t=some (.slice t')∧MC P t' e:=by
 unfold isRow at h;split at h
 ·rename_i ty ht;simp only[j8,kJ]at h;obtain⟨hg,h⟩:=h;split at h
  ·rename_i t' f XK;obtain rfl:=Ls.Ds h;exact⟨t',CC hc ht XK hg⟩
  ·cases h
 ·cases h
theorem KU(hc:Db P cx){t:TypeId}(h:Gz cx t .str=true):P.underlying t=some .string:=by
 unfold Gz at h;split at h
 ·rename_i ty ht;simp only[j8,kJ]at h;obtain⟨l,hl,hf⟩:=(hc t ty ht).lone h.1;rw[hl]at h;have:=h.2;simp only[Ls.eq?]at this;obtain rfl:=L.Ds this;exact hf
 ·cases h
theorem MC.sizeOf{t:TypeId}{e:Ls}(h:MC P t e)(w:World):(sizeOf t).run P w=.ok e.n w:=by obtain⟨i,hi,hs,_⟩:=h.info;simp[Go.sizeOf,typeInfo,hi,hs]
theorem Ip{α:Type}{xs:List α}{n:Int}{x:α}(h:NY xs n=some x):0≤n∧∃hx:n.toNat<xs.length,xs[n.toNat]=x:=by unfold NY at h;grind
theorem MR{α:Type}{xs:List α}{n:Int}(h:PG xs n=true):0≤n∧n.toNat<xs.length:=by unfold PG at h;grind
theorem Dm(hc:Db P cx){ti:TypeId}{e:Ls}(hr:isRow cx ti e=true){j:IntKind}{n:Int}{ad:Addr}{len c:Nat}(h0:0≤n)(hn:n.toNat<len)(w:World):
  (Instr.indexAt ti (.slice (some ad) len c) (.int j n)).run P w=.ok (.pointer (some (ad.add (n.toNat*e.n)))) w:=by
 obtain⟨t',hu,he⟩:=Fx hc hr;have:0≤n∧n<(len:Int):=by omega
 simp[Instr.indexAt,asIntOf,run_underlying hu,this,he.sizeOf]
theorem EM{ad:Addr}(hs:ad.spot=none)(k:Nat):ad.add k=at_ ad k:=by obtain⟨b,off,sp⟩:=ad;dsimp only at hs;subst hs;exact addr_add b off k
theorem JU(hc:Db P cx)(h:AW E s a.tmps W){ti:TypeId}{x i:Operand}(ho:o.op=.indexAddr ti x i)(hl:(AB cx v o s).leads ws):Bc P E o a W.w (s.app ws):=by
 simp only[AB,ho]at hl;obtain⟨j,n,hi,hl⟩:=EP (Ah h i) hl;have h1:=Ah h x;generalize s.Al x=p at hl h1;split at hl
 ·rename_i t e xs;split at hl
  ·rename_i hr;obtain⟨y,hy,hl⟩:=hl;rw[AM hl];obtain⟨h0,hx,he⟩:=Ip hy;have h1:AD e 0 W.w W.fz (a.eval x) xs []:=h1;obtain⟨A,c,hv,Wn,h1⟩:=h1;cases A with
   |none=>omega
   |some ad=>
    rcases h1 with h1|⟨g,os,Vr,V5,XA,_,_⟩
    ·omega
    have Vx:=Dm (P:=P) hc hr (j:=j) (ad:=ad) (c:=c) h0 hx W.w;refine AR h (u:=.pointer (some (ad.add (n.toNat*e.n)))) (by simp[execOp,ho,hi,hv,Vx]) ?_;obtain⟨hs,arr,T,fr,hh,gL,_,hg⟩:=Vr;rw[EM hs];refine⟨at_ ad (n.toNat*e.n),fun j=>g (n.toNat*e.n+j),arr,T,fr,by simp[at_],XA,hh,fun j=>?_,?_⟩
    ·show g _=_;rw[hg];simp[at_,Nat.add_assoc]
    ·have:=V5 n.toNat hx;rw[he]at this;have ho:os n.toNat=[]:=Ls.Bn e this;rw[ho]at this;exact this
  ·exact hl.elim
 ·rename_i c;have XS:=h1;obtain⟨t0,e0,xs0,d0,gen,Vl,hp,hk⟩:=Cd h hl;obtain⟨u,e',hu,hn⟩:=h1 gen t0 e0 xs0 d0 Vl hp;obtain⟨t',ys,d',o',hl,Vw,_⟩:=hk u e' _ hu hn;split at hl
  ·rename_i hr;rcases Ag hl with⟨hb,hl⟩|⟨_,hl⟩
   ·rw[AM hl];obtain⟨h0,hx⟩:=MR hb;obtain⟨A,cc,hv,Wn,Vw⟩:=Vw;cases A with
    |none=>omega
    |some ad=>
     rcases Vw with Vw|⟨g,os,Vr,V5,_⟩
     ·omega
     have Vx:=Dm (P:=P) hc hr (j:=j) (ad:=ad) (c:=cc) h0 hx W.w;refine AR h (u:=.pointer (some (ad.add (n.toNat*e'.n)))) (by simp[execOp,ho,hi,hv,Vx]) ?_;intro gen2 t2 e2 xs2 d2 WL ZB;dsimp only at WL ZB;rw[Vl]at WL;injection WL with z1 z2 z3 z4
     subst z4;rw[hv]at hn;exact⟨c.p,n.toNat,0,u,e',ad,_,cc,CW _ _ _,hu,hn,Vr.1,hx,by rw[EM Vr.1];rfl⟩
   ·exact hl.elim
  ·exact hl.elim
 ·rename_i c lo XJ;obtain⟨t0,e0,xs0,d0,gen,Vl,hp,hk⟩:=Cd h hl;obtain⟨u,e',A0,n0,k0,hu,hn,XI,Ys,hv⟩:=h1 gen t0 e0 xs0 d0 Vl hp;obtain⟨t',ys,d',o',hl,Vw,_⟩:=hk u e' _ hu hn;split at hl
  ·rename_i hr;rcases Ag hl with⟨hb,hl⟩|⟨_,hl⟩
   ·rw[AM hl];obtain⟨h0,hx⟩:=MR hb;obtain⟨A,cc,W0,Wn,Vw⟩:=Vw;injection W0 with z1 z2 z3
    subst z1;subst z2;subst z3;have bu:n.toNat<XJ-lo:=by simp[sub]at hx;omega
    cases A0 with
    |none=>omega
    |some ad=>
     rcases Vw with Vw|⟨g,os,Vr,V5,_⟩
     ·omega
     have Vv:k0≠lo:=by omega
     rw[kG Vv]at hv;have Vx:=Dm (P:=P) hc hr (j:=j) (ad:=ad.add (lo*e'.n)) (c:=k0-lo) h0 bu W.w;refine AR h (u:=.pointer (some ((ad.add (lo*e'.n)).add (n.toNat*e'.n)))) (by simp[execOp,ho,hi,hv,Vx]) ?_;intro gen2 t2 e2 xs2 d2 WL ZB;dsimp only at WL ZB;rw[Vl]at WL;injection WL with q1 q2 q3 q4
     subst q4;exact⟨c.p,lo+n.toNat,0,u,e',ad,_,k0,CW _ _ _,hu,hn,Vr.1,by omega,by rw[EM Vr.1,Kb,kd];rfl⟩
   ·exact hl.elim
  ·exact hl.elim
 ·exact hl.elim
theorem Mp(hc:Db P cx)(h:AW E s a.tmps W){ti:TypeId}{x i:Operand}(ho:o.op=.index ti x i)(hl:(AB cx v o s).leads ws):Bc P E o a W.w (s.app ws):=by
 simp only[AB,ho]at hl;obtain⟨j,n,hi,hl⟩:=EP (Ah h i) hl;have h1:=Ah h x;generalize s.Al x=p at hl h1;split at hl
 ·rename_i b;change List UInt8 at b;split at hl
  ·rename_i hr;have hu:=KU hc hr;obtain⟨y,hy,hl⟩:=hl;rw[AM hl];obtain⟨h0,hx,he⟩:=Ip hy;have e1:a.eval x=.string ⟨List.toArray (α:=UInt8) b⟩:=h1.1;refine AR h (u:=.int .u8 y.toNat) ?_ (Bh _ _)
   have V4:(⟨List.toArray (α:=UInt8) b⟩:ByteArray)[n.toNat]?=some y:=by rw[getElem?_pos _ _ (by simpa[ByteArray.size]using hx)];congr 1
   simp[execOp,ho,hi,e1,Instr.index,asIntOf,run_underlying hu,h0,V4]
  ·exact hl.elim
 ·exact hl.elim
theorem C1(h:AW E s a.tmps W){x:Option Operand}{d:Int}{β:Type}{k:Int→Step β}{t:β}(hl:(Df s x d k).leads t):
  ∃n:Int,(k n).leads t∧((x=none∧n=d)∨∃y j,x=some y∧a.eval y=.int j n):=by
 cases x with
 |none=>exact⟨d,hl,.inl ⟨rfl,rfl⟩⟩
 |some y=>
  obtain⟨j,n,hi,hl⟩:=EP (Ah h y) hl;grind
theorem Fc{isS:Bool}{len cap:Nat}{lo hi:Option Operand}{l m:Int}(XI:(lo=none∧l=0)∨∃y j,lo=some y∧a.eval y=.int j l)
  (Ys:(hi=none∧m=(len:Int))∨∃y j,hi=some y∧a.eval y=.int j m) (h0:0≤l) (h1:l≤m) (h2:m≤(cap:Int)) (w:World):
  (Instr.sliceBounds isS len cap (lo.map a.eval) (hi.map a.eval) none).run P w=.ok (l.toNat,m.toNat,cap) w:=by
 rcases XI with⟨rfl,rfl⟩|⟨y,j,rfl,hy⟩<;>rcases Ys with⟨rfl,rfl⟩|⟨z,k,rfl,hz⟩
 ·simp[Instr.sliceBounds]
 ·simp[Instr.sliceBounds,hz,Instr.sliceBound,asIntOf,h2,h1]
 ·simp[Instr.sliceBounds,hy,Instr.sliceBound,asIntOf,h0,h1]
 ·have:0≤m:=by omega
  have h3:l≤(m.toNat:Int):=by omega
  simp[Instr.sliceBounds,hy,hz,Instr.sliceBound,asIntOf,h0,h1,h2,this,h3];omega
theorem Mq(hc:Db P cx)(h:AW E s a.tmps W){ti:TypeId}{x:Operand}{lo hi:Option Operand}(ho:o.op=.slice ti x lo hi none)(hl:(AB cx v o s).leads ws):Bc P E o a W.w (s.app ws):=by
 simp only[AB,ho]at hl;have h1:=Ah h x;generalize s.Al x=p at hl h1;split at hl
 ·rename_i b;change List UInt8 at b;split at hl
  ·rename_i hr;have hu:=KU hc hr;obtain⟨l,hl,XI⟩:=C1 h hl;obtain⟨m,hl,Ys⟩:=C1 h hl;rcases Ag hl with⟨hb,hl⟩|⟨_,hl⟩
   ·simp only[j8,kV]at hb;obtain⟨⟨b0,b1⟩,b2⟩:=hb;rw[AM hl];have e1:a.eval x=.string ⟨b.toArray⟩:=h1.1;have Vx:=Fc (P:=P) (isS:=false) (len:=b.length) (cap:=b.length) XI Ys b0 b1 b2 W.w;refine AR h (u:=.string ((⟨b.toArray⟩:ByteArray).extract l.toNat m.toNat)) ?_ ?_
    ·have hs:(⟨b.toArray⟩:ByteArray).size=b.length:=by simp[ByteArray.size]
     simp[execOp,ho,e1,Instr.sliceAt,run_underlying hu,Instr.slice,hs,Vx]
    ·have:(⟨b.toArray⟩:ByteArray).extract l.toNat m.toNat=⟨(sub b l.toNat m.toNat).toArray⟩:=by apply ByteArray.ext;rw[ByteArray.data_extract];simp[sub,List.extract_eq_take_drop]
     rw[this];exact Ks _
   ·exact hl.elim
  ·exact hl.elim
 ·rename_i t e b;change List e.D at b;split at hl
  ·rename_i hr;obtain⟨l,hl,XI⟩:=C1 h hl;obtain⟨m,hl,Ys⟩:=C1 h hl;rcases Ag hl with⟨hb,hl⟩|⟨_,hl⟩
   ·simp only[j8,kV]at hb;obtain⟨⟨b0,b1⟩,b2⟩:=hb;rw[AM hl];obtain⟨t',hu,he⟩:=Fx hc hr;have h1:AD e 0 W.w W.fz (a.eval x) b []:=h1;obtain⟨A,c,hv,Wn⟩:=h1.len;rw[hv]at h1;obtain⟨o',q1,q2,_⟩:=CE.sub h1 (lo:=l.toNat) (hi:=m.toNat) (by omega) (by omega);have Xd:o'=[]:=CE.zero q1;subst Xd;have Vx:=Fc (P:=P) (isS:=true) (len:=b.length) (cap:=c) XI Ys b0 b1 (by omega) W.w;refine AR h (u:=.slice (if c=l.toNat then A else A.map (·.add (l.toNat*e.n))) (m.toNat-l.toNat) (c-l.toNat)) ?_ (show AP s W (.sc (.sl t e) (sub b l.toNat m.toNat)) _ from q1);simp[execOp,ho,hv,Instr.sliceAt,run_underlying hu,Instr.slice,Vx,he.sizeOf]
   ·exact hl.elim
  ·exact hl.elim
 ·rename_i c;obtain⟨t0,e0,xs0,d0,gen,Vl,hp,hk⟩:=Cd h hl;obtain⟨u,e',Vy,hn⟩:=h1 gen t0 e0 xs0 d0 Vl hp;obtain⟨t',ys,d',o',hl,Vw,_⟩:=hk u e' _ Vy hn;split at hl
  ·rename_i hr;obtain⟨l,hl,XI⟩:=C1 h hl;obtain⟨m,hl,Ys⟩:=C1 h hl;rcases Ag hl with⟨hb,hl⟩|⟨_,hl⟩
   ·simp only[j8,kV]at hb;obtain⟨⟨b0,b1⟩,b2⟩:=hb;rw[AM hl];obtain⟨t2,hu,he⟩:=Fx hc hr;obtain⟨A,cc,hv,Wn⟩:=Vw.len;have Vx:=Fc (P:=P) (isS:=true) (len:=ys.length) (cap:=cc) XI Ys b0 b1 (by omega) W.w;refine AR h (u:=.slice (if cc=l.toNat then A else A.map (·.add (l.toNat*e'.n))) (m.toNat-l.toNat) (cc-l.toNat)) ?_ ?_
    ·simp[execOp,ho,hv,Instr.sliceAt,run_underlying hu,Instr.slice,Vx,he.sizeOf]
    ·intro gen2 t3 e3 xs3 d3 hleaf3 eE;grind
   ·exact hl.elim
  ·exact hl.elim
 ·exact hl.elim
end
end Go.Ev
namespace Go.Ev
theorem BF(s:St):∀(xs ys:List Wr),s.app (xs++ys)=(s.app xs).app ys
 | [],ys=>rfl
 |x::xs,ys=>by show((s.AF x).app (xs++ys))=((s.AF x).app xs).app ys;exact BF (s.AF x) xs ys
theorem Ea(s:St)(r j:Nat)(x:LA)(r' j':Nat):(s.AF (.leaf r j x)).leaf r' j'=if r=r'∧j=j'∧r<s.ro.length∧j<(s.root r).ls.length then x else s.leaf r' j':=by
 have WG:(s.AF (.leaf r j x)).root r'=if r=r'∧r<s.ro.length then { s.root r with ls:=CZ (s.root r).ls j x }else s.root r':=A4 _ _ _ _ _
 unfold St.leaf;rw[WG];by_cases h:r=r'∧r<s.ro.length
 ·obtain⟨rfl,Vs⟩:=h;rw[kF ⟨rfl,Vs⟩];show nth LA.bad (CZ (s.root r).ls j x) j'=_;rw[A4];by_cases hj:j=j'∧j<(s.root r).ls.length
  ·rw[kF hj,kF ⟨rfl,hj.1,Vs,hj.2⟩]
  ·rw[kG hj,kG (fun hh=>hj ⟨hh.2.1,hh.2.2.2⟩)]
 grind
structure Jl(s s':St):Prop where
 sl:s'.sl=s.sl
 len:s'.ro.length=s.ro.length
 box:∀r,(s'.root r).box=(s.root r).box∧(s'.root r).AA=(s.root r).AA∧(s'.root r).ls.length=(s.root r).ls.length
theorem BI(s:St)(r j:Nat)(x:LA):Jl s (s.AF (.leaf r j x)) where
 sl:=rfl
 len:=CY _ _ _
 box r':=by
  have WG:(s.AF (.leaf r j x)).root r'=if r=r'∧r<s.ro.length then { s.root r with ls:=CZ (s.root r).ls j x }else s.root r':=A4 _ _ _ _ _
  rw[WG];by_cases h:r=r'∧r<s.ro.length
  ·obtain⟨rfl,Vs⟩:=h;rw[kF ⟨rfl,Vs⟩];exact⟨rfl,rfl,CY _ _ _⟩
  grind
theorem Dt(s:St):∀us:List (Nat×Nat),Jl s (s.app (gone us))∧∀r j,(s.app (gone us)).leaf r j=if(r,j)∈us then .bad else s.leaf r j
 | []=>⟨⟨rfl,rfl,fun _=>⟨rfl,rfl,rfl⟩⟩,fun r j=>by simp[gone,St.app]⟩
 |u::us=>by
  have h1:=BI s u.1 u.2 .bad;have h2:=Ea s u.1 u.2 .bad;obtain⟨a,b⟩:=Dt (s.AF (.leaf u.1 u.2 .bad)) us;refine⟨⟨a.sl.trans h1.sl,a.len.trans h1.len,fun r=>⟨(a.box r).1.trans (h1.box r).1,(a.box r).2.1.trans (h1.box r).2.1,(a.box r).2.2.trans (h1.box r).2.2⟩⟩,fun r j=>?_⟩;show((s.AF (.leaf u.1 u.2 .bad)).app (gone us)).leaf r j=_;rw[b,h2];by_cases hm:(r,j)∈us
  ·grind
  ·rw[kG hm];by_cases he:(r,j)=u
   ·have Vm:(r,j)∈u::us:=by rw[he];exact kR
    rw[kF Vm];subst he;split
    ·rfl
    ·rename_i Vv;unfold St.leaf;by_cases hr:r<s.ro.length
     ·rw[A6];exact lA fun hj=>Vv ⟨rfl,rfl,hr,hj⟩
     ·have:s.root r=dead:=A6 _ (lA hr);rw[this];rfl
   grind
section
variable {P:Program}{E:Cy}{s:St}{tm:Array Value}{W:Wd}{v:Nat}
def AN(W:Wd)(w':World)(us:List (Nat×Nat))(d:Nat)(cvd:Nat→Option Value)(bkd:Nat)(ob:List Nat)(oj:Nat→List Nat):Wd:=
 {w:=w',fz:=W.fz
  cv:=fun r j=>if r=d then cvd j else W.cv r j
  bk:=fun r=>if r=d then bkd else W.bk r
  om:=fun k=>match k with
   | .AT r=>if r=d then ob else W.om (.AT r)
   | .lf r j=>if r=d then oj j else if(r,j)∈us then []else W.om (.lf r j)
   | .fl _=>[] }
def Kept(us:List (Nat×Nat))(d:Nat):Key→Prop
 | .AT r=>r≠d
 | .lf r j=>r≠d∧(r,j)∉us
 | .fl _=>False
theorem AW.Kp(h:AW E s tm W)(hv:Af s v){us:List (Nat×Nat)}{d:Nat}(hd:d<tm.size){x:Bo}{a:AV}{u:Value}{w':World}{cvd:Nat→Option Value}{bkd:Nat}{ob:List Nat}{oj:Nat→List Nat}
  (hx:x.AA=v) (cM:∀(j AA gen:Nat)(t:TypeId)(e:Ls)(xs:List e.D)(dd:Nat),nth .bad x.ls j=.arr AA gen t e xs dd→AA=v)
  (hw:∀b,(W.fz b∨∃k,Kept us d k∧b∈W.om k)→w'.heap[b]?=W.w.heap[b]?)
  (We:∀b,b<E.base→¬E.io b→w'.heap[b]?=W.w.heap[b]?) (V7:W.w.heap.size≤w'.heap.size) (ho:w'.os=W.w.os∧w'.tape=W.w.tape∧w'.output=W.w.output)
  (ZL:ob.Nodup) (gK:∀j,(oj j).Nodup) (bM:∀j,∀b∈ob,b∉oj j) (eA:∀i j,i≠j→∀b∈oj i,b∉oj j)
  (Wf:∀b,(b∈ob∨∃j,b∈oj j)→(∃k,¬Kept us d k∧b∈W.om k)∨(W.w.heap.size≤b∧b<w'.heap.size))
  (WG:EL v s (s.app (gone us++[.root d x,.slot d a])) W (AN W w' us d cvd bkd ob oj)→(s.app (gone us++[.root d x,.slot d a])).root d=x→EK (s.app (gone us++[.root d x,.slot d a])) (AN W w' us d cvd bkd ob oj) d x)
  (ZN:EL v s (s.app (gone us++[.root d x,.slot d a])) W (AN W w' us d cvd bkd ob oj)→(s.app (gone us++[.root d x,.slot d a])).root d=x→BU (s.app (gone us++[.root d x,.slot d a])) (AN W w' us d cvd bkd ob oj) a u):
  AW E (s.app (gone us++[.root d x,.slot d a])) (tm.setIfInBounds d u) (AN W w' us d cvd bkd ob oj):=by
 obtain⟨Vq,Vl⟩:=Dt s us;generalize aG:s.app (gone us++[.root d x,.slot d a])=s' at *;rw[BF]at aG;generalize s.app (gone us)=s1 at Vq Vl aG;have cB:d<s1.ro.length:=by rw[Vq.len,h.BQ];exact hd
 have cd:d<s1.sl.length:=by rw[Vq.sl,h.DM];exact hd
 have Wx:∀r,s'.root r=if d=r then x else s1.root r:=by
  intro r;subst aG;show((s1.AF (.root d x)).AF (.slot d a)).root r=_;have:((s1.AF (.root d x)).AF (.slot d a)).root r=(s1.AF (.root d x)).root r:=rfl;rw[this,A3];by_cases YX:d=r
  ·grind
  ·grind
 have bq:∀t,s'.slot t=if d=t then a else s.slot t:=by
  intro t;subst aG;show((s1.AF (.root d x)).AF (.slot d a)).slot t=_;rw[BR];by_cases YX:d=t
  ·rw[kF ⟨YX,cd⟩,kF YX]
  ·rw[kG (fun hh=>YX hh.1),kG YX];show nth _ s1.sl t=_;rw[Vq.sl];rfl
 have aV:∀r j,s'.leaf r j=if d=r then nth .bad x.ls j else if(r,j)∈us then .bad else s.leaf r j:=by
  intro r j;unfold St.leaf;rw[Wx];by_cases YX:d=r
  ·grind
  ·rw[kG YX,kG YX];exact Vl r j
 have WD:EL v s s' W (AN W w' us d cvd bkd ob oj):={
  fz:=fun b hb=>hb
  Le:=fun b hb=>hw b (.inl hb)
  leaf:=by
   intro r j AA gen t e xs dd hl Vv;rw[aV]at hl;by_cases YX:d=r
   ·grind
   ·rw[kG YX]at hl;by_cases hm:(r,j)∈us
    ·grind
    ·rw[kG hm]at hl;refine⟨kG (fun e=>YX e.symm),gen,t,xs,dd,hl,fun _=>⟨rfl,fun p h' e' u' hc hn=>?_⟩⟩;obtain⟨u0,Wj,Vw⟩:=(h.roots r).row hl;rw[hc]at Wj;injection Wj with Wj;subst Wj
     exact BM p Vw hn fun b hb=>hw b (hb.elim (fun hb=>.inr ⟨.lf r j,⟨fun e=>YX e.symm,hm⟩,hb⟩) .inl)
  box:=by
   intro r hb Vv;rw[Wx]at hb Vv ⊢;by_cases YX:d=r
   ·grind
   ·rw[kG YX]at hb Vv ⊢;obtain⟨b1,b2,b3⟩:=Vq.box r;exact⟨b1▸hb,b2.symm,kG (fun e=>YX e.symm)⟩ }
 have XR:Sep E (AN W w' us d cvd bkd ob oj):=by
  refine h.sep.IE (fun k=>¬Kept us d k) rfl V7 We ho ?_ ?_ ?_ ?_
  ·intro k hk;have hk:Kept us d k:=lR.1 hk;cases k with
   |AT r=>exact kG hk
   |lf r j=>show(if r=d then oj j else if(r,j)∈us then []else W.om (.lf r j))=_;rw[kG hk.1,kG hk.2]
   |fl k=>exact hk.elim
  ·intro k hk;cases k with
   |AT r=>
    have:r=d:=lR.1 hk;show(if r=d then ob else W.om (.AT r)).Nodup;grind
   |lf r j=>
    show(if r=d then oj j else if(r,j)∈us then []else W.om (.lf r j)).Nodup;by_cases hr:r=d
    ·grind
    ·rw[kG hr];by_cases hm:(r,j)∈us
     ·grind
     ·exact absurd ⟨hr,hm⟩ hk
   |fl k=>exact kE
  ·intro k k' hk Wq Vv b hb Vz;cases k with
   |fl k=>cases hb
   |AT r=>
    have hr:r=d:=lR.1 hk;subst hr;have hb:b∈ob:=by have:b∈(if r=r then ob else W.om (.AT r)):=hb;grind
    cases k' with
    |fl k=>cases Vz
    |AT r'=>have WV:r'=r:=lR.1 Wq;grind
    |lf r' j'=>
     have Vz:b∈(if r'=r then oj j' else if(r',j')∈us then []else W.om (.lf r' j')):=Vz;by_cases WV:r'=r
     ·grind
     ·rw[kG WV]at Vz;by_cases hm:(r',j')∈us
      ·grind
      ·exact Wq ⟨WV,hm⟩
   |lf r j=>
    have hb:b∈(if r=d then oj j else if(r,j)∈us then []else W.om (.lf r j)):=hb;by_cases hr:r=d
    ·rw[kF hr]at hb;cases k' with
     |fl k=>cases Vz
     |AT r'=>
      have WV:r'=d:=lR.1 Wq;have Vz:b∈(if r'=d then ob else W.om (.AT r')):=Vz;grind
     |lf r' j'=>
      have Vz:b∈(if r'=d then oj j' else if(r',j')∈us then []else W.om (.lf r' j')):=Vz;by_cases WV:r'=d
      ·grind
      ·rw[kG WV]at Vz;by_cases hm:(r',j')∈us
       ·grind
       ·exact Wq ⟨WV,hm⟩
    ·rw[kG hr]at hb;by_cases hm:(r,j)∈us
     ·grind
     ·exact hk ⟨hr,hm⟩
  ·intro k hk b hb
   have XT:b∈ob∨∃j,b∈oj j:=by
    cases k with
    |fl k=>cases hb
    |AT r=>
     have hr:r=d:=lR.1 hk;have hb:b∈(if r=d then ob else W.om (.AT r)):=hb;grind
    |lf r j=>
     have hb:b∈(if r=d then oj j else if(r,j)∈us then []else W.om (.lf r j)):=hb;by_cases hr:r=d
     ·grind
     ·rw[kG hr]at hb;by_cases hm:(r,j)∈us
      ·grind
      ·exact absurd ⟨hr,hm⟩ hk
   exact Wf b XT
 refine h.IE hv WD XR ?_ ?_ ?_ ?_
 ·subst aG;simp only[St.app,St.AF,CY,Array.size_setIfInBounds];rw[Vq.sl,h.DM]
 ·subst aG;simp only[St.app,St.AF,CY,Array.size_setIfInBounds];rw[Vq.len,h.BQ]
 ·intro t;rw[bq];by_cases bO:d=t
  ·right;rw[kF bO];have:(tm.setIfInBounds d u).getD t Go.undef=u:=by subst bO;simp[ky,hd]
   grind
  ·left;rw[kG bO];exact⟨rfl,by simp[ky,bO]⟩
 ·intro r;rw[Wx];by_cases YX:d=r
  ·grind
  ·rw[kG YX];obtain⟨h1,h2⟩:=h.roots r;obtain⟨b1,b2,b3⟩:=Vq.box r;have Y2:¬r=d:=fun e=>YX e.symm;refine⟨fun j=>?_,?_⟩
   ·have e1:(AN W w' us d cvd bkd ob oj).cv r j=W.cv r j:=kG Y2;have e2:(AN W w' us d cvd bkd ob oj).om (.lf r j)=if(r,j)∈us then []else W.om (.lf r j):=kG Y2
    have e3:nth LA.bad (s1.root r).ls j=if(r,j)∈us then .bad else s.leaf r j:=Vl r j
    rw[e1,e2,e3];by_cases hm:(r,j)∈us
    ·rw[kF hm,kF hm];exact⟨rfl,fun _ _=>trivial⟩
    ·rw[kG hm,kG hm];exact Ab.DL WD (hv.2.1 r j) (fun b hb=>hw b (.inr ⟨.lf r j,⟨Y2,hm⟩,hb⟩)) (h1 j)
   ·have e1:(AN W w' us d cvd bkd ob oj).om (.AT r)=W.om (.AT r):=kG Y2;have e2:(AN W w' us d cvd bkd ob oj).bk r=W.bk r:=kG Y2;rw[b1,e1,e2];split
    ·rename_i hb;rw[kF hb]at h2;obtain⟨Xd,arr,T,fr,hh,a1,a2,a3⟩:=h2;refine⟨Xd,arr,T,fr,(hw _ (.inr ⟨.AT r,Y2,by rw[Xd];simp⟩)).trans hh,a1,by rw[b3];exact a2,fun j=>?_⟩;show(if r=d then cvd j else W.cv r j)=_;rw[kG Y2];exact a3 j
    grind
theorem AW.place(h:AW E s tm W)(hv:Af s v){us:List (Nat×Nat)}{d:Nat}(hd:d<tm.size){x:Bo}{a:AV}{u:Value}{w':World}{cvd:Nat→Option Value}{bkd:Nat}{ob:List Nat}{oj:Nat→List Nat}
  (hx:x.AA=v) (cM:∀(j AA gen:Nat)(t:TypeId)(e:Ls)(xs:List e.D)(dd:Nat),nth .bad x.ls j=.arr AA gen t e xs dd→AA=v)
  (hw:∀b,(W.fz b∨∃k,Kept us d k∧b∈W.om k)→w'.heap[b]?=W.w.heap[b]?)
  (We:∀b,b<E.base→¬E.io b→w'.heap[b]?=W.w.heap[b]?) (V7:W.w.heap.size≤w'.heap.size) (ho:w'.os=W.w.os∧w'.tape=W.w.tape∧w'.output=W.w.output)
  (ZL:ob.Nodup) (gK:∀j,(oj j).Nodup) (bM:∀j,∀b∈ob,b∉oj j) (eA:∀i j,i≠j→∀b∈oj i,b∉oj j)
  (Wf:∀b,(b∈ob∨∃j,b∈oj j)→(∃r j,(r,j)∈us∧b∈W.om (.lf r j))∨(W.w.heap.size≤b∧b<w'.heap.size))
  (WG:EL v s (s.app (gone us++[.root d x,.slot d a])) W (AN W w' us d cvd bkd ob oj)→(s.app (gone us++[.root d x,.slot d a])).root d=x→EK (s.app (gone us++[.root d x,.slot d a])) (AN W w' us d cvd bkd ob oj) d x)
  (ZN:EL v s (s.app (gone us++[.root d x,.slot d a])) W (AN W w' us d cvd bkd ob oj)→(s.app (gone us++[.root d x,.slot d a])).root d=x→BU (s.app (gone us++[.root d x,.slot d a])) (AN W w' us d cvd bkd ob oj) a u):
  AW E (s.app (gone us++[.root d x,.slot d a])) (tm.setIfInBounds d u) (AN W w' us d cvd bkd ob oj):=
 h.Kp hv hd hx cM hw We V7 ho ZL gK bM eA (fun b hb=>(Wf b hb).imp (fun⟨r,j,hm,h0⟩=>⟨.lf r j,fun hk=>hk.2 hm,h0⟩) id) WG ZN
end
end Go.Ev
namespace Go.Ev
section
variable {P:Program}{E:Cy}{s:St}{tm:Array Value}{W:Wd}{v:Nat}{cx:Cx}{β:Type}{t:β}
theorem AW.CT(h:AW E s tm W)(hv:Af s v)(us:List (Nat×Nat)){d:Nat}(hd:d<tm.size){t0:TypeId}{e:Ls}{xs:List e.D}{dd:Nat}{u:Value}{w':World}{o:List Nat}
  (hw:∀b,(W.fz b∨∃k,Kept us d k∧b∈W.om k)→w'.heap[b]?=W.w.heap[b]?)
  (We:∀b,b<E.base→¬E.io b→w'.heap[b]?=W.w.heap[b]?) (V7:W.w.heap.size≤w'.heap.size) (ho:w'.os=W.w.os∧w'.tape=W.w.tape∧w'.output=W.w.output)
  (hr:AD e dd w' W.fz u xs o) (hn:o.Nodup) (Wf:∀b∈o,(∃r j,(r,j)∈us∧b∈W.om (.lf r j))∨(W.w.heap.size≤b∧b<w'.heap.size)):
  ∃W',W'.w=w'∧AW E (s.app (gone us++[.root d ⟨false,v,[.arr v v t0 e xs dd]⟩,.slot d (one (.ref ⟨d,0,v,v,[]⟩))])) (tm.setIfInBounds d u) W':=by
 refine⟨AN W w' us d (fun j=>if j=0 then some u else none) 0 [] (fun j=>if j=0 then o else []),rfl,?_⟩;obtain⟨Vq,Vl⟩:=Dt s us;refine h.place hv hd rfl ?_ hw We V7 ho kE ?_ (fun j b hb=>by cases hb) ?_ ?_ ?_ ?_
 ·intro j AA gen t e xs dd' hl;cases j with
  |zero=>simp only[nth]at hl;grind
  |succ j=>simp[nth]at hl
 ·grind
 ·grind
 ·grind
 ·intro _ _;refine⟨fun j=>?_,?_⟩
  ·cases j with
   |zero=>
    refine⟨u,by simp[AN],?_⟩;have:(AN W w' us d (fun j=>if j=0 then some u else none) 0 [] (fun j=>if j=0 then o else [])).om (.lf d 0)=o:=by simp[AN]
    rw[this];exact hr
   |succ j=>
    have h1:nth LA.bad [LA.arr v v t0 e xs dd] (j+1)=.bad:=by simp[nth]
    have h2:(AN W w' us d (fun j=>if j=0 then some u else none) 0 [] (fun j=>if j=0 then o else [])).om (.lf d (j+1))=[]:=by simp[AN]
    rw[h1,h2];exact⟨rfl,fun _ _=>trivial⟩
  ·show(if false=true then _ else _);simp[AN]
 ·intro _ _ gen t e2 xs2 d2 hl hp;refine⟨u,e2,?_,rfl,rfl⟩;simp[AN]
def JB(s:St)(W:Wd)(v:Nat)(b:LA)(u:Value)(o:List Nat)(us:List (Nat×Nat)):Prop:=
 u.oneCell'=true∧o.Nodup∧(∀b∈o,∃r j,(r,j)∈us∧b∈W.om (.lf r j))∧match b with
  | .arr AA gen _ e xs d=>AA=v∧gen=v∧AD e d W.w W.fz u xs o
  |b=>o=[]∧AP s W b u∧v∉b.AG
theorem N7(A:Option Addr)(n c:Nat):(Value.slice A n c).cells = #[.slice A n c]:=rfl
theorem Er{u:Value}(h:u.oneCell'=true):u.cells = #[u]:=by
 cases u<;>first|rfl|cases h
theorem M0:∀(l:L) {w:World} {fz:Nat→Prop} {u:Value} {x:l.D},l.rd 0 w fz u x []→u.oneCell'=true
 | .int k,_,_,u,x,h=>by rw[show u=.int k x from h.1];rfl
 | .bool,_,_,u,x,h=>by rw[show u=.bool x from h.1];rfl
 | .str,_,_,u,x,h=>by rw[show u=.string ⟨x.toArray⟩from h.1];rfl
 | .sl _ e,_,_,u,x,h=>by obtain⟨A,c,hu,_⟩:=AD.len (show AD e 0 _ _ u x []from h);rw[hu];rfl
theorem LK(h:AW E s tm W){la:LA}(Xh:v∉la.AG){u:Value}(hu:AP s W la u){l:L}{k:LA→List (Nat×Nat)→Step β}(hl:(s.take cx v la l k).leads t):
  ∃b us o,(k b us).leads t∧JB s W v b u o us∧(∀x∈us,cx.Jf x.1=false)∧us.length≤1:=by
 unfold St.take at hl;cases la with
 |sc m x=>
  simp only at hl;split at hl
  ·exact⟨_,_,[],hl,⟨M0 m hu,kE,(fun b hb=>by cases hb),rfl,hu,Xh⟩,(fun x hx=>by cases hx),by simp⟩
  ·exact hl.elim
 |CP=>
  cases l with
  |sl t' e=>
   refine⟨_,_,[],hl,⟨by rw[show u=.slice none 0 0 from hu];rfl,kE,(fun b hb=>by cases hb),rfl,rfl,?_⟩,(fun x hx=>by cases hx),by simp⟩;rw[show u=.slice none 0 0 from hu];exact Bm
  |_=>exact hl.elim
 |ref c=>
  simp only at hl;split at hl
  ·rename_i AA gen t' e xs d Vl;split at hl
   ·obtain⟨t2,e2,ys,d2,o2,hl,hr,ho⟩:=DQ h hu hl;split at hl
    ·obtain⟨u0,_,iI⟩:=(h.roots c.r).row Vl;have hz:W.om (.lf c.r c.j)=[]:=AD.zero iI;obtain⟨A,cc,Yx,_⟩:=hr.len;exact⟨_,_,[],hl,⟨by rw[Yx];rfl,kE,(fun b hb=>by cases hb),rfl,hr.freeze fun b hb=>hb.elim id fun hb=>(by grind),by simp[LA.AG]⟩,(fun x hx=>by cases hx),by simp⟩
    ·exact hl.elim
   ·split at hl
    ·rename_i hc;simp only[j8,kI,kJ]at hc;obtain⟨⟨⟨Vu,hp⟩,Yk⟩,hk⟩:=hc;subst Vu;have hp:c.p=[]:=by cases hq:c.p<;>simp_all[isNil]
     obtain⟨h',e',WE,hn⟩:=hu _ _ _ _ _ Vl (.inl hp);rw[hp]at hn;obtain⟨rfl,rfl⟩:=hn;obtain⟨u',Vy,Vw⟩:=(h.roots c.r).row Vl;rw[WE]at Vy;injection Vy with Vy;subst Vy
     obtain⟨A,cc,Yx,_⟩:=Vw.len;refine⟨_,_,W.om (.lf c.r c.j),hl,⟨by rw[Yx];rfl,h.sep.nodup _,fun b hb=>⟨c.r,c.j,by simp,hb⟩,rfl,rfl,Vw⟩,fun x hx=>?_,by simp⟩;grind
    ·exact hl.elim
  ·exact hl.elim
 |win c lo hi=>
  simp only at hl;split at hl
  ·rename_i AA gen t' e xs d Vl;split at hl
   ·rename_i hc;simp only[j8,kI,kJ]at hc;obtain⟨⟨⟨Vu,hp⟩,Yk⟩,hk⟩:=hc;subst Vu;have hp:c.p=[]:=by cases hq:c.p<;>simp_all[isNil]
    obtain⟨h',e',A,n,k0,WE,hn,h1,h2,Yx⟩:=hu gen t' e xs d Vl (.inl hp);rw[hp]at hn;obtain⟨rfl,rfl⟩:=hn;obtain⟨u',Vy,Vw⟩:=(h.roots c.r).row Vl;rw[WE]at Vy;injection Vy with Vy;subst Vy
    obtain⟨o',q1,q2,q3⟩:=CE.sub Vw h1 h2;refine⟨_,_,o',hl,⟨by rw[Yx];rfl,q3 (h.sep.nodup _),fun b hb=>⟨c.r,c.j,by simp,q2 b hb⟩,rfl,rfl,?_⟩,fun x hx=>?_,by simp⟩
    ·rw[Yx];exact q1
    grind
   ·exact hl.elim
  ·exact hl.elim
 |ptr r j AA=>
  simp only at hl;split at hl
  ·rename_i hc;simp only[j8,kI]at hc;refine⟨_,_,[],hl,⟨by rw[hu hc.1 hc.2];rfl,kE,(fun b hb=>by cases hb),rfl,hu,Xh⟩,(fun x hx=>by cases hx),by simp⟩
  ·exact hl.elim
 |fn f=>exact⟨_,_,[],hl,⟨by rw[show u=_ from hu];rfl,kE,(fun b hb=>by cases hb),rfl,hu,Xh⟩,(fun x hx=>by cases hx),by simp⟩
 |_=>exact hl.elim
theorem Ei(h:AW E s tm W):∀ {ls:List L} {as:List LA} {g:Nat→Option Value} {k:List LA→List (Nat×Nat)→Step β},(∀(j:Nat)(b:LA),as[j]?=some b→v∉b.AG∧∃u,g j=some u∧AP s W b u)→
  (s.F9 cx v ls as k).leads t→∃(bs:List LA) (us:List (Nat×Nat)) (os:Nat→List Nat),(k bs us).leads t∧bs.length=as.length∧as.length=ls.length∧us.Nodup∧(∀x∈us,cx.Jf x.1=false)∧
   (∀i j,i≠j→∀b∈os i,b∉os j)∧(∀j,as.length≤j→os j=[])∧∀(j:Nat)(b:LA),bs[j]?=some b→∃u,g j=some u∧JB s W v b u (os j) us
 | [],[],g,k,hg,hl=>⟨[],[],fun _=>[],hl,rfl,rfl,kE,(fun x hx=>by cases hx),(fun _ _ _ b hb=>by cases hb),fun _ _=>rfl,(fun j b hb=>by simp at hb)⟩
 | [],_::_,g,k,hg,hl=>hl.elim
 |_::_,[],g,k,hg,hl=>hl.elim
 |l::ls,a::as,g,k,hg,hl=>by
  obtain⟨Xh,u,hu,ha⟩:=hg 0 a rfl;obtain⟨b,us,o,hl,hb,X8,YA⟩:=LK h Xh ha hl;obtain⟨bs,vs,os,hl,hlen,YB,Wi,hbx2,Wh,Xw,Xk⟩:=Ei h (g:=fun j=>g (j+1)) (fun j b hj=>hg (j+1) b (by grind)) hl;split at hl
  ·rename_i Wa
   have Yz:∀x∈us,x∉vs:=by intro x hx bu;have:=kL.1 Wa x hx;simp at this;exact this bu
   refine⟨b::bs,us++vs,fun j=>match j with|0=>o|j+1=>os j,hl,by simp[hlen],by simp[YB],?_,?_,?_,?_,?_⟩
   ·grind
   ·grind
   ·have cross:∀j,∀y∈o,y∉os j:=by
     intro j y hy X5;obtain⟨r,jj,hm,h1⟩:=hb.2.2.1 y hy;by_cases hj:j<bs.length
     ·obtain⟨u',_,ht⟩:=Xk j bs[j] (j7 hj);obtain⟨r',gX,XL,XS⟩:=ht.2.2.1 y X5;by_cases he:(r,jj)=(r',gX)
      ·exact Yz _ hm (by rw[he];exact XL)
      ·exact h.sep.Av (.lf r jj) (.lf r' gX) (fun e=>he (by injection e with e1 e2;rw[e1,e2])) y h1 XS
     ·rw[Xw j (by omega)]at X5;cases X5
    grind
   ·grind
   ·intro j y hy;cases j with
    |zero=>
     simp at hy;subst hy;refine⟨u,hu,hb.1,hb.2.1,fun z hz=>?_,hb.2.2.2⟩;obtain⟨r,jj,hm,h1⟩:=hb.2.2.1 z hz;grind
    |succ j=>
     obtain⟨u',Vy,ht⟩:=Xk j y (by simpa using hy);refine⟨u',Vy,ht.1,ht.2.1,fun z hz=>?_,ht.2.2.2⟩;obtain⟨r,jj,hm,h1⟩:=ht.2.2.1 z hz;grind
  ·exact hl.elim
end
end Go.Ev
namespace Go.Ev
section
variable {P:Program}{E:Cy}{s:St}{W:Wd}{o:Oper}{a:Act}{ws:List Wr}{cx:Cx}{v:Nat}{tm:Array Value}
theorem BZ(h:AW E s a.tmps W){u:Value}{w':World}{W':Wd}{d:Nat}(hd:o.dst=some d)(Vx:(execOp a.eval o).run P W.w=.ok (.value u) w')(hw:W'.w=w')
  (hr:AW E (s.app ws) (a.tmps.setIfInBounds d u) W'):Bc P E o a W.w (s.app ws):=by
 intro next Q hn
 unfold Oper.wp;rw[Vx];show next (a.put o.dst u) w'
 rw[hd,←hw];exact hn _ W' rfl hr
theorem Oh{us:List (Nat×Nat)}{d:Nat}:∀b,(W.fz b∨∃k,Kept us d k∧b∈W.om k)→W.w.heap[b]?=W.w.heap[b]?:=fun _ _=>rfl
theorem Ad(x:Value):(ofConst x).AG=[]:=by
 cases x with
 |slice A n c=>
  cases A with
  |none=>cases n with
   |zero=>cases c<;>rfl
   |succ n=>rfl
  |some a=>rfl
 |pointer A=>cases A<;>rfl
 |_=>rfl
theorem F4(hv:Af s v)(x:Operand):v∉(s.Au x).AG:=by
 cases x with
 |tmp t=>exact hv.1 t
 |const c=>
  cases c with
  |agg cs=>
   show v∉(cs.toList.map ofConst).flatMap LA.AG;intro Vm;obtain⟨b,hb,Vm⟩:=kA.1 Vm;obtain⟨y,_,rfl⟩:=kt.1 hb;rw[Ad]at Vm;cases Vm
  |bool b=>simp[St.Au,AV.AG,Ad]
  |int k n=>simp[St.Au,AV.AG,Ad]
  |float k n=>simp[St.Au,AV.AG,Ad]
  |complex k x y=>simp[St.Au,AV.AG,Ad]
  |string b=>simp[St.Au,AV.AG,Ad]
  |pointer b=>simp[St.Au,AV.AG,Ad]
  |slice b n c=>simp[St.Au,AV.AG,Ad]
  |map r=>simp[St.Au,AV.AG,Ad]
  |chan r=>simp[St.Au,AV.AG,Ad]
  |func f x y=>simp[St.Au,AV.AG,Ad]
  |nilFunc=>simp[St.Au,AV.AG,Ad]
  |iface t x=>simp[St.Au,AV.AG,Ad]
  |nilIface=>simp[St.Au,AV.AG,Ad]
  |tuple vs=>simp[St.Au,AV.AG,Ad]
 |global g=>simp[St.Au,AV.AG,LA.AG]
 |func f=>simp[St.Au,AV.AG,LA.AG]
theorem Mk{x:AV}(h:v∉x.AG):v∉x.one?.AG:=by
 cases x with
 |Dp vs=>simp[AV.one?,LA.AG]
 |bx as=>simp[AV.one?,LA.AG]
 |v g as=>
  cases g with
  |true=>simp[AV.one?,LA.AG]
  |false=>cases as with
   |nil=>simp[AV.one?,LA.AG]
   |cons b bs=>cases bs with
    |nil=>simpa[AV.one?,AV.AG]using h
    |cons=>simp[AV.one?,LA.AG]
theorem Iz(hv:Af s v)(x:Operand):v∉(s.Al x).AG:=Mk (F4 hv x)
theorem Lq(h:AW E s a.tmps W)(hv:Af s v){x:Operand}(ho:o.op=.assign x)(hd:∀d,o.dst=some d→d<a.tmps.size)(hl:(AB cx v o s).leads ws):Bc P E o a W.w (s.app ws):=by
 simp only[AB,ho]at hl;have Vx:(execOp a.eval o).run P W.w=.ok (.value (a.eval x)) W.w:=by simp[execOp,ho]
 have h1:=Ah h x;have Xh:=Iz hv x;cases WT:o.dst with
 |none=>rw[WT]at hl;exact hl.elim
 |some d=>
  rw[WT]at hl;dsimp only at hl;generalize s.Al x=p at hl h1 Xh
  have val:∀y,AP s W y (a.eval x)→ws=[.slot d (one y)]→Bc P E o a W.w (s.app ws):=by intro y hy YS;subst YS;exact BZ h WT Vx rfl (h.slot d (show BU s W (one y) _ from hy))
  split at hl
  ·exact val _ h1 hl.symm
  ·exact val _ h1 hl.symm
  ·exact val _ h1 hl.symm
  ·exact val _ h1 hl.symm
  ·exact val _ h1 hl.symm
  ·exact val _ h1 hl.symm
  ·split at hl
   ·exact hl.elim
   ·split at hl
    ·rename_i ty Xf;split at hl
     ·rename_i l XK;obtain⟨b,us,oo,hl,hb,X8,_⟩:=LK h Xh h1 hl;split at hl
      ·rename_i t e xs dd;have hl:_=ws:=hl;obtain⟨V9,Wi,Wf,rfl,rfl,Vr⟩:=hb;obtain⟨W',Wl,Vo⟩:=h.CT hv us (hd d WT) (t0:=t) (w':=W.w) (fun b hb=>rfl) (fun b _ _=>rfl) (kT _) ⟨rfl,rfl,rfl⟩ Vr Wi (fun b hb=>.inl (Wf b hb));rw[hl]at Vo;exact BZ h WT Vx Wl Vo
      ·exact hl.elim
     ·exact hl.elim
    ·exact hl.elim
theorem Ko(h:AW E s a.tmps W)(hv:Af s v){x:Operand}(ho:o.op=.move x)(hn:Hu (s.Au x)=true)(hd:∀d,o.dst=some d→d<a.tmps.size)(hl:(AB cx v o s).leads ws):Bc P E o a W.w (s.app ws):=by
 simp only[AB,ho,hn,if_true]at hl
 have XG:a.eval x=.slice none 0 0:=by
  have h1:=A8 h x
  revert hn h1
  generalize s.Au x=p;intro hn h1;unfold Hu at hn;split at hn
  ·exact h1
  ·cases hn
 split at hl
 ·rename_i ty d Xf WT;split at hl
  ·exact hl.elim
  ·split at hl
   ·rename_i t e XK;have hl:_=ws:=hl;obtain⟨W',Wl,Vo⟩:=h.CT hv [] (hd d WT) (t0:=t) (e:=e) (xs:=[]) (dd:=2) (u:=.slice none 0 0) (w':=W.w) (o:=[]) (fun b hb=>rfl) (fun b _ _=>rfl) (kT _) ⟨rfl,rfl,rfl⟩ Bm kE (fun b hb=>by cases hb);rw[←hl];exact BZ h WT (by simp[execOp,ho,XG]) Wl Vo
   ·exact hl.elim
 ·exact hl.elim
theorem alloc_old(w:World)(x:Obj){b:Nat}(h:b<w.heap.size):(w.alloc x).heap[b]?=w.heap[b]?:=heap_alloc_old w x h
theorem Ar(w:World)(x:Obj):(w.alloc x).heap.size=w.heap.size+1:=by show(w.heap.push x).size=_;simp
theorem Eg(h:AW E s tm W)(x:Obj){us:List (Nat×Nat)}{d:Nat}:∀b,(W.fz b∨∃k,Kept us d k∧b∈W.om k)→(W.w.alloc x).heap[b]?=W.w.heap[b]?:=by
 intro b hb;refine alloc_old _ _ ?_;rcases hb with hb|⟨k,_,hb⟩
 ·exact(h.sep.fz b hb).1
 ·exact(h.sep.own k b hb).2.1
theorem AW.H8(h:AW E s tm W)(hv:Af s v){us:List (Nat×Nat)}{d:Nat}(hd:d<tm.size){bs:List LA}{cs:Array Value}{T:TypeId}{os:Nat→List Nat}
  (hlen:cs.size=bs.length) (Xk:∀(j:Nat)(b:LA),bs[j]?=some b→∃u,cs[j]?=some u∧JB s W v b u (os j) us) (Wh:∀i j,i≠j→∀b∈os i,b∉os j) (Xw:∀j,bs.length≤j→os j=[]):
  ∃W',W'.w=W.w.alloc (.cells cs T)∧AW E (s.app (gone us++GQ d v bs)) (tm.setIfInBounds d (.pointer (some ⟨W.w.heap.size,0,none⟩))) W':=by
 refine⟨AN W (W.w.alloc (.cells cs T)) us d (fun j=>cs[j]?) W.w.heap.size [W.w.heap.size] os,rfl,?_⟩
 have Yi:∀j,j<bs.length→∃u,cs[j]?=some u∧JB s W v (nth .bad bs j) u (os j) us:=by intro j hj;have:=Xk j bs[j] (j7 hj);rw[Ai,j7 hj];exact this
 have Wp:∀j,∀b∈os j,∃r k,(r,k)∈us∧b∈W.om (.lf r k):=by
  intro j b hb;by_cases hj:j<bs.length
  ·obtain⟨u,_,ht⟩:=Yi j hj;exact ht.2.2.1 b hb
  ·grind
 have hold:∀j,∀b∈os j,b<W.w.heap.size:=by intro j b hb;obtain⟨r,k,_,h1⟩:=Wp j b hb;exact(h.sep.own _ b h1).2.1
 refine h.place hv hd rfl ?_ (Eg h _) (fun b hb _=>alloc_old _ _ (by have:=h.sep.size;omega)) (by rw[Ar];omega) ⟨rfl,rfl,rfl⟩ (kQ.2 ⟨by simp,kE⟩) ?_ ?_ Wh ?_ ?_ ?_
 ·intro j AA gen t e xs dd hl;by_cases hj:j<bs.length
  ·obtain⟨u,_,ht⟩:=Yi j hj;dsimp only at hl;rw[hl]at ht;exact ht.2.2.2.1
  ·dsimp only at hl;rw[A6 LA.bad (lA hj)]at hl;cases hl
 ·intro j;by_cases hj:j<bs.length
  ·obtain⟨u,_,ht⟩:=Yi j hj;exact ht.2.1
  grind
 ·grind
 ·intro b hb;rcases hb with hb|⟨j,hb⟩
  ·simp at hb;subst hb;exact .inr ⟨kT _,by rw[Ar];omega⟩
  grind
 ·intro WD WG;refine⟨fun j=>?_,?_⟩
  ·have e1:(AN W (W.w.alloc (.cells cs T)) us d (fun j=>cs[j]?) W.w.heap.size [W.w.heap.size] os).cv d j=cs[j]?:=by simp[AN]
   have e2:(AN W (W.w.alloc (.cells cs T)) us d (fun j=>cs[j]?) W.w.heap.size [W.w.heap.size] os).om (.lf d j)=os j:=by simp[AN]
   rw[e1,e2];show Ab _ _ (nth LA.bad bs j) _ _;by_cases hj:j<bs.length
   ·obtain⟨u,hu,ht⟩:=Yi j hj;obtain⟨_,_,_,ht⟩:=ht;generalize nth LA.bad bs j=b at ht;unfold Ab;cases b with
    |arr AA gen t e xs dd=>
     obtain⟨_,_,hr⟩:=ht;exact⟨u,hu,hr.frame (fun b hb=>alloc_old _ _ (hb.elim (hold j b) fun hb=>(h.sep.fz b hb).1)) fun b hb=>hb⟩
    |_=>exact⟨ht.1,fun u' Vy=>by rw[hu]at Vy;injection Vy with Vy;subst Vy;exact AP.DL WD ht.2.2 ht.2.1⟩
   ·rw[A6 LA.bad (lA hj),Xw j (by omega)];exact⟨rfl,fun _ _=>trivial⟩
  ·show(if true=true then _ else _);rw[kF rfl];refine⟨by simp[AN],cs,T,(0,0),?_,by omega,hlen,fun j=>by simp[AN]⟩;have:(AN W (W.w.alloc (.cells cs T)) us d (fun j=>cs[j]?) W.w.heap.size [W.w.heap.size] os).bk d=W.w.heap.size:=by simp[AN]
   rw[this];exact heap_alloc_new _ _
 ·intro WD WG;intro hb Vu;have:(AN W (W.w.alloc (.cells cs T)) us d (fun j=>cs[j]?) W.w.heap.size [W.w.heap.size] os).bk d=W.w.heap.size:=by simp[AN]
  rw[this]
theorem BC:∀ls:Ls,ls.kinds.length=ls.n
 | .nil=>rfl
 | .one _=>rfl
 | .cons _ ls=>by simp[Ls.kinds,Ls.n,BC ls]
theorem E1(l:L):JB s W v (KV v l) (CA l) [] []:=by
 cases l with
 |int k=>exact⟨rfl,kE,(fun b hb=>by cases hb),rfl,⟨rfl,rfl⟩,by simp[KV,LA.AG]⟩
 |bool=>exact⟨rfl,kE,(fun b hb=>by cases hb),rfl,⟨rfl,rfl⟩,by simp[KV,LA.AG]⟩
 |str=>exact⟨rfl,kE,(fun b hb=>by cases hb),rfl,⟨rfl,rfl⟩,by simp[KV,LA.AG]⟩
 |sl t e=>exact⟨rfl,kE,(fun b hb=>by cases hb),rfl,rfl,Bm⟩
theorem Kx(p:Bool)(l:L):JB s W v (LN p v l) (CA l) [] []:=by
 cases p with
 |false=>exact E1 l
 |true=>
  cases l with
  |sl t e=>exact⟨rfl,kE,(fun b hb=>by cases hb),rfl,rfl,by simp[LN,zeroOf,LA.AG]⟩
  |int k=>exact E1 (.int k)
  |bool=>exact E1 .bool
  |str=>exact E1 .str
theorem Ml(hc:Db P cx)(cD:MD P cx.env)(h:AW E s a.tmps W)(hv:Af s v){t:TypeId}(ho:o.op=.alloc t)(hd:∀d,o.dst=some d→d<a.tmps.size)(hl:(AB cx v o s).leads ws):Bc P E o a W.w (s.app ws):=by
 simp only[AB,ho]at hl;split at hl
 ·rename_i ty d ht WT;have hl:_=ws:=hl;obtain⟨i,hi,V7,z,hz,YV,_⟩:=(hc t ty ht).info
  obtain⟨W',Wl,Vo⟩:=h.H8 hv (us:=[]) (hd d WT) (bs:=ty.ls.kinds.map (LN (cx.Jf d) v)) (cs:=(ty.ls.kinds.map CA).toArray) (T:=t) (os:=fun _=>[]) (by simp)
   (fun j b hb=>by
    simp only[kN]at hb;cases hq:ty.ls.kinds[j]? with
    |none=>grind
    |some l=>
     rw[hq]at hb;injection hb with hb;subst hb
     exact⟨CA l,by simp[hq],Kx _ l⟩) (fun i j _ b hb=>by cases hb) (fun _ _=>rfl)
  rw[←hl];refine BZ h WT ?_ Wl Vo;simp[execOp,ho,Instr.alloc,zeroValue,typeInfo,hi,hz,newVar,newRow,YV]
 ·rename_i d ht WT;split at hl
  ·rename_i hf;have hl:_=ws:=hl;obtain⟨i,z,c,hi,V7,hz,YV,WU⟩:=cD t hf
   obtain⟨W',Wl,Vo⟩:=h.H8 hv (us:=[]) (hd d WT) (bs:=[.bad]) (cs := #[c]) (T:=t) (os:=fun _=>[]) rfl
    (fun j b hb=>by
     cases j with
     |zero=>simp at hb;subst hb;exact⟨c,rfl,WU,kE,(fun b hb=>by cases hb),rfl,trivial,by simp[LA.AG]⟩
     |succ j=>simp at hb) (fun i j _ b hb=>by cases hb) (fun _ _=>rfl)
   rw[←hl];refine BZ h WT ?_ Wl Vo;simp[execOp,ho,Instr.alloc,zeroValue,typeInfo,hi,hz,newVar,newRow,YV]
  ·exact hl.elim
 ·exact hl.elim
theorem I8{g:Bool}{as:List LA}{u:Value}(hu:E6 s W g as u)(WU:g=false→u.cells = #[u]):u.cells.size=as.length∧∀(j:Nat)(b:LA),as[j]?=some b→∃y,u.cells[j]?=some y∧AP s W b y:=by
 cases g with
 |true=>
  obtain⟨cs,rfl,V7,V4⟩:=hu;exact⟨V7,V4⟩
 |false=>
  have:=WU rfl;rw[this];cases as with
  |nil=>exact hu.elim
  |cons b bs=>cases bs with
   |cons=>exact hu.elim
   |nil=>
    refine⟨rfl,fun j y hy=>?_⟩;cases j with
    |zero=>simp at hy;subst hy;exact⟨u,rfl,hu⟩
    |succ j=>simp at hy
theorem AW.Lr(h:AW E s tm W)(hv:Af s v){d:Nat}{as:List LA}{cs:Array Value}{T:TypeId}(Xh:v∉as.flatMap LA.AG)
  (has:∀(j:Nat)(b:LA),as[j]?=some b→∃u,cs[j]?=some u∧AP s W b u):
  ∃W',W'.w=W.w.alloc (.cells cs T)∧AW E (s.app [.slot d (.bx as)]) (tm.setIfInBounds d (.pointer (some ⟨W.w.heap.size,0,none⟩))) W':=by
 have hold:∀b,b<W.w.heap.size→(W.w.alloc (.cells cs T)).heap[b]?=W.w.heap[b]?:=fun b hb=>alloc_old _ _ hb
 have Vo:AW E s tm { W with w:=W.w.alloc (.cells cs T),fz:=fun b=>W.fz b∨b=W.w.heap.size }:=by
  have WD:EL v s s W { W with w:=W.w.alloc (.cells cs T),fz:=fun b=>W.fz b∨b=W.w.heap.size }:={
   fz:=fun b hb=>.inl hb
   Le:=fun b hb=>hold b (h.sep.fz b hb).1
   leaf:=fun r j AA gen t e xs dd hl Vv=>⟨rfl,gen,t,xs,dd,hl,fun _=>⟨rfl,fun p h' e' u WS hn=>by
    obtain⟨u0,Wj,Vw⟩:=(h.roots r).row hl;rw[WS]at Wj;injection Wj with Wj;subst Wj
    exact BM p Vw hn fun b hb=>hold b (hb.elim (fun hb=>(h.sep.own _ b hb).2.1) fun hb=>(h.sep.fz b hb).1)⟩⟩
   box:=fun r hb Vv=>⟨hb,rfl,rfl⟩ }
  refine h.IE hv WD ?_ h.DM h.BQ (fun t=>.inl ⟨rfl,rfl⟩) fun r=>?_
  ·have hs:=h.sep
   exact {
    nodup:=hs.nodup
    Av:=hs.Av
    own:=fun k b hb=>by obtain⟨a1,a2,a3⟩:=hs.own k b hb;grind
    fz:=fun b hb=>by
     rcases hb with hb|rfl
     ·obtain⟨a1,a2⟩:=hs.fz b hb;grind
     ·exact⟨by rw[Ar];omega,.inr (.inl hs.size)⟩
    frame:=fun b h1 h2=>(hold b (by have:=hs.size;omega)).trans (hs.frame b h1 h2)
    size:=by rw[Ar];exact Nat.le_succ_of_le hs.size
    rest:=hs.rest }
  ·obtain⟨h1,h2⟩:=h.roots r;refine⟨fun j=>?_,?_⟩
   ·exact Ab.DL WD (by have:=hv.2.1 r j;exact this) (fun b hb=>hold b (h.sep.own _ b hb).2.1) (h1 j)
   grind
 refine⟨_,rfl,Vo.slot d ?_⟩;refine⟨W.w.heap.size,0,cs,T,(0,0),rfl,.inr rfl,heap_alloc_new _ _,by omega,fun j b hb=>?_⟩;obtain⟨u,hu,WQ⟩:=has j b hb;refine⟨u,by grind,?_⟩;refine AP.DL (v:=v) (s:=s) (W:=W) ?_ (fun Vm=>Xh (kA.2 ⟨b,kC hb,Vm⟩)) WQ
 exact {
   fz:=fun b hb=>.inl hb
   Le:=fun b hb=>hold b (h.sep.fz b hb).1
   leaf:=fun r j AA gen t e xs dd hl Vv=>⟨rfl,gen,t,xs,dd,hl,fun _=>⟨rfl,fun p h' e' u WS hn=>by
    obtain⟨u0,Wj,Vw⟩:=(h.roots r).row hl;rw[WS]at Wj;injection Wj with Wj;subst Wj
    exact BM p Vw hn fun b hb=>hold b (hb.elim (fun hb=>(h.sep.own _ b hb).2.1) fun hb=>(h.sep.fz b hb).1)⟩⟩
   box:=fun r hb Vv=>⟨hb,rfl,rfl⟩ }
theorem OW(hc:Db P cx)(h:AW E s a.tmps W)(hv:Af s v){t:TypeId}{x:Operand}(ho:o.op=.box t x)(hd:∀d,o.dst=some d→d<a.tmps.size)(hl:(AB cx v o s).leads ws):Bc P E o a W.w (s.app ws):=by
 simp only[AB,ho]at hl;have h1:=A8 h x;have Xh:=F4 hv x;generalize s.Au x=p at hl h1 Xh;split at hl
 ·rename_i ty d g as ht WT;split at hl
  ·rename_i ar;simp only[j8]at ar;obtain⟨hg,_⟩:=ar;subst hg;have hl:_=ws:=hl;obtain⟨cs,Xt,V7,V4⟩:=h1;obtain⟨W',Wl,Vo⟩:=h.Lr hv (d:=d) (as:=as) (cs:=cs) (T:=t) Xh V4;rw[←hl];refine BZ h WT ?_ Wl Vo;simp[execOp,ho,Instr.box,newVar,newRow,Xt,Value.cells]
  let gg:Nat→Option Value:=fun j=>match g with|true=>(a.eval x).cells[j]?|false=>if j=0 then some (a.eval x)else none
  have Zc:∀(j:Nat)(b:LA),as[j]?=some b→v∉b.AG∧∃u,gg j=some u∧AP s W b u:=by
   intro j b hb;refine⟨fun Vm=>Xh (kA.2 ⟨b,kC hb,Vm⟩),?_⟩;cases g with
   |true=>obtain⟨cs,Xt,_,V4⟩:=h1;obtain⟨u,hu,WQ⟩:=V4 j b hb;exact⟨u,by simp only[gg,Xt];exact hu,WQ⟩
   |false=>
    cases as with
    |nil=>exact h1.elim
    |cons b' bs=>cases bs with
     |cons=>exact h1.elim
     |nil=>cases j with
      |zero=>simp at hb;subst hb;exact⟨a.eval x,by simp[gg],h1⟩
      |succ j=>simp at hb
  obtain⟨bs,us,os,hl,hlen,YB,Wi,X8,Wh,Xw,Xk⟩:=Ei (v:=v) h Zc hl;split at hl
  ·have hl:_=ws:=hl
   have WU:g=false→(a.eval x).cells = #[a.eval x]:=by
    intro hg;subst hg;cases as with
    |nil=>exact h1.elim
    |cons b' cQ=>cases cQ with
     |cons=>exact h1.elim
     |nil=>
      match bs,hlen,Xk with
      | [b],_,Xk=>obtain⟨u,hu,ht⟩:=Xk 0 b rfl;simp[gg]at hu;subst hu;exact Er ht.1
   have Xt:=I8 h1 WU
   have hgc:∀j u,gg j=some u→(a.eval x).cells[j]?=some u:=by
    intro j u hj;cases g with
    |true=>exact hj
    |false=>
     grind
   obtain⟨W',Wl,Vo⟩:=h.H8 hv (us:=us) (hd d WT) (bs:=bs) (cs:=(a.eval x).cells) (T:=t) (os:=os) (by omega)
    (fun j b hb=>by grind) Wh (fun j hj=>Xw j (by omega))
   rw[←hl];refine BZ h WT ?_ Wl Vo;simp[execOp,ho,Instr.box,newVar,newRow]
  ·exact hl.elim
 ·exact hl.elim
end
end Go.Ev
namespace Go.Ev
def B8:List Value→Nat→Array Value→Array Value
 | [],_,arr=>arr
 |v::r,o,arr=>B8 r (o+1) (arr.setIfInBounds o v)
theorem Ap:∀(vs:List Value)(o:Nat)(arr:Array Value),(B8 vs o arr).size=arr.size
 | [],_,_=>rfl
 |v::r,o,arr=>by rw[B8,Ap r];simp
theorem CV:∀(vs:List Value)(o:Nat)(arr:Array Value),o+vs.length≤arr.size→∀k,(B8 vs o arr)[k]?=if o≤k∧k<o+vs.length then vs[k-o]? else arr[k]?
 | [],o,arr,h,k=>by rw[B8,kG (by simp)]
 |v::r,o,arr,h,k=>by simp only[lT]at h;rw[B8,CV r (o+1) _ (by simp;omega) k,ky];grind
structure NL(w w':World)(b:Nat)(W4:Array Value)(T:TypeId)(fr:Nat×Nat):Prop where
 here:w'.heap[b]?=some (.cells W4 T fr)
 CJ:∀c,c≠b→w'.heap[c]?=w.heap[c]?
 size:w'.heap.size=w.heap.size
 rest:w'.os=w.os∧w'.tape=w.tape∧w'.output=w.output
theorem F8(b:Nat){T:TypeId}{fr:Nat×Nat}:∀(vs:List Value)(o:Nat)(w:World)(arr:Array Value),w.heap[b]?=some (.cells arr T fr)→NL w (w.setCells b o vs) b (B8 vs o arr) T fr
 | [],o,w,arr,h=>⟨h,fun _ _=>rfl,rfl,rfl,rfl,rfl⟩
 |v::r,o,w,arr,h=>by
  have h1:(w.setCell ⟨b,o,none⟩ v).heap[b]?=some (.cells (arr.setIfInBounds o v) T fr):=by rw[setCell_eq_setRow w b o arr T fr v h];exact setRow_heap w b arr _ T fr h
  have ih:=F8 b r (o+1) _ _ h1;refine⟨ih.here,fun c hc=>(ih.CJ c hc).trans ?_,ih.size.trans ?_,ih.rest⟩
  ·rw[setCell_eq_setRow w b o arr T fr v h];exact setRow_other w b c _ hc
  ·rw[setCell_eq_setRow w b o arr T fr v h];exact setRow_size w b _
theorem DZ{P:Program}{w:World}{b o:Nat}{arr:Array Value}{T:TypeId}{fr:Nat×Nat}(vs:List Value)(h:w.heap[b]?=some (.cells arr T fr))(hb:∀j,j<arr.size→¬(fr.1≤j∧j<fr.2))(hl:o+vs.length≤arr.size)(h1:∀v∈vs,v.oneCell'=true):
  ∃w',(storeCells ⟨b,o,none⟩ vs).run P w=.ok () w'∧NL w w' b (B8 vs o arr) T fr:=by
 refine⟨_,run_storeCells_cells b o vs 0 w ?_ ?_ h1,?_⟩
 ·intro j hj;simp only[World.cell?,h];simp;omega
 ·intro j hj;have:=hb (o+0+j) (by omega);obtain⟨lo,hi⟩:=fr;simp only[World.frozen?,h];grind
 ·exact F8 b vs o w arr h
theorem L.Dl:∀(l:L) {d:Nat} {w:World} {fz:Nat→Prop} {v:Value} {x:l.D} {o:List Nat},l.rd d w fz v x o→v.oneCell'=true
 | .int _,_,_,_,_,_,_,h=>by rw[h.1];rfl
 | .bool,_,_,_,_,_,_,h=>by rw[h.1];rfl
 | .str,_,_,_,_,_,_,h=>by rw[h.1];rfl
 | .sl _ e,_,_,_,_,_,_,h=>by obtain⟨A,c,hv,_⟩:=h;rw[hv];rfl
theorem Ls.LB:∀(e:Ls) {d:Nat} {w:World} {fz:Nat→Prop} {g:Nat→Option Value} {x:e.D} {o:List Nat},e.rd d w fz g x o→∀j,j<e.n→∃v,g j=some v∧v.oneCell'=true
 | .nil,_,_,_,_,_,_,h,j,hj=>by simp[Ls.n]at hj
 | .one l,_,_,_,_,_,_,h,j,hj=>by simp only[Ls.rd]at h;obtain⟨v,hg,h⟩:=h;simp[Ls.n]at hj;subst hj;exact⟨v,hg,L.Dl l h⟩
 | .cons l ls,_,_,_,_,_,_,h,j,hj=>by
  simp only[Ls.rd]at h;obtain⟨v,o1,o2,hg,h1,h2,_⟩:=h;cases j with
  |zero=>exact⟨v,hg,L.Dl l h1⟩
  |succ j=>exact Ls.LB ls h2 j (by simp[Ls.n]at hj;omega)
theorem Ls.BG:∀(e:Ls) {d:Nat} {w:World} {fz:Nat→Prop} {g g':Nat→Option Value} {x:e.D} {o:List Nat},e.rd d w fz g x o→(∀j,j<e.n→g' j=g j)→e.rd d w fz g' x o
 | .nil,_,_,_,_,_,_,_,h,_=>h
 | .one l,_,_,_,_,_,_,_,h,hg=>by simp only[Ls.rd]at h ⊢;obtain⟨v,h0,h⟩:=h;exact⟨v,(hg 0 (by simp[Ls.n])).trans h0,h⟩
 | .cons l ls,_,_,_,_,_,_,_,h,hg=>by
  simp only[Ls.rd]at h ⊢;obtain⟨v,o1,o2,h0,h1,h2,ho⟩:=h;exact⟨v,o1,o2,(hg 0 (by simp[Ls.n])).trans h0,h1,Ls.BG ls h2 fun j hj=>hg (j+1) (by simp[Ls.n];omega),ho⟩
theorem L.Aa:∀(l:L) {d d':Nat} {w w':World} {fz Vp:Nat→Prop} {v:Value} {x:l.D} {o:List Nat},Bs l=false→l.rd d w fz v x o→l.rd d' w' Vp v x o∧o=[]
 | .int _,_,_,_,_,_,_,_,_,_,_,h=>⟨h,h.2⟩
 | .bool,_,_,_,_,_,_,_,_,_,_,h=>⟨h,h.2⟩
 | .str,_,_,_,_,_,_,_,_,_,_,h=>⟨h,h.2⟩
 | .sl _ e,_,_,_,_,_,_,_,_,_,hs,h=>by simp[Bs]at hs
theorem Ls.Aa:∀(e:Ls) {d d':Nat} {w w':World} {fz Vp:Nat→Prop} {g:Nat→Option Value} {x:e.D} {o:List Nat},Br e=true→e.rd d w fz g x o→e.rd d' w' Vp g x o∧o=[]
 | .nil,_,_,_,_,_,_,_,_,_,_,h=>⟨h,h⟩
 | .one l,_,_,_,_,_,_,_,_,_,hs,h=>by simp only[Ls.rd]at h ⊢;obtain⟨v,h0,h⟩:=h;simp[Br]at hs;obtain⟨a,b⟩:=L.Aa l hs h;exact⟨⟨v,h0,a⟩,b⟩
 | .cons l ls,_,_,_,_,_,_,_,_,_,hs,h=>by simp only[Ls.rd]at h ⊢;obtain⟨v,o1,o2,h0,h1,h2,ho⟩:=h;simp[Br]at hs;obtain⟨a,b⟩:=L.Aa l hs.1 h1;obtain⟨a',b'⟩:=Ls.Aa ls hs.2 h2;exact⟨⟨v,o1,o2,h0,a,a',ho⟩,by grind⟩
def B1(e:Ls)(d:Nat)(w:World)(fz:Nat→Prop)(g:Nat→Option Value)(xs:List e.D)(os:Nat→List Nat):Prop:=
 ∀i (h:i<xs.length),e.rd d w fz (fun j=>g (i*e.n+j)) xs[i] (os i)
section
variable {e:Ls}{d:Nat}{w w':World}{fz Vp:Nat→Prop}{g g':Nat→Option Value}{xs ys:List e.D}{os Wc:Nat→List Nat}
theorem Kk{i n j m:Nat}(hi:i<m)(hj:j<n):i*n+j<m*n:=by have:(i+1)*n≤m*n:=kf n hi;grind
theorem B1.cell(h:B1 e d w fz g xs os)(k:Nat)(hk:k<xs.length*e.n):∃v,g k=some v∧v.oneCell'=true:=by
 have hn:0<e.n:=by
             rcases Nat.eq_zero_or_pos e.n with h0|h0;· rw[h0]at hk;simp at hk
             ·exact h0
 have hi:k / e.n<xs.length:=Nat.div_lt_of_lt_mul (by rwa[Nat.mul_comm]at hk);obtain⟨v,hv,h1⟩:=Ls.LB e (h _ hi) (k%e.n) (Nat.mod_lt _ hn);have:k / e.n*e.n+k%e.n=k:=Nat.div_add_mod' _ _;grind
theorem B1.congr(h:B1 e d w fz g xs os)(hg:∀k,k<xs.length*e.n→g' k=g k):B1 e d w fz g' xs os:=
 fun i hi=>Ls.BG e (h i hi) fun j hj=>hg _ (Kk hi hj)
theorem B1.frame(h:B1 e d w fz g xs os)(hf:∀b,(∃i,i<xs.length∧b∈os i)∨fz b→w'.heap[b]?=w.heap[b]?)(hz:∀b,fz b→Vp b):B1 e d w' Vp g xs os:=
 fun i hi=>Ls.AI e (h i hi) (fun b hb=>hf b (hb.imp (fun hb=>⟨i,hi,hb⟩) id)) hz
theorem B1.flat(hf:Br e=true)(h:B1 e d w fz g xs os)(d':Nat)(w':World)(Vp:Nat→Prop):B1 e d' w' Vp g xs fun _=>[]:=fun i hi=>by obtain⟨a,b⟩:=Ls.Aa e hf (h i hi) (d':=d') (w':=w') (Vp:=Vp);grind
theorem B1.append(h1:B1 e d w fz g xs os)(h2:B1 e d w fz (fun k=>g (xs.length*e.n+k)) ys Wc):B1 e d w fz g (xs++ys) fun i=>if i<xs.length then os i else Wc (i-xs.length):=by
 intro i hi;by_cases h:i<xs.length
 ·simp only[kF h];rw[List.getElem_append_left h];exact h1 i h
 ·simp only[kG h];rw[List.getElem_append_right (lA h)];have:=h2 (i-xs.length) (by grind);refine Ls.BG e this fun j hj=>?_;show g (i*e.n+j)=g (xs.length*e.n+((i-xs.length)*e.n+j));congr 1;have:i*e.n=xs.length*e.n+(i-xs.length)*e.n:=by rw[←kd];congr 1;omega
  omega
theorem FD{ad:Addr}{arr:Array Value}{T:TypeId}{fr:Nat×Nat}{c:Nat}(hh:w.heap[ad.block]?=some (.cells arr T fr))(hs:ad.spot=none)(hb:∀j,j<arr.size→¬(fr.1≤j∧j<fr.2))
  (hc:ad.off+c*e.n≤arr.size) (hl:xs.length≤c) (V5:B1 e 2 w fz (fun k=>arr[ad.off+k]?) xs os):
  AD e 2 w fz (.slice (some ad) xs.length c) xs (ad.block::(List.range xs.length).flatMap os):=
 ⟨some ad,c,rfl,hl,.inr ⟨fun k=>arr[ad.off+k]?,os,⟨hs,arr,T,fr,hh,hc,fun _=>hb,fun j=>rfl⟩,V5,rfl⟩⟩
theorem AD.KX{v:Value}{o:List Nat}(h:AD e d w fz v xs o):∃A c,v=.slice A xs.length c∧xs.length≤c∧(A=none→c=0∧o=[])∧
  ∀ad,A=some ad→(0<c∨0<d)→∃arr T fr os,ad.spot=none∧w.heap[ad.block]?=some (.cells arr T fr)∧ad.off+c*e.n≤arr.size∧(0<d→∀j,j<arr.size→¬(fr.1≤j∧j<fr.2))∧
   B1 e (dec d) w fz (fun k=>arr[ad.off+k]?) xs os∧(0<d→o=ad.block::(List.range xs.length).flatMap os)∧(d=0→fz ad.block∧∀i,i<xs.length→os i=[]):=by
 obtain⟨A,c,hv,hc,h⟩:=h;refine⟨A,c,hv,hc,?_,?_⟩
 ·grind
 ·intro ad hA YR;subst hA;rcases h with h|⟨g,os,⟨hs,arr,T,fr,hh,hn,hb,hg⟩,V5,ho⟩
  ·obtain⟨h1,h2,_⟩:=h;have h1:¬0<d:=by simpa using h1
   omega
  refine⟨arr,T,fr,os,hs,hh,hn,fun hd=>hb (by simpa using hd),?_,?_,?_⟩
  ·intro i hi;refine Ls.BG e (V5 i hi) fun j _=>(hg _).symm
  all_goals grind
def BW(g:Nat→Option Value)(m:Nat):List Value:=(List.range m).map fun j=>(g j).getD Go.undef
theorem AL(g:Nat→Option Value)(m:Nat):(BW g m).length=m:=by simp[BW]
theorem Bf{m:Nat}(h:∀k,k<m→∃v,g k=some v∧v.oneCell'=true)(k:Nat)(hk:k<m):(BW g m)[k]?=g k:=by obtain⟨v,hv,_⟩:=h k hk;simp[BW,hk,hv]
theorem FQ{m:Nat}(h:∀k,k<m→∃v,g k=some v∧v.oneCell'=true):∀v∈BW g m,v.oneCell'=true:=by intro v hv;obtain⟨k,hk,rfl⟩:=kt.1 hv;grind
end
theorem L.GD:∀(l:L) {d:Nat} {w:World} {fz:Nat→Prop},l.rd d w fz (CA l) (LO l) []
 | .int _,_,_,_=>⟨rfl,rfl⟩
 | .bool,_,_,_=>⟨rfl,rfl⟩
 | .str,_,_,_=>⟨rfl,rfl⟩
 | .sl _ e,_,_,_=>Bm
theorem Ls.GD:∀(e:Ls) {d:Nat} {w:World} {fz:Nat→Prop} {g:Nat→Option Value},(∀j,j<e.n→g j=(e.kinds.map CA)[j]?)→e.rd d w fz g (Ff e) []
 | .nil,_,_,_,_,_=>rfl
 | .one l,_,_,_,_,hg=>by simp only[Ls.rd];exact⟨CA l,(hg 0 (by simp[Ls.n])).trans rfl,L.GD l⟩
 | .cons l ls,_,_,_,_,hg=>by
  simp only[Ls.rd];exact⟨CA l,[],[],(hg 0 (by simp[Ls.n])).trans rfl,L.GD l,Ls.GD ls fun j hj=>(hg (j+1) (by simp[Ls.n];omega)).trans (by simp[Ls.kinds]),rfl⟩
end Go.Ev
