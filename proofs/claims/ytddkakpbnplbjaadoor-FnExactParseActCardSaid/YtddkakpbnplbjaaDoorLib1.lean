/- A plain evaluator for Go's loaded code,and that it is sound;part 1. Conditions: none. -/
import Derived.Calls
import Derived.Orders
import Derived.Below
import Derived.Sort.Defs
import Derived.Laws.Rows
import Derived.Laws.Small
import Derived.Laws.StructEq
import Derived.Laws.Concat
import Derived.Laws.IdiomCopy
import Derived.Deep.MidRow
import Derived.Tactics
import Derived.WalkKit
import Derived.Laws.Cover3
import Derived.Laws.MakeOwn
import Derived.Laws.Append
set_option linter.all false
namespace Go.Ev
theorem gK:type_of% @List.getElem?_eq_getElem:=@List.getElem?_eq_getElem
theorem gL:type_of% @Bool.and_eq_true:=@Bool.and_eq_true
theorem gM:type_of% @List.getElem?_eq_some_iff:=@List.getElem?_eq_some_iff
theorem gN:type_of% @List.mem_flatMap:=@List.mem_flatMap
theorem gO:type_of% @List.mem_cons_of_mem:=@List.mem_cons_of_mem
theorem gP:type_of% @List.mem_of_getElem?:=@List.mem_of_getElem?
theorem gQ:type_of% @List.eq_nil_of_length_eq_zero:=@List.eq_nil_of_length_eq_zero
theorem gR:type_of% @List.nodup_nil:=@List.nodup_nil
theorem gS:type_of% @if_pos:=@if_pos
theorem gT:type_of% @if_neg:=@if_neg
theorem gU:type_of% @List.mem_append_right:=@List.mem_append_right
theorem gV:type_of% @beq_iff_eq:=@beq_iff_eq
theorem gW:type_of% @Bool.not_eq_true':=@Bool.not_eq_true'
theorem gX:type_of% @List.mem_append_left:=@List.mem_append_left
theorem gY:type_of% @List.all_eq_true:=@List.all_eq_true
theorem gZ:type_of% @List.mem_range:=@List.mem_range
theorem ga:type_of% @List.getElem?_map:=@List.getElem?_map
theorem gb:type_of% @Nat.zero_add:=@Nat.zero_add
theorem gf:type_of% @List.nodup_append:=@List.nodup_append
theorem gh:type_of% @List.nodup_cons:=@List.nodup_cons
theorem gi:type_of% @List.mem_cons_self:=@List.mem_cons_self
theorem gj:type_of% @List.mem_cons:=@List.mem_cons
theorem gk:type_of% @Nat.le_refl:=@Nat.le_refl
theorem gl:type_of% @Bool.or_eq_true:=@Bool.or_eq_true
theorem gm:type_of% @decide_eq_true_eq:=@decide_eq_true_eq
theorem gn:type_of% @List.flatten_cons:=@List.flatten_cons
theorem gp:type_of% @Array.getElem?_eq_getElem:=@Array.getElem?_eq_getElem
theorem gq:type_of% @Array.getD_eq_getD_getElem?:=@Array.getD_eq_getD_getElem?
theorem gr:type_of% @Bool.or_eq_false_iff:=@Bool.or_eq_false_iff
theorem gu:type_of% @Array.getElem?_append_left:=@Array.getElem?_append_left
theorem gv:type_of% @decide_eq_false_iff_not:=@decide_eq_false_iff_not
theorem gw:type_of% @Nat.add_mul:=@Nat.add_mul
theorem gx:type_of% @List.flatMap_cons:=@List.flatMap_cons
theorem gy:type_of% @Nat.mul_le_mul_right:=@Nat.mul_le_mul_right
theorem gz:type_of% @Classical.byContradiction:=@Classical.byContradiction
theorem hD:type_of% @List.append_nil:=@List.append_nil
theorem hJ:type_of% @List.mem_singleton:=@List.mem_singleton
theorem hM:type_of% @List.getElem?_of_mem:=@List.getElem?_of_mem
theorem hO:type_of% @of_decide_eq_true:=@of_decide_eq_true
theorem hQ:type_of% @Nat.lt_or_ge:=@Nat.lt_or_ge
theorem hR:type_of% @List.mem_map:=@List.mem_map
theorem hY:type_of% @List.nil_append:=@List.nil_append
theorem hZ:type_of% @Nat.le_trans:=@Nat.le_trans
theorem h9:type_of% @Array.getElem?_setIfInBounds:=@Array.getElem?_setIfInBounds
theorem iA:type_of% @Nat.add_zero:=@Nat.add_zero
theorem iB:type_of% @Nat.le_of_not_lt:=@Nat.le_of_not_lt
theorem iC:type_of% @Nat.lt_of_lt_of_le:=@Nat.lt_of_lt_of_le
theorem iD:type_of% @List.length_append:=@List.length_append
theorem iE:type_of% @Array.getElem?_eq_some_iff:=@Array.getElem?_eq_some_iff
theorem iF:type_of% @Option.map_some:=@Option.map_some
theorem iG:type_of% @List.length_map:=@List.length_map
theorem iH:type_of% @Array.toArray_toList:=@Array.toArray_toList
theorem iI:type_of% @List.getElem?_cons_succ:=@List.getElem?_cons_succ
theorem iJ:type_of% @List.drop_left:=@List.drop_left
theorem iK:type_of% @List.cons_append:=@List.cons_append
theorem iL:type_of% @List.any_eq_true:=@List.any_eq_true
theorem iM:type_of% @List.size_toArray:=@List.size_toArray
theorem iN:type_of% @Array.size_append:=@Array.size_append
theorem iO:type_of% @Option.getD_some:=@Option.getD_some
theorem iP:type_of% @List.mem_or_eq_of_mem_set:=@List.mem_or_eq_of_mem_set
theorem iQ:type_of% @List.getElem?_append_left:=@List.getElem?_append_left
theorem iR:type_of% @List.map_cons:=@List.map_cons
theorem iS:type_of% @Classical.not_not:=@Classical.not_not
theorem iT:type_of% @Array.size_map:=@Array.size_map
theorem iU:type_of% @List.length_cons:=@List.length_cons
theorem iV:type_of% @Array.toList_map:=@Array.toList_map
theorem iW:type_of% @Array.size_range:=@Array.size_range
theorem iX:type_of% @List.mem_append:=@List.mem_append
theorem iY:type_of% @Nat.mul_le_mul:=@Nat.mul_le_mul
theorem iZ:type_of% @Nat.lt_or_gt_of_ne:=@Nat.lt_or_gt_of_ne
theorem ia:type_of% @List.getElem?_append_right:=@List.getElem?_append_right
theorem ib:type_of% @Bool.false_eq_true:=@Bool.false_eq_true
theorem ic:type_of% @List.pairwise_iff_getElem:=@List.pairwise_iff_getElem
theorem ie:type_of% @Nat.one_mul:=@Nat.one_mul
theorem ig:type_of% @Option.bind_eq_some_iff:=@Option.bind_eq_some_iff
mutual
inductive L where
 |int (k:IntKind)
 |bool
 |str
 |sl (t:TypeId) (e:Ls)
inductive Ls where
 |nil
 |one (l:L)
 |cons (l:L) (ls:Ls)
end
mutual
def L.D:L→Type
 | .int _=>Int
 | .bool=>Bool
 | .str=>List UInt8
 | .sl _ e=>List e.D
def Ls.D:Ls→Type
 | .nil=>Unit
 | .one l=>l.D
 | .cons l ls=>l.D×ls.D
end
def Ls.n:Ls→Nat
 | .nil=>0
 | .one _=>1
 | .cons _ ls=>ls.n+1
def IntKind.code:IntKind→Nat
 | .i8=>0 | .i16=>1 | .i32=>2 | .i64=>3 | .u8=>4 | .u16=>5 | .u32=>6 | .u64=>7
theorem IntKind.EK{a b:IntKind}(h:IntKind.code a=IntKind.code b):a=b:=by cases a<;>cases b<;>first|rfl|cases h
mutual
def L.eq?:(a b:L)→Bool
 | .int j,.int k=>IntKind.code j==IntKind.code k
 | .bool,.bool=>true
 | .str,.str=>true
 | .sl t e,.sl u f=>t==u&&Ls.eq? e f
 |_,_=>false
def Ls.eq?:(a b:Ls)→Bool
 | .nil,.nil=>true
 | .one a,.one b=>L.eq? a b
 | .cons a as,.cons b bs=>L.eq? a b&&Ls.eq? as bs
 |_,_=>false
end
mutual
theorem L.Dl:∀ {a b:L},L.eq? a b=true→a=b
 | .int _,.int _,h=>by simp[L.eq?]at h;rw[IntKind.EK h]
 | .bool,.bool,_=>rfl
 | .str,.str,_=>rfl
 | .sl t e,.sl u f,h=>by simp[L.eq?]at h;rw[h.1,Ls.Dl h.2]
 | .int _,.bool,h | .int _,.str,h | .int _,.sl ..,h | .bool,.int _,h | .bool,.str,h | .bool,.sl ..,h | .str,.int _,h | .str,.bool,h | .str,.sl ..,h | .sl ..,.int _,h | .sl ..,.bool,h | .sl ..,.str,h=>by simp[L.eq?]at h
theorem Ls.Dl:∀ {a b:Ls},Ls.eq? a b=true→a=b
 | .nil,.nil,_=>rfl
 | .one _,.one _,h=>by simp[Ls.eq?]at h;rw[L.Dl h]
 | .cons _ _,.cons _ _,h=>by simp[Ls.eq?]at h;rw[L.Dl h.1,Ls.Dl h.2]
 | .nil,.one _,h | .nil,.cons ..,h | .one _,.nil,h | .one _,.cons ..,h | .cons ..,.nil,h | .cons ..,.one _,h=>by simp[Ls.eq?]at h
end
structure Lv where
 l:L
 x:l.D
def L.cast{a:L}(b:L)(x:a.D):Option b.D:=if h:L.eq? a b=true then some (L.Dl h▸x)else none
def Ls.cast{a:Ls}(b:Ls)(x:a.D):Option b.D:=if h:Ls.eq? a b=true then some (Ls.Dl h▸x)else none
theorem L.AH{a b:L}{x:a.D}{y:b.D}(h:L.cast b x=some y):∃e:a=b,e▸x=y:=by
 unfold L.cast at h;split at h
 ·rename_i e;exact⟨L.Dl e,by injection h⟩
 ·cases h
theorem Ls.AH{a b:Ls}{x:a.D}{y:b.D}(h:Ls.cast b x=some y):∃e:a=b,e▸x=y:=by
 unfold Ls.cast at h;split at h
 ·rename_i e;exact⟨Ls.Dl e,by injection h⟩
 ·cases h
def pack:(ls:Ls)→List Lv→Option ls.D
 | .nil=>fun vs=>match vs with
  | []=>some ()
  |_::_=>none
 | .one l=>fun vs=>match vs with
  | []=>none
  |v::vs=>match vs with
   | []=>L.cast l v.x
   |_::_=>none
 | .cons l ls=>fun vs=>match vs with
  | []=>none
  |v::vs=>match L.cast l v.x with
   |none=>none
   |some x=>match pack ls vs with
    |none=>none
    |some xs=>some (x,xs)
def unpack:(ls:Ls)→ls.D→List Lv
 | .nil,_=>[]
 | .one l,x=>[⟨l,x⟩]
 | .cons l ls,x=>⟨l,x.1⟩::unpack ls x.2
def Ls.kinds:Ls→List L
 | .nil=>[]
 | .one l=>[l]
 | .cons l ls=>l::ls.kinds
theorem B6:∀(ls:Ls)(x:ls.D),(unpack ls x).length=ls.n
 | .nil,_=>rfl
 | .one _,_=>rfl
 | .cons _ ls,x=>by simp[unpack,Ls.n,B6 ls x.2]
theorem Ag:∀(ls:Ls)(vs:List Lv)(x:ls.D),pack ls vs=some x→unpack ls x=vs
 | .nil,[],_,_=>rfl
 | .nil,_::_,_,h=>by simp[pack]at h
 | .one l,[],_,h=>by simp[pack]at h
 | .one l,[v],x,h=>by
  simp only[pack]at h;obtain⟨l',y⟩:=v;obtain⟨e,he⟩:=L.AH h
  try dsimp only at e he
  subst e;subst he;rfl
 | .one l,_::_::_,_,h=>by simp[pack]at h
 | .cons l ls,[],_,h=>by simp[pack]at h
 | .cons l ls,v::vs,x,h=>by
  obtain⟨l',y⟩:=v;simp only[pack]at h;split at h
  ·cases h
  ·rename_i a ha;split at h
   ·cases h
   ·rename_i b hb;obtain⟨e,he⟩:=L.AH ha
    try dsimp only at e he
    subst e;subst he;injection h with h;subst h
    simp[unpack,Ag ls vs _ hb]
def Row(w:World)(a:Addr)(n:Nat)(bare:Bool)(g:Nat→Option Value):Prop:=
 a.spot=none∧∃arr T fr,w.heap[a.block]?=some (.cells arr T fr)∧a.off+n≤arr.size∧(bare=true→∀j,j<arr.size→¬(fr.1≤j∧j<fr.2))∧∀j,g j=arr[a.off+j]?
def CB{α:Type}(n:Nat)(R:(Nat→Option Value)→α→List Nat→Prop)(own:Bool)(w:World)(fz:Nat→Prop)(v:Value)(xs:List α)(o:List Nat):Prop:=
 ∃(A:Option Addr) (c:Nat),v=.slice A xs.length c∧xs.length≤c∧
  match A with
  |none=>c=0∧o=[]
  |some a=>(own=false∧c=0∧o=[])∨∃(g:Nat→Option Value) (os:Nat→List Nat),Row w a (c*n) own g∧(∀i (h:i<xs.length),R (fun j=>g (i*n+j)) xs[i] (os i))∧
    match own with
    |true=>o=a.block::(List.range xs.length).flatMap os
    |false=>fz a.block∧o=[]∧∀i,i<xs.length→os i=[]
def dec:Nat→Nat
 |0=>0
 |1=>0
 |d+2=>d+2
mutual
def L.rd:(l:L)→Nat→World→(Nat→Prop)→Value→l.D→List Nat→Prop
 | .int k,_,_,_,v,x,o=>v=.int k x∧o=[]
 | .bool,_,_,_,v,x,o=>v=.bool x∧o=[]
 | .str,_,_,_,v,x,o=>v=.string ⟨x.toArray⟩∧o=[]
 | .sl _ e,d,w,fz,v,x,o=>CB e.n (fun g y o=>e.rd (dec d) w fz g y o) (decide (0<d)) w fz v x o
def Ls.rd:(ls:Ls)→Nat→World→(Nat→Prop)→(Nat→Option Value)→ls.D→List Nat→Prop
 | .nil,_,_,_,_,_,o=>o=[]
 | .one l,d,w,fz,g,x,o=>∃v,g 0=some v∧l.rd d w fz v x o
 | .cons l ls,d,w,fz,g,x,o=>∃v o1 o2,g 0=some v∧l.rd d w fz v x.1 o1∧ls.rd d w fz (fun j=>g (j+1)) x.2 o2∧o=o1++o2
end
theorem L.Hy{t:TypeId}{e:Ls}{d:Nat}{w:World}{fz:Nat→Prop}{v:Value}{x:(L.sl t e).D}{o:List Nat}:
  (L.sl t e).rd d w fz v x o↔CB (α:=e.D) e.n (fun g y o=>e.rd (dec d) w fz g y o) (decide (0<d)) w fz v x o:=Iff.rfl
end Go.Ev
namespace Go.Ev
theorem Row.frame{w w':World}{a:Addr}{n:Nat}{bare:Bool}{g:Nat→Option Value}(h:Row w a n bare g)(e:w'.heap[a.block]?=w.heap[a.block]?):Row w' a n bare g:=by obtain⟨hs,arr,T,fr,hh,hn,hb,hg⟩:=h;exact⟨hs,arr,T,fr,e.trans hh,hn,hb,hg⟩
theorem Row.lt{w:World}{a:Addr}{n:Nat}{bare:Bool}{g:Nat→Option Value}(h:Row w a n bare g):a.block<w.heap.size:=by obtain⟨hs,arr,T,fr,hh,_⟩:=h;exact(iE.1 hh).1
section
variable {α:Type}{n:Nat}{R R':(Nat→Option Value)→α→List Nat→Prop}{own:Bool}{w w':World}{fz TZ:Nat→Prop}{v:Value}{xs:List α}{o:List Nat}
theorem CB.imp(h:CB n R own w fz v xs o)(hf:∀b,b∈o∨fz b→w'.heap[b]?=w.heap[b]?)(hz:∀b,fz b→TZ b)
  (hr:∀g x oi,(∀b∈oi,b∈o)→R g x oi→R' g x oi):CB n R' own w' TZ v xs o:=by
 obtain⟨A,c,hv,hc,h⟩:=h;refine⟨A,c,hv,hc,?_⟩;cases A with
 |none=>exact h
 |some a=>
  rcases h with h|⟨g,os,Tb,Tr,ho⟩
  ·exact .inl h
  refine .inr ?_;cases own with
  |true=>
   refine⟨g,os,Tb.frame (hf _ (.inl (by rw[ho];simp))),fun i hi=>hr _ _ _ ?_ (Tr i hi),ho⟩;intro b hb;rw[ho];exact gO _ (gN.2 ⟨i,gZ.2 hi,hb⟩)
  |false=>
   refine⟨g,os,Tb.frame (hf _ (.inr ho.1)),fun i hi=>hr _ _ _ ?_ (Tr i hi),hz _ ho.1,ho.2⟩;intro b hb;rw[ho.2.2 i hi]at hb;cases hb
theorem CB.freeze(h:CB n R own w fz v xs o)(hz:∀b,fz b∨b∈o→TZ b)(hr:∀g x oi,(∀b∈oi,b∈o)→R g x oi→R' g x []):CB n R' false w TZ v xs []:=by
 obtain⟨A,c,hv,hc,h⟩:=h;refine⟨A,c,hv,hc,?_⟩;cases A with
 |none=>exact⟨h.1,rfl⟩
 |some a=>
  rcases h with h|⟨g,os,Tb,Tr,ho⟩
  ·exact .inl ⟨rfl,h.2.1,rfl⟩
  obtain⟨hs,arr,T,fr,hh,hn,hb,hg⟩:=Tb;refine .inr ⟨g,fun _=>[],⟨hs,arr,T,fr,hh,hn,fun h=>by simp at h,hg⟩,fun i hi=>hr _ _ _ ?_ (Tr i hi),hz _ ?_,rfl,fun _ _=>rfl⟩
  ·cases own with
   |true=>intro b hb;rw[ho];exact gO _ (gN.2 ⟨i,gZ.2 hi,hb⟩)
   |false=>intro b hb;rw[ho.2.2 i hi]at hb;cases hb
  ·cases own with
   |true=>right;rw[ho];simp
   |false=>exact .inl ho.1
theorem CB.zero(h:CB n R false w fz v xs o):o=[]:=by
 obtain⟨A,c,hv,hc,h⟩:=h;cases A with
 |none=>exact h.2
 |some a=>
  rcases h with h|⟨g,os,Tb,Tr,ho⟩
  ·exact h.2.2
  ·exact ho.2.1
theorem CB.dep(h:CB n R own w fz v xs o)(hr:∀g x oi,R g x oi→∀b∈oi,b<w.heap.size):∀b∈o,b<w.heap.size:=by
 obtain⟨A,c,hv,hc,h⟩:=h;cases A with
 |none=>rw[h.2];simp
 |some a=>
  rcases h with h|⟨g,os,Tb,Tr,ho⟩
  ·rw[h.2.2];simp
  cases own with
  |false=>rw[ho.2.1];simp
  |true=>
   intro b hb;rw[ho]at hb;rcases gj.1 hb with rfl|hb
   ·exact Tb.lt
   ·obtain⟨i,hi,hb⟩:=gN.1 hb;exact hr _ _ _ (Tr i (gZ.1 hi)) b hb
end
mutual
theorem L.AI:∀(l:L) {d:Nat} {w w':World} {fz TZ:Nat→Prop} {v:Value} {x:l.D} {o:List Nat},
  l.rd d w fz v x o→(∀b,b∈o∨fz b→w'.heap[b]?=w.heap[b]?)→(∀b,fz b→TZ b)→l.rd d w' TZ v x o
 | .int _,_,_,_,_,_,_,_,_,h,_,_=>h
 | .bool,_,_,_,_,_,_,_,_,h,_,_=>h
 | .str,_,_,_,_,_,_,_,_,h,_,_=>h
 | .sl _ e,d,w,w',fz,TZ,v,x,o,h,hf,hz=>by rw[L.Hy]at h ⊢;exact CB.imp h hf hz fun g y oi ho hr=>Ls.AI e hr (fun b hb=>hf b (hb.imp (ho b) id)) hz
theorem Ls.AI:∀(ls:Ls) {d:Nat} {w w':World} {fz TZ:Nat→Prop} {g:Nat→Option Value} {x:ls.D} {o:List Nat},
  ls.rd d w fz g x o→(∀b,b∈o∨fz b→w'.heap[b]?=w.heap[b]?)→(∀b,fz b→TZ b)→ls.rd d w' TZ g x o
 | .nil,_,_,_,_,_,_,_,_,h,_,_=>h
 | .one l,d,w,w',fz,TZ,g,x,o,h,hf,hz=>by simp only[Ls.rd]at h ⊢;obtain⟨v,hg,h⟩:=h;exact⟨v,hg,L.AI l h hf hz⟩
 | .cons l ls,d,w,w',fz,TZ,g,x,o,h,hf,hz=>by simp only[Ls.rd]at h ⊢;obtain⟨v,o1,o2,hg,h1,h2,rfl⟩:=h;exact⟨v,o1,o2,hg,L.AI l h1 (fun b hb=>hf b (hb.imp (gX _) id)) hz,Ls.AI ls h2 (fun b hb=>hf b (hb.imp (gU _) id)) hz,rfl⟩
end
mutual
theorem L.Cc:∀(l:L) {d:Nat} {w:World} {fz TZ:Nat→Prop} {v:Value} {x:l.D} {o:List Nat},
  l.rd d w fz v x o→(∀b,fz b∨b∈o→TZ b)→l.rd 0 w TZ v x []
 | .int _,_,_,_,_,_,_,_,h,_=>by simp only[L.rd]at h ⊢;exact⟨h.1,trivial⟩
 | .bool,_,_,_,_,_,_,_,h,_=>by simp only[L.rd]at h ⊢;exact⟨h.1,trivial⟩
 | .str,_,_,_,_,_,_,_,h,_=>by simp only[L.rd]at h ⊢;exact⟨h.1,trivial⟩
 | .sl _ e,d,w,fz,TZ,v,x,o,h,hz=>by rw[L.Hy]at h ⊢;exact CB.freeze h hz fun g y oi ho hr=>Ls.Cc e hr fun b hb=>hz b (hb.imp id (ho b))
theorem Ls.Cc:∀(ls:Ls) {d:Nat} {w:World} {fz TZ:Nat→Prop} {g:Nat→Option Value} {x:ls.D} {o:List Nat},
  ls.rd d w fz g x o→(∀b,fz b∨b∈o→TZ b)→ls.rd 0 w TZ g x []
 | .nil,_,_,_,_,_,_,_,_,_=>rfl
 | .one l,d,w,fz,TZ,g,x,o,h,hz=>by simp only[Ls.rd]at h ⊢;obtain⟨v,hg,h⟩:=h;exact⟨v,hg,L.Cc l h hz⟩
 | .cons l ls,d,w,fz,TZ,g,x,o,h,hz=>by simp only[Ls.rd]at h ⊢;obtain⟨v,o1,o2,hg,h1,h2,rfl⟩:=h;exact⟨v,[],[],hg,L.Cc l h1 (fun b hb=>hz b (hb.imp id (gX _))),Ls.Cc ls h2 (fun b hb=>hz b (hb.imp id (gU _))),rfl⟩
end
mutual
theorem L.Bk:∀(l:L) {w:World} {fz:Nat→Prop} {v:Value} {x:l.D} {o:List Nat},l.rd 0 w fz v x o→o=[]
 | .int _,_,_,_,_,_,h=>h.2
 | .bool,_,_,_,_,_,h=>h.2
 | .str,_,_,_,_,_,h=>h.2
 | .sl _ e,w,fz,v,x,o,h=>by rw[L.Hy]at h;exact CB.zero h
theorem Ls.Bk:∀(ls:Ls) {w:World} {fz:Nat→Prop} {g:Nat→Option Value} {x:ls.D} {o:List Nat},ls.rd 0 w fz g x o→o=[]
 | .nil,_,_,_,_,_,h=>h
 | .one l,w,fz,g,x,o,h=>by simp only[Ls.rd]at h;obtain⟨v,hg,h⟩:=h;exact L.Bk l h
 | .cons l ls,w,fz,g,x,o,h=>by simp only[Ls.rd]at h;obtain⟨v,o1,o2,hg,h1,h2,rfl⟩:=h;rw[L.Bk l h1,Ls.Bk ls h2];rfl
end
mutual
theorem L.GL:∀(l:L) {d:Nat} {w:World} {fz:Nat→Prop} {v:Value} {x:l.D} {o:List Nat},l.rd d w fz v x o→∀b∈o,b<w.heap.size
 | .int _,_,_,_,_,_,_,h=>by simp only[L.rd]at h;rw[h.2];simp
 | .bool,_,_,_,_,_,_,h=>by simp only[L.rd]at h;rw[h.2];simp
 | .str,_,_,_,_,_,_,h=>by simp only[L.rd]at h;rw[h.2];simp
 | .sl _ e,d,w,fz,v,x,o,h=>by rw[L.Hy]at h;exact CB.dep h fun g y oi hr=>Ls.GL e hr
theorem Ls.GL:∀(ls:Ls) {d:Nat} {w:World} {fz:Nat→Prop} {g:Nat→Option Value} {x:ls.D} {o:List Nat},ls.rd d w fz g x o→∀b∈o,b<w.heap.size
 | .nil,_,_,_,_,_,_,h=>by simp only[Ls.rd]at h;rw[h];simp
 | .one l,d,w,fz,g,x,o,h=>by simp only[Ls.rd]at h;obtain⟨v,hg,h⟩:=h;exact L.GL l h
 | .cons l ls,d,w,fz,g,x,o,h=>by
  simp only[Ls.rd]at h;obtain⟨v,o1,o2,hg,h1,h2,rfl⟩:=h;intro b hb;rcases iX.1 hb with hb|hb
  ·exact L.GL l h1 b hb
  ·exact Ls.GL ls h2 b hb
end
def AD(e:Ls)(d:Nat)(w:World)(fz:Nat→Prop)(v:Value)(xs:List e.D)(o:List Nat):Prop:=
 CB e.n (fun g y o=>e.rd (dec d) w fz g y o) (decide (0<d)) w fz v xs o
theorem L.Ke{t:TypeId}{e:Ls}{d:Nat}{w:World}{fz:Nat→Prop}{v:Value}{x:(L.sl t e).D}{o:List Nat}:
  (L.sl t e).rd d w fz v x o↔AD e d w fz v x o:=Iff.rfl
section
variable {e:Ls}{d:Nat}{w w':World}{fz TZ:Nat→Prop}{v:Value}{xs:List e.D}{o:List Nat}
theorem AD.frame(h:AD e d w fz v xs o)(hf:∀b,b∈o∨fz b→w'.heap[b]?=w.heap[b]?)(hz:∀b,fz b→TZ b):AD e d w' TZ v xs o:=L.AI (.sl 0 e) h hf hz
theorem AD.freeze(h:AD e d w fz v xs o)(hz:∀b,fz b∨b∈o→TZ b):AD e 0 w TZ v xs []:=L.Cc (.sl 0 e) h hz
theorem AD.zero(h:AD e 0 w fz v xs o):o=[]:=L.Bk (.sl 0 e) h
theorem AD.dep(h:AD e d w fz v xs o):∀b∈o,b<w.heap.size:=L.GL (.sl 0 e) h
end
end Go.Ev
namespace Go.Ev
structure Loc where
 r:Nat
 j:Nat
 AA:Nat
 gen:Nat
 p:List (Nat×Nat)
inductive LA where
 |bad
 |undef
 |CL
 |JD
 |sc (l:L) (x:l.D)
 |ref (c:Loc)
 |win (c:Loc) (lo hi:Nat)
 |ptr (r j AA:Nat)
 |Bi (c:Loc)
 |D0 (e:Ls) (x:e.D) (off:Nat)
 |fn (f:FuncId)
 |I6 (t:TypeId) (c:Loc)
 |EB (g:FuncId) (ps qs:List (Nat×Nat))
 |arr (AA gen:Nat) (t:TypeId) (e:Ls) (xs:List e.D) (d:Nat)
inductive AV where
 |v (agg:Bool) (ls:List LA)
 |Di (vs:List (Bool×List LA))
 |bx (ls:List LA)
structure Bl where
 box:Bool
 AA:Nat
 ls:List LA
structure St where
 sl:List AV
 ro:List Bl
 Bm:Nat
def nth{α:Type}(d:α):List α→Nat→α
 | [],_=>d
 |x::_,0=>x
 |_::xs,n+1=>nth d xs n
def CV{α:Type}:List α→Nat→α→List α
 | [],_,_=>[]
 |_::xs,0,y=>y::xs
 |x::xs,n+1,y=>x::CV xs n y
def isNil{α:Type}:List α→Bool
 | []=>true
 |_::_=>false
def has(ms:List Nat)(t:Nat):Bool:=match ms with
 | []=>false
 |m::ms=>m==t||has ms t
def dead:Bl:=⟨false,0,[]⟩
def St.slot(s:St)(t:Nat):AV:=nth (.v false [.bad]) s.sl t
def St.root(s:St)(r:Nat):Bl:=nth dead s.ro r
def St.leaf(s:St)(r j:Nat):LA:=nth .bad (s.root r).ls j
inductive Wr where
 |slot (t:Nat) (a:AV)
 |root (r:Nat) (x:Bl)
 |leaf (r j:Nat) (a:LA)
 |half (r j v:Nat)
def LA.Ce(v:Nat):LA→LA
 | .arr AA _ t e xs (_+1)=>.arr AA v t e xs 1
 |a=>a
def St.AF(s:St):Wr→St
 | .slot t a=>{ s with sl:=CV s.sl t a }
 | .root r x=>{ s with ro:=CV s.ro r x }
 | .leaf r j a=>{ s with ro:=CV s.ro r { s.root r with ls:=CV (s.root r).ls j a } }
 | .half r j v=>{ s with ro:=CV s.ro r { s.root r with ls:=CV (s.root r).ls j ((s.leaf r j).Ce v) } }
def St.app(s:St):List Wr→St
 | []=>s
 |w::ws=>(s.AF w).app ws
inductive Step(β:Type) where
 |none
 |go (s:β)
 |Mx {α:Type} (m:Option α) (f:α→Step β)
 |iff (b:Bool) (x y:Step β)
def Step.run{β R:Type}(k:β→Option R):Step β→Option R
 | .none=>Option.none
 | .go s=>k s
 | .Mx m f=>m.bind fun x=>(f x).run k
 | .iff b x y=>bif b then x.run k else y.run k
def Step.leads{β:Type}(t:β):Step β→Prop
 | .none=>False
 | .go s=>s=t
 | .Mx m f=>∃x,m=some x∧(f x).leads t
 | .iff b x y=>match b with
  |true=>x.leads t
  |false=>y.leads t
theorem Step.Cw{β R:Type}{k:β→Option R}{r:R}:∀(s:Step β),s.run k=some r→∃t,s.leads t∧k t=some r
 | .none,h=>by simp[Step.run]at h
 | .go s,h=>⟨s,rfl,h⟩
 | .Mx m f,h=>by
  simp only[Step.run]at h;cases m with
  |none=>simp at h
  |some x=>obtain⟨t,a,b⟩:=Step.Cw (f x) h;exact⟨t,⟨x,rfl,a⟩,b⟩
 | .iff b x y,h=>by
  simp only[Step.run]at h;cases b with
  |true=>obtain⟨t,a,b⟩:=Step.Cw x h;exact⟨t,a,b⟩
  |false=>obtain⟨t,a,b⟩:=Step.Cw y h;exact⟨t,a,b⟩
variable {β:Type}
structure Ty where
 agg:Bool
 ls:Ls
 fs:List (Nat×TypeId)
 eq:Bool
def Hr{α:Type}:List α→Nat→Option α
 | [],_=>none
 |x::_,0=>some x
 |_::xs,n+1=>Hr xs n
def Ew:List L→Ls
 | []=>.nil
 | [l]=>.one l
 |l::m::r=>.cons l (Ew (m::r))
inductive PM where
 |val (agg:Bool) (ls:List L)
 |box (ls:List (L×Nat))
 |row (agg:Bool) (ls:List (L×Nat))
 |fn (f:FuncId)
def PM.ins:PM→List L
 | .val _ ls=>ls
 | .box ls=>ls.map (·.1)
 | .row _ ls=>ls.map (·.1)
 | .fn _=>[]
def PM.outs:PM→List (L×Nat)
 | .val _ _=>[]
 | .box ls=>ls
 | .row _ ls=>ls
 | .fn _=>[]
structure Sm where
 ps:List PM
 rs:List (Bool×List (L×Nat))
def Sm.ins(s:Sm):Ls:=Ew (s.ps.flatMap PM.ins)
def Sm.Gr(s:Sm):List (L×Nat):=s.rs.flatMap (·.2)++s.ps.flatMap PM.outs
def Sm.outs(s:Sm):Ls:=Ew (s.Gr.map (·.1))
def Sm.mk?(s:Sm):Bool:=match s.rs with
 | [(false,_::_::_)]=>true
 |_=>false
def PM.isVal:PM→Bool
 | .val _ _=>true
 |_=>false
def Sm.plain(s:Sm):Bool:=s.ps.all PM.isVal&&s.Gr.all fun p=>p.2==0
structure Ly where
 s:Sm
 f:s.ins.D→Option s.outs.D
inductive KJ where
 |box (ls:List L)
 |EB (g:FuncId) (bs:List (List L))
 |row
def KJ.kinds:KJ→List L
 | .box ls=>ls
 | .EB _ bs=>bs.flatten
 | .row=>[]
structure Od where
 t:TypeId
 I3:List KJ
 lt:(Ew (I3.flatMap KJ.kinds)).D→Int→Int→Option Bool
structure Env where
 fn:FuncId→Option Ly
 PK:FuncId→FuncId→Option Od
 O8:TypeId→Bool
structure Cx where
 ty:TypeId→Option Ty
 env:Env
 lock:Nat→Bool
 E9:Nat→Bool
 JS:Nat→Bool
def JB:(e:Ls)→Nat→e.D→((t:TypeId)→(f:Ls)→List f.D→Step β)→Step β
 | .nil,_,_,_=>.none
 | .one l,0,x,k=>match l,x with
  | .sl t f,xs=>k t f xs
  |_,_=>.none
 | .one _,_+1,_,_=>.none
 | .cons l ls,0,x,k=>match l,x with
  | .sl t f,xs=>k t f xs.1
  |_,_=>.none
 | .cons _ ls,j+1,x,k=>JB ls j x.2 k
def Oj(k:(t:TypeId)→(e:Ls)→List e.D→Nat→Step β):(p:List (Nat×Nat))→(t:TypeId)→(e:Ls)→List e.D→Nat→Step β
 | [],t,e,xs,d=>k t e xs d
 |(i,j)::p,_,e,xs,d=>.Mx (xs[i]?) fun x=>JB e j x fun t f ys=>Oj k p t f ys (dec d)
def St.content(s:St)(c:Loc)(k:(t:TypeId)→(e:Ls)→List e.D→Nat→Step β):Step β:=match s.leaf c.r c.j with
 | .arr AA gen t e xs d=>if AA==c.AA&&(isNil c.p||gen==c.gen)then Oj k c.p t e xs d else .none
 |_=>.none
def NJ{α:Type}(xs:List α)(i:Int):Option α:=if 0≤i then xs[i.toNat]? else none
def Oz{α:Type}(xs:List α)(i:Int):Bool:=decide (0≤i)&&decide (i<xs.length)
def sub{α:Type}(xs:List α)(lo hi:Nat):List α:=(xs.drop lo).take (hi-lo)
def St.datum(s:St)(l:L)(a:LA)(k:l.D→Step β):Step β:=match a with
 | .sc m x=>match L.cast l (a:=m) x with
  |some y=>k y
  |none=>.none
 | .CL=>match l,k with
  | .sl _ _,k=>k []
  |_,_=>.none
 | .ref c=>s.content c fun t e xs _=>match L.cast l (a:=.sl t e) xs with
  |some y=>k y
  |none=>.none
 | .win c lo hi=>s.content c fun t e xs _=>match L.cast l (a:=.sl t e) (sub xs lo hi)with
  |some y=>k y
  |none=>.none
 |_=>.none
def St.data(s:St):List L→List LA→(List Lv→Step β)→Step β
 | [],[],k=>k []
 |l::ls,a::as,k=>s.datum l a fun x=>s.data ls as fun vs=>k (⟨l,x⟩::vs)
 |_,_,_=>.none
def Br:(e:Ls)→Nat→List Lv→Option (e.D→e.D)
 | .nil=>fun _ _=>none
 | .one l=>fun off vs=>match off,vs with
  |0,[v]=>match L.cast l v.x with
   |some y=>some fun _=>y
   |none=>none
  |_,_=>none
 | .cons l ls=>fun off vs=>match off with
  |0=>match vs with
   | []=>none
   | [v]=>match L.cast l v.x with
    |some y=>some fun x=>(y,x.2)
    |none=>none
   |v::u::vs=>match L.cast l v.x,Br ls 0 (u::vs)with
    |some y,some f=>some fun x=>(y,f x.2)
    |_,_=>none
  |off+1=>match Br ls off vs with
   |some f=>some fun x=>(x.1,f x.2)
   |none=>none
def CI:(e:Ls)→Nat→((t:TypeId)→(f:Ls)→Option (List f.D→List f.D))→Option (e.D→e.D)
 | .nil=>fun _ _=>none
 | .one l=>fun j g=>match j with
  |0=>match l with
   | .sl t f=>g t f
   |_=>none
  |_+1=>none
 | .cons l ls=>fun j g=>match j with
  |0=>match l with
   | .sl t f=>match g t f with
    |some h=>some fun x=>(h x.1,x.2)
    |none=>none
   |_=>none
  |j+1=>match CI ls j g with
   |some h=>some fun x=>(x.1,h x.2)
   |none=>none
def Gq(vs:List Lv):(p:List (Nat×Nat))→(e:Ls)→Option (List e.D→List e.D)
 | [],_=>none
 |(i,j)::p,e=>match p with
  | []=>match(if j==0&&vs.length==e.n then pack e vs else none)with
   |some y=>some fun xs=>CV xs i y
   |none=>match Br e j vs with
    |some f=>some fun xs=>xs.modify i f
    |none=>none
  |_::_=>match CI e j fun _ f=>Gq vs p f with
   |some h=>some fun xs=>xs.modify i h
   |none=>none
def Hk(g:(t:TypeId)→(e:Ls)→Option (List e.D→List e.D)):(p:List (Nat×Nat))→(t:TypeId)→(e:Ls)→Option (List e.D→List e.D)
 | [],t,e=>g t e
 |(i,j)::p,_,e=>match CI e j fun t f=>Hk g p t f with
  |some h=>some fun xs=>xs.modify i h
  |none=>none
def ON(x:Lv)(t:TypeId)(e:Ls):Option (List e.D→List e.D):=match L.cast (a:=x.l) (.sl t e) x.x with
 |some y=>some fun _=>y
 |none=>none
def ofConst:Value→LA
 | .int k n=>.sc (.int k) (show Int from n)
 | .bool b=>.sc .bool (show Bool from b)
 | .string s=>.sc .str (show List UInt8 from s.data.toList)
 | .slice none 0 0=>.CL
 | .pointer none=>.JD
 |_=>.bad
def St.Aq(s:St):Operand→AV
 | .tmp t=>s.slot t
 | .const (.agg cs)=>.v true (cs.toList.map ofConst)
 | .const v=>.v false [ofConst v]
 | .func f=>.v false [.fn f]
 | .global _=>.v false [.bad]
def AV.one?:AV→LA
 | .v false [a]=>a
 |_=>.bad
def St.Aj(s:St)(x:Operand):LA:=(s.Aq x).one?
def Bp:L→Bool
 | .sl _ _=>true
 |_=>false
def Bo:Ls→Bool
 | .nil=>true
 | .one l => !Bp l
 | .cons l ls => !Bp l&&Bo ls
def KI(v:Nat):L→LA
 | .int k=>.sc (.int k) (show Int from 0)
 | .bool=>.sc .bool (show Bool from false)
 | .str=>.sc .str (show List UInt8 from [])
 | .sl t e=>.arr v v t e [] 2
def K9:(l:L)→l.D
 | .int _=>(0:Int)
 | .bool=>false
 | .str=>([]:List UInt8)
 | .sl _ e=>([]:List e.D)
def FV:(ls:Ls)→ls.D
 | .nil=>()
 | .one l=>K9 l
 | .cons l ls=>(K9 l,FV ls)
def St.take(cx:Cx)(s:St)(v:Nat)(a:LA)(l:L)(k:LA→List (Nat×Nat)→Step β):Step β:=match a with
 | .sc m x=>if L.eq? m l then k (.sc m x) []else .none
 | .CL=>match l with
  | .sl t e=>k (.arr v v t e [] 2) []
  |_=>.none
 | .ref c=>match s.leaf c.r c.j with
  | .arr AA _ t e xs d=>match d with
   |0=>s.content c fun t e ys _=>if L.eq? l (.sl t e)then k (.sc (.sl t e) ys) []else .none
   |d+1=>if AA==c.AA&&isNil c.p && !cx.JS c.r&&L.eq? l (.sl t e)then k (.arr v v t e xs (d+1)) [(c.r,c.j)]else .none
  |_=>.none
 | .win c lo hi=>match s.leaf c.r c.j with
  | .arr AA _ t e xs d=>if AA==c.AA&&isNil c.p && !cx.JS c.r&&L.eq? l (.sl t e)then k (.arr v v t e (sub xs lo hi) d) [(c.r,c.j)]else .none
  |_=>.none
 | .ptr r j AA=>if(s.root r).box&&(s.root r).AA==AA then k (.ptr r j AA) []else .none
 | .fn f=>k (.fn f) []
 |_=>.none
def St.F0(cx:Cx)(s:St)(v:Nat):List L→List LA→(List LA→List (Nat×Nat)→Step β)→Step β
 | [],[],k=>k [] []
 |l::ls,a::as,k=>s.take cx v a l fun b us=>s.F0 cx v ls as fun bs vs=>if us.all fun u => !vs.contains u then k (b::bs) (us++vs)else .none
 |_,_,_=>.none
def gone(us:List (Nat×Nat)):List Wr:=us.map fun u=>.leaf u.1 u.2 .bad
end Go.Ev
namespace Go.Ev
variable {β:Type}
def one(a:LA):AV:=.v false [a]
def IJ(k:IntKind)(n:Int):AV:=one (.sc (.int k) (show Int from n))
def H9(b:Bool):AV:=one (.sc .bool (show Bool from b))
def O0(s:List UInt8):AV:=one (.sc .str (show List UInt8 from s))
def isZero:Operand→Bool
 | .const (.int _ n)=>n==0
 |_=>true
def Oe(k:IntKind)(x y:Int):Int:=k.wrap (BitVec.ofInt k.bits x &&& BitVec.ofInt k.bits y).toNat
def PJ(k:IntKind)(x y:Int):Int:=k.wrap (BitVec.ofInt k.bits x ||| BitVec.ofInt k.bits y).toNat
def Ot(k:IntKind)(x y:Int):Int:=k.wrap (BitVec.ofInt k.bits x ^^^ BitVec.ofInt k.bits y).toNat
def OQ(k:IntKind)(x y:Int):Int:=k.wrap (x*2 ^ (min y.toNat k.bits))
def OR(k:IntKind)(x y:Int):Int:=x.fdiv (2 ^ (min y.toNat k.bits))
def L9(op:BinOp)(y:Operand)(i:IntKind)(a b:Int)(k:AV→Step β):Step β:=match op with
 | .quo=>if isZero y then .iff (b==0) .none (k (IJ i (i.wrap (Int.tdiv a b))))else k (IJ i (i.wrap (Int.tdiv a b)))
 | .rem=>if isZero y then .iff (b==0) .none (k (IJ i (Int.tmod a b)))else k (IJ i (Int.tmod a b))
 | .add=>k (IJ i (i.wrap (a+b)))
 | .sub=>k (IJ i (i.wrap (a-b)))
 | .mul=>k (IJ i (i.wrap (a*b)))
 | .eql=>k (H9 (a==b))
 | .neq=>k (H9 (a != b))
 | .lss=>k (H9 (decide (a<b)))
 | .leq=>k (H9 (decide (a≤b)))
 | .gtr=>k (H9 (decide (a>b)))
 | .geq=>k (H9 (decide (a≥b)))
 | .and=>k (IJ i (Oe i a b))
 | .or=>k (IJ i (PJ i a b))
 | .xor=>k (IJ i (Ot i a b))
 | .shl=>.iff (decide (0≤b)) (k (IJ i (OQ i a b))) .none
 | .shr=>.iff (decide (0≤b)) (k (IJ i (OR i a b))) .none
 |_=>.none
def Nz(op:BinOp)(a b:Bool)(k:AV→Step β):Step β:=match op with
 | .eql=>k (H9 (a==b))
 | .neq=>k (H9 (a != b))
 |_=>.none
def N0(op:BinOp)(a b:List UInt8)(k:AV→Step β):Step β:=match op with
 | .eql=>k (H9 (a==b))
 | .neq=>k (H9 (!(a==b)))
 | .add=>.iff (decide (a.length+b.length≤4611686018427387904)) (k (O0 (a++b))) .none
 |_=>.none
def Gt(cx:Cx)(t:TypeId)(l:L):Bool:=match cx.ty t with
 |some ty => !ty.agg&&Ls.eq? ty.ls (.one l)
 |none=>false
def isRow(cx:Cx)(t:TypeId)(e:Ls):Bool:=match cx.ty t with
 |some ty => !ty.agg&&match ty.ls with
  | .one (.sl _ f)=>Ls.eq? f e
  |_=>false
 |none=>false
def G1:BinOp→Bool
 | .shl=>true
 | .shr=>true
 |_=>false
def binop(isb:Bool)(op:BinOp)(y:Operand)(a b:LA)(k:AV→Step β):Step β:=match a,b with
 | .sc l a,.sc m b=>match l,a,m,b with
  | .int i,a,.int j,b=>if IntKind.code i==IntKind.code j||G1 op then L9 op y i a b k else .none
  | .bool,a,.bool,b=>if isb then Nz op a b k else .none
  | .str,a,.str,b=>N0 op a b k
  |_,_,_,_=>.none
 |_,_=>.none
def OP(l:L)(a b:LA):Option Bool:=match l with
 | .int k=>match a,b with
  | .sc (.int i) x,.sc (.int j) y=>if IntKind.code i==IntKind.code k&&IntKind.code j==IntKind.code k then some ((show Int from x)==(show Int from y))else none
  |_,_=>none
 | .bool=>match a,b with
  | .sc .bool x,.sc .bool y=>some ((show Bool from x)==(show Bool from y))
  |_,_=>none
 | .str=>match a,b with
  | .sc .str x,.sc .str y=>some ((show List UInt8 from x)==(show List UInt8 from y))
  |_,_=>none
 | .sl _ _=>none
def FZ:List L→List LA→List LA→Option Bool
 | [],[],[]=>some true
 |l::ls,a::as,b::bs=>match OP l a b,FZ ls as bs with
  |some p,some q=>some (p&&q)
  |_,_=>none
 |_,_,_=>none
def L3(cx:Cx)(op:BinOp)(tx:TypeId)(as bs:List LA)(k:AV→Step β):Step β:=match cx.ty tx with
 |some ty=>if ty.eq then match FZ ty.ls.kinds as bs with
   |some q=>match op with
    | .eql=>k (H9 q)
    | .neq=>k (H9 (!q))
    |_=>.none
   |none=>.none
  else .none
 |none=>.none
def MU(cx:Cx)(op:BinOp)(tx:TypeId)(e:Ls)(xs:List e.D)(k:AV→Step β):Step β:=match op with
 | .neq=>if isRow cx tx e then .iff (isNil xs) .none (k (H9 true))else .none
 |_=>.none
def OD(a:Int):Int:=0-a
def NQ(a b:Int):Int:=bif decide (b<a)then b else a
def NP(a b:Int):Int:=bif decide (b>a)then b else a
def seen(r j:Nat)(a:LA):LA:=match a with
 | .arr AA _ _ _ _ _=>.ref ⟨r,j,AA,AA,[]⟩
 |b=>b
def Az(r:Nat):Nat→List LA→List LA
 |_,[]=>[]
 |j,a::as=>seen r j a::Az r (j+1) as
def IA(r j:Nat)(a:LA):LA:=match a with
 | .arr AA gen t e xs d=>match d with
  |0=>.sc (.sl t e) xs
  |_+1=>.ref ⟨r,j,AA,AA,[]⟩
 |b=>b
def BJ(r:Nat):Nat→List LA→List LA
 |_,[]=>[]
 |j,a::as=>IA r j a::BJ r (j+1) as
def Bn(c:Loc)(i:Nat)(d:Nat):Nat→List Lv→List LA
 |_,[]=>[]
 |off,v::vs=>(if Bp v.l&&decide (0<d)then LA.ref { c with p:=c.p++[(i,off)] }else .sc v.l v.x)::Bn c i d (off+1) vs
def Ak:List (Nat×Nat)→Option (List (Nat×Nat)×Nat×Nat)
 | []=>none
 | [x]=>some ([],x.1,x.2)
 |x::y::r=>match Ak (y::r)with
  |some (q,i,off)=>some (x::q,i,off)
  |none=>none
def St.Jq(s:St)(r j:Nat):Nat:=match s.leaf r j with
 | .arr _ gen _ _ _ _=>gen
 |_=>0
def St.DA(s:St)(a:LA)(n:Nat)(k:List LA→Step β):Step β:=match a with
 | .ptr r j AA=>if(s.root r).box&&(s.root r).AA==AA&&decide (j+n≤(s.root r).ls.length)then k (BJ r j (((s.root r).ls.drop j).take n))else .none
 | .D0 e x off=>k ((((unpack e x).drop off).take n).map fun v=>.sc v.l v.x)
 | .Bi c=>match Ak c.p with
  |none=>.none
  |some (q,i,off)=>s.content { c with p:=q } fun t e xs d=>.Mx (xs[i]?) fun x=>k (Bn { c with p:=q,gen:=s.Jq c.r c.j } i (dec d) off (((unpack e x).drop off).take n))
 |_=>.none
def St.FL(s:St)(a:AV)(n:Nat)(k:List LA→Step β):Step β:=match a with
 | .bx as=>if decide (n≤as.length)then k (as.take n)else .none
 |a=>s.DA a.one? n k
def MK(s:St)(as:List LA):Bool:=as.any fun a=>match a with
 | .ref c=>c.AA==1 && !(s.root c.r).box
 |_=>false
def St.alive(s:St):LA→Bool
 | .ptr r j AA=>(s.root r).box&&(s.root r).AA==AA
 | .Bi c=>match s.leaf c.r c.j with
  | .arr AA gen _ _ _ _=>AA==c.AA&&(decide (c.p.length≤1)||gen==c.gen)
  |_=>false
 | .D0 _ _ _=>true
 |_=>false
def St.setAt(s:St)(g:Nat)(c:Loc)(h:(e:Ls)→Option (List e.D→List e.D)):Option (List Wr):=match s.leaf c.r c.j with
 | .arr AA gen t e xs d=>if AA==c.AA&&(isNil c.p||gen==c.gen)then match h e with
   |some f=>some [.leaf c.r c.j (.arr AA g t e (f xs) d)]
   |none=>none
  else none
 |_=>none
def St.KB(s:St)(g:Nat)(c:Loc)(vs:List Lv):Option (List Wr):=match s.leaf c.r c.j with
 | .arr AA gen t e xs d=>if AA==c.AA&&(decide (c.p.length≤1)||gen==c.gen)&&decide (0<d)&&(decide (c.p.length≤1)||d==2)then match Gq vs c.p e with
   |some f=>some [.leaf c.r c.j (.arr AA g t e (f xs) d)]
   |none=>none
  else none
 |_=>none
def BA(r:Nat):Nat→List LA→List Wr
 |_,[]=>[]
 |j,a::as=>.leaf r j a::BA r (j+1) as
def St.half(s:St)(r j:Nat):Bool:=match s.leaf r j with
 | .arr _ _ _ _ _ 1=>true
 |_=>false
def N7:LA→Bool
 | .sc _ _=>true
 |_=>false
def St.Cy(s:St)(v:Nat)(c:Loc)(ls:List L)(as:List LA)(k:List Wr→Step β):Step β:=match s.leaf c.r c.j with
 | .arr AA _ t e xs 1=>if AA==c.AA&&as.all N7 then s.data ls as fun vs=>match Gq vs c.p e with
   |some f=>k [.leaf c.r c.j (.arr AA v t e (f xs) 1)]
   |none=>.none
  else .none
 |_=>.none
def St.GQ(cx:Cx)(s:St)(v:Nat)(a:LA)(ls:List L)(as:List LA)(k:List Wr→Step β):Step β:=match a with
 | .ptr r j AA=>if(s.root r).box&&(s.root r).AA==AA&&decide (j+ls.length≤(s.root r).ls.length)then s.F0 cx v ls as fun bs us=>k (gone us++BA r j bs)else .none
 | .Bi c=>if ls.all fun l => !Bp l then s.data ls as fun vs=>match s.KB v c vs with
   |some ws=>k ws
   |none=>.none
  else match c.p with
   | [_]=>if s.half c.r c.j then s.Cy v c ls as k else s.F0 cx v ls as fun bs us=>if us.all fun u => !(u.1==c.r&&u.2==c.j)then match bs.mapM fun b=>match b with
      | .arr _ _ t e xs 2=>some (⟨.sl t e,xs⟩:Lv)
      | .sc l x=>if Bp l then none else some ⟨l,x⟩
      |_=>none with
     |some vs=>match s.leaf c.r c.j with
      | .arr AA _ t e xs 2=>if AA==c.AA then match Gq vs c.p e with
        |some f=>k (gone us++[.leaf c.r c.j (.arr AA v t e (f xs) 2)])
        |none=>.none
       else .none
      |_=>.none
     |none=>.none
    else .none
   |_=>.none
 |_=>.none
def BE:LA→LA
 | .arr AA gen t e xs _=>.arr AA gen t e xs 0
 |a=>a
def NL:LA→Bool
 | .arr _ _ _ _ _ (_+1)=>false
 |_=>true
def St.Bz(s:St)(r:Nat):Bool:=(s.root r).ls.all NL
def C5(s:St)(r:Nat):List Wr:=if s.Bz r then []else BA r 0 ((s.root r).ls.map BE)
def Aw(cx:Cx)(s:St):List Nat→Option (List Wr)
 | []=>some []
 |r::rs=>if cx.JS r then none else match Aw cx s rs with
  |some ws=>some (C5 s r++ws)
  |none=>none
def Hn:List LA→List Nat
 | []=>[]
 | .ref c::as=>if isNil c.p then Hn as else c.r::Hn as
 |_::as=>Hn as
def MT(q:LA)(as:List LA):List Nat:=match q with
 | .ptr _ _ _=>Hn as
 |_=>[]
def GP(cx:Cx)(v:Nat)(s:St)(dst:Option Tmp)(q:LA)(ls:List L)(as:List LA)(fs:List Wr):Step (List Wr):=s.GQ cx v q ls as fun ws=>match dst with
 |none=>.go (fs++ws)
 |some _=>.none
def OA(a:LA)(k:Int→Step β):Step β:=match a with
 | .sc l x=>match l,x with
  | .str,x=>k (List.length (α:=UInt8) x:Int)
  |_,_=>.none
 |_=>.none
def lenOf(s:St)(a:LA)(k:Int→Step β):Step β:=match a with
 | .sc l x=>match l,x with
  | .sl _ e,x=>k (List.length (α:=e.D) x:Int)
  |_,_=>.none
 | .CL=>k 0
 | .ref c=>s.content c fun t e xs _=>k (xs.length:Int)
 | .win c lo hi=>s.content c fun t e xs _=>k ((sub xs lo hi).length:Int)
 |_=>.none
def asInt(a:LA)(k:Int→Step β):Step β:=match a with
 | .sc l n=>match l,n with
  | .int _,n=>k n
  |_,_=>.none
 |_=>.none
def DZ(s:St)(x:Option Operand)(d:Int)(k:Int→Step β):Step β:=match x with
 |none=>k d
 |some x=>asInt (s.Aj x) k
def ownRow(d v:Nat)(t:TypeId)(e:Ls)(xs:List e.D):List Wr:=[.root d ⟨false,v,[.arr v v t e xs 2]⟩,.slot d (one (.ref ⟨d,0,v,v,[]⟩))]
def GI(d v:Nat)(ls:List LA):List Wr:=[.root d ⟨true,v,ls⟩,.slot d (one (.ptr d 0 v))]
def EV(cx:Cx)(s:St)(a:LA)(t:TypeId)(e:Ls)(k:List e.D→List (Nat×Nat)→Step β):Step β:=
 if Bo e then s.datum (.sl t e) a fun ys=>k ys []else match a with
  | .ref c=>match s.leaf c.r c.j with
   | .arr AA _ t' e' xs d=>if AA==c.AA&&isNil c.p && !cx.JS c.r&&d==2 then match L.cast (a:=.sl t' e') (.sl t e) xs with
     |some ys=>k ys [(c.r,c.j)]
     |none=>.none
    else .none
   |_=>.none
  |_=>.none
def Dc:Nat:=68719476736
def C1(cx:Cx)(s:St)(d v:Nat)(t:TypeId)(e:Ls)(a b:LA)(k:List Wr→Step β):Step β:=match a with
 | .CL=>EV cx s b t e fun ys us=>.iff (decide (ys.length≤Dc)) (k (gone us++ownRow d v t e ys)) .none
 | .ref c=>match s.leaf c.r c.j with
  | .arr AA _ t' e' xs dd=>if AA==c.AA&&isNil c.p && !cx.JS c.r&&dd==2 then match L.cast (a:=.sl t' e') (.sl t e) xs with
    |some xs=>EV cx s b t e fun ys us=>if us.contains (c.r,c.j)then .none else .iff (decide (List.length (α:=e.D) xs+ys.length≤Dc)) (k (gone ((c.r,c.j)::us)++ownRow d v t e (List.append (α:=e.D) xs ys))) .none
    |none=>.none
   else .none
  |_=>.none
 | .win c lo hi=>match s.leaf c.r c.j with
  | .arr AA _ t' e' xs dd=>if AA==c.AA&&isNil c.p && !cx.JS c.r&&dd==2&&Bo e then match L.cast (a:=.sl t' e') (.sl t e) xs with
    |some xs=>EV cx s b t e fun ys us=>if us.contains (c.r,c.j)then .none else .iff (decide ((sub (α:=e.D) xs lo hi).length+ys.length≤Dc)) (k (gone ((c.r,c.j)::us)++ownRow d v t e (sub (α:=e.D) xs lo hi++ys))) .none
    |none=>.none
   else .none
  |_=>.none
 |_=>.none
def Dt(cx:Cx)(s:St)(d v:Nat)(t:TypeId)(e:Ls)(c:Loc)(b:LA)(k:List Wr→Step β):Step β:=match s.leaf c.r c.j with
 | .arr AA gen t0 e0 xs 2=>if AA==c.AA&&gen==c.gen && !cx.JS c.r&&Bo e then
   s.content c fun t' e' ys0 _=>match L.cast (a:=.sl t' e') (.sl t e) ys0 with
    |some ys0=>s.datum (.sl t e) b fun ys=>.iff (decide (List.length (α:=e.D) ys0+List.length (α:=e.D) ys≤Dc)) (k [.half c.r c.j v,.slot d (one (.sc (.sl t e) (List.append (α:=e.D) ys0 ys)))]) .none
    |none=>.none
  else .none
 |_=>.none
def nested(a:LA):Option Loc:=match a with
 | .ref c=>match c.p with
  | [_]=>some c
  |_=>none
 |_=>none
def ER(s:St)(a:LA):Option Loc:=match a with
 | .ref c=>match c.p with
  | []=>if s.half c.r c.j then some c else none
  |_=>none
 |_=>none
def Ds(cx:Cx)(s:St)(d v:Nat)(t:TypeId)(e:Ls)(c:Loc)(b:LA)(k:List Wr→Step β):Step β:=match s.leaf c.r c.j with
 | .arr AA _ t' e' xs 1=>if AA==c.AA && !cx.JS c.r&&N7 b then match L.cast (a:=.sl t' e') (.sl t e) xs with
   |some xs=>s.datum (.sl t e) b fun ys=>.iff (decide (List.length (α:=e.D) xs+List.length (α:=e.D) ys≤Dc)) (k (gone [(c.r,c.j)]++[.root d ⟨false,v,[.arr v v t e (List.append (α:=e.D) xs ys) 1]⟩,.slot d (one (.ref ⟨d,0,v,v,[]⟩))])) .none
   |none=>.none
  else .none
 |_=>.none
def Dj(cx:Cx)(s:St)(d v:Nat)(t:TypeId)(e:Ls)(a b:LA)(k:List Wr→Step β):Step β:=match nested a with
 |some c=>Dt cx s d v t e c b k
 |none=>match ER s a with
  |some c=>Ds cx s d v t e c b k
  |none=>C1 cx s d v t e a b k
def Ec:List LA→Nat→List LA→List LA
 |ls,_,[]=>ls
 |ls,j,a::as=>Ec (CV ls j a) (j+1) as
def St.sure(s:St):LA→Bool
 | .sc _ _=>true
 | .CL=>true
 | .JD=>true
 | .D0 _ _ _=>true
 | .fn _=>true
 | .ptr r j AA=>(s.root r).box&&(s.root r).AA==AA
 | .ref c=>match s.leaf c.r c.j with
  | .arr AA gen _ _ _ _=>AA==c.AA&&(isNil c.p||gen==c.gen)
  |_=>false
 | .win c _ _=>match s.leaf c.r c.j with
  | .arr AA gen _ _ _ _=>AA==c.AA&&(isNil c.p||gen==c.gen)
  |_=>false
 | .Bi c=>s.alive (.Bi c)
 |_=>false
def HZ(cx:Cx)(s:St)(fs:List (Nat×TypeId)):List (Nat×Operand)→List LA→Option (List LA)
 | [],ls=>some ls
 |(i,x)::ps,ls=>match s.Aq x,Hr fs i with
  | .v g as,some (off,t)=>match cx.ty t with
   |some tf=>if as.length==tf.ls.n&&decide (off+tf.ls.n≤ls.length)&&(g||as.all s.sure)then HZ cx s fs ps (Ec ls off as)else none
   |none=>none
  |_,_=>none
def zeroOf(l:L):LA:=match l with
 | .sl _ _=>.CL
 |l=>.sc l (K9 l)
def K8(p:Bool)(v:Nat)(l:L):LA:=match p with
 |true=>zeroOf l
 |false=>KI v l
def Ch(cx:Cx)(s:St)(v:Nat)(e:Ls):List (Nat×Operand)→Nat→(List e.D→List (Nat×Nat)→Step β)→Step β
 | [],_,k=>k [] []
 |(i,x)::ps,n,k=>if i==n then match s.Aq x with
   | .v _ as=>(if Bo e then s.data e.kinds as fun vs=>match pack e vs with
     |some y=>Ch cx s v e ps (n+1) fun ys us=>k (y::ys) us
     |none=>.none
    else s.F0 cx v e.kinds as fun bs vs=>match bs.mapM fun b=>match b with
      | .arr _ _ t e xs 2=>some (⟨.sl t e,xs⟩:Lv)
      | .sc l x=>if Bp l then none else some ⟨l,x⟩
      |_=>none with
     |some ws=>match pack e ws with
      |some y=>Ch cx s v e ps (n+1) fun ys us=>if vs.all fun u => !us.contains u then k (y::ys) (vs++us)else .none
      |none=>.none
     |none=>.none)
   |_=>.none
  else .none
def Cb:List LA→Option Loc
 | []=>none
 |a::as=>match nested a with
  |some c=>some c
  |none=>Cb as
def D2(s:St)(e:Ls)(ps:List (Nat×Operand)):Option (Operand×Loc):=if Bo e then none else match ps with
 | [(0,x)]=>match s.Aq x with
  | .v _ as=>match Cb as with
   |some c=>some (x,c)
   |none=>none
  |_=>none
 |_=>none
def Jx(c:Loc)(a:LA):Bool:=match a with
 | .ref c'=>c'.r==c.r&&c'.j==c.j&&c'.AA==c.AA&&c'.gen==c.gen&&match c'.p with
  | [_]=>true
  |_=>false
 | .sc _ _=>true
 |_=>false
def Cv(cx:Cx)(s:St)(d v:Nat)(t:TypeId)(e:Ls)(x:Operand)(c:Loc)(k:List Wr→Step β):Step β:=match s.Aq x with
 | .v _ as=>match s.leaf c.r c.j with
  | .arr AA gen t0 e0 xs 2=>if AA==c.AA&&gen==c.gen && !cx.JS c.r&&as.all (Jx c)then s.data e.kinds as fun vs=>match pack e vs with
    |some y=>k [.half c.r c.j v,.slot d (one (.sc (.sl t e) (show List e.D from [y])))]
    |none=>.none
   else .none
  |_=>.none
 |_=>.none
def EM:List (L×Nat)→List LA→Bool
 | [],[]=>true
 |(l,m)::ls,a::as=>(match a with
  | .arr _ _ _ _ _ d=>d==m||(m==3&&d==2)
  | .sc _ _ => !Bp l||m==0
  |_=>false)&&EM ls as
 |_,_=>false
abbrev Tg:=Nat×Option Nat
def Tg.Db(a b:Tg):Bool:=a.1==b.1&&match a.2,b.2 with
 |some i,some j=>i==j
 |_,_=>true
def Fj(rs:List Tg)(a:Tg):Bool:=rs.any fun b=>Tg.Db b a
def JO(s:St)(l:L)(d:Nat)(a:LA)(k:Lv→List Tg→Step β):Step β:=match l with
 | .sl t e=>match a with
  | .ref c=>if d != 4&&(match s.leaf c.r c.j with
    | .arr _ _ _ _ _ dd=>dd==d&&(isNil c.p||d==2)
    |_=>false)then s.datum (.sl t e) (.ref c) fun x=>k ⟨.sl t e,x⟩ [(c.r,some c.j)]else .none
  | .CL=>if d==4 then k ⟨.sl t e,([]:List e.D)⟩ []else .none
  |_=>.none
 |l=>s.datum l a fun x=>k ⟨l,x⟩ []
def Ep(s:St):List (L×Nat)→List LA→(List Lv→List Tg→Step β)→Step β
 | [],[],k=>k [] []
 |(l,d)::ls,a::as,k=>JO s l d a fun x us=>Ep s ls as fun y rs=>if us.any (Fj rs)then .none else k (x::y) (us++rs)
 |_,_,_=>.none
def Ao(s:St):List PM→List AV→(List Lv→List Tg→Step β)→Step β
 | [],[],k=>k [] []
 | .val g ls::ps,.v g' as::vs,k=>if g==g' then s.data ls as fun x=>Ao s ps vs fun y rs=>k (x++y) rs else .none
 | .box ls::ps,.v false [.ptr r 0 AA]::vs,k=>
  if(s.root r).box&&(s.root r).AA==AA&&EM ls (s.root r).ls then
   s.data (ls.map (·.1)) (Az r 0 (s.root r).ls) fun x=>Ao s ps vs fun y rs=>if Fj rs (r,none)then .none else k (x++y) ((r,none)::rs)
  else .none
 | .row g ls::ps,.v g' as::vs,k=>if g==g' then Ep s ls as fun x us=>Ao s ps vs fun y rs=>if us.any (Fj rs)then .none else k (x++y) (us++rs)else .none
 | .fn f::ps,.v false [.fn g]::vs,k=>if f==g then Ao s ps vs k else .none
 |_,_,_=>.none
def LA.roots:LA→List Nat
 | .ref c=>[c.r]
 | .win c _ _=>[c.r]
 | .Bi c=>[c.r]
 | .ptr r _ _=>[r]
 | .I6 _ c=>[c.r]
 | .EB _ ps qs=>ps.map (·.1)++qs.map (·.1)
 |_=>[]
def AV.roots:AV→List Nat
 | .v _ as=>as.flatMap LA.roots
 | .Di vs=>vs.flatMap fun v=>v.2.flatMap LA.roots
 | .bx as=>as.flatMap LA.roots
def Ah:List PM→List AV→List Nat
 | .val _ _::ps,v::vs=>v.roots++Ah ps vs
 |_::ps,_::vs=>Ah ps vs
 |_,_=>[]
def Jc(d v:Nat):List (L×Nat)→List Lv→Nat→Option (List LA×List LA×List Lv)
 | [],vs,_=>some ([],[],vs)
 |(l,m)::ls,vs,j=>match vs with
  | []=>none
  |⟨l',x⟩::vs=>match Jc d v ls vs (j+1)with
    |some (as,rs,left)=>match l',x with
     | .sl t e,xs=>match m with
      |0=>some (.sc (.sl t e) xs::as,.bad::rs,left)
      |m+1=>some (.ref ⟨d,j,v,v,[]⟩::as,.arr v v t e xs (m+1)::rs,left)
     |l',x=>some (.sc l' x::as,.bad::rs,left)
    |none=>none
def Dv(d v:Nat):List (Bool×List (L×Nat))→List Lv→Nat→Option (List (Bool×List LA)×List LA×List Lv)
 | [],vs,_=>some ([],[],vs)
 |(g,ls)::rs,vs,j=>match Jc d v ls vs j with
  |some (as,own,vs)=>match Dv d v rs vs (j+ls.length)with
   |some (bs,ca,vs)=>some ((g,as)::bs,own++ca,vs)
   |none=>none
  |none=>none
def BP(v m:Nat)(x:Lv):LA:=match x with
 |⟨.sl t e,xs⟩=>match m with
  |0=>.sc (.sl t e) xs
  |m+1=>.arr v v t e xs (m+1)
 |⟨l,x⟩=>.sc l x
def AY(v:Nat):List (L×Nat)→List Lv→List LA
 |(_,m)::ls,x::xs=>BP v m x::AY v ls xs
 |_,_=>[]
def Cl(a:LA)(v m:Nat)(x:Lv):LA:=match(bif m==3 then a else .bad)with
 | .arr AA _ t e _ d=>bif d==2 then(match L.cast (.sl t e) (a:=x.l) x.x with
  |some y=>.arr AA v t e y d
  |none=>BP v m x)else BP v m x
 |_=>BP v m x
def AX(s:St)(r v:Nat):Nat→List (L×Nat)→List Lv→List LA
 |j,(_,m)::ls,x::xs=>Cl (s.leaf r j) v m x::AX s r v (j+1) ls xs
 |_,_,_=>[]
def putRow(s:St)(v:Nat):List (L×Nat)→List LA→List Lv→Option (List Wr)
 | [],[],_=>some []
 |(l,d)::ls,a::as,x::vs=>match putRow s v ls as vs with
  |some ws=>match l with
   | .sl _ _=>if d==4 then some ws else match a with
    | .ref c=>match s.leaf c.r c.j with
     | .arr AA _ t0 e0 xs0 d0=>match Hk (ON x) c.p t0 e0 with
      |some f=>some (.leaf c.r c.j (.arr AA v t0 e0 (f xs0) d0)::ws)
      |none=>none
     |_=>none
    |_=>none
   |_=>some ws
  |none=>none
 |_,_,_=>none
def AW(s:St)(v:Nat):List PM→List AV→List Lv→Option (List Wr)
 | [],[],[]=>some []
 | .val _ _::ps,_::as,vs=>AW s v ps as vs
 | .fn _::ps,_::as,vs=>AW s v ps as vs
 | .box ls::ps,.v false [.ptr r 0 AA]::as,vs=>match AW s v ps as (vs.drop ls.length)with
  |some ws=>some (BA r 0 (AX s r v 0 ls vs)++ws)
  |none=>none
 | .row _ ls::ps,.v _ bs::as,vs=>match putRow s v ls bs vs,AW s v ps as (vs.drop ls.length)with
  |some us,some ws=>some (us++ws)
  |_,_=>none
 |_,_,_=>none
def Og:L→Bool
 | .sl _ e=>Bo e
 |_=>true
def fresh(ls:List (L×Nat)):Bool:=ls.all fun p => !Bp p.1||p.2==2||p.2==3||(p.2==1&&Og p.1)
def Om(lt:Int→Int→Option Bool)(x y:Int):Bool:=match lt x y with
 |some b=>b
 |none=>false
def Mq(lt:Int→Int→Option Bool)(xs:List Int):Option (List Int):=
 bif decide (xs.length≤1)then some xs else bif decide (xs.length≤20)&&xs.all fun x=>xs.all fun y=>(lt x y).isSome then some (Go.Sort.insertionSort (Om lt) xs.toArray 0 xs.length).toList else none
def Nl:LA→Bool
 | .arr _ _ _ _ _ _=>true
 | .sc _ _=>true
 |_=>false
def DJ(s:St)(not:Nat):List (List L)→List (Nat×Nat)→(List Lv→Step β)→Step β
 | [],[],k=>k []
 |ls::bs,(r,AA)::ps,k=>if(s.root r).box&&(s.root r).AA==AA&&r != not&&(s.root r).ls.length==ls.length&&(s.root r).ls.all Nl then
   s.data ls (Az r 0 (s.root r).ls) fun x=>DJ s not bs ps fun y=>k (x++y)
  else .none
 |_,_,_=>.none
def Bt(s:St)(c:Loc)(qs:List (Nat×Nat)):List KJ→List (Nat×Nat)→(List Lv→Step β)→Step β
 | [],[],k=>k []
 | .box ls::cs,p::ps,k=>DJ s c.r [ls] [p] fun x=>Bt s c qs cs ps fun y=>k (x++y)
 | .EB g bs::cs,(r,AA)::ps,k=>match(s.root r).ls with
  | [.EB g' YA _]=>if(s.root r).box&&(s.root r).AA==AA&&r != c.r&&g==g'&&YA.all fun q=>qs.contains q then DJ s c.r bs YA fun x=>Bt s c qs cs ps fun y=>k (x++y)else .none
  |_=>.none
 | .row::cs,(r,AA)::ps,k=>if(s.root r).box&&(s.root r).AA==AA&&r==c.r&&c.j==0&&(s.root r).ls.length==1 then Bt s c qs cs ps k else .none
 |_,_,_=>.none
def Dp(cx:Cx)(s:St)(d v:Nat)(f:FuncId)(vs:List AV)(k:List Wr→Step β):Step β:=match vs with
 | [.v false [.I6 t c],.v false [.EB g ps qs]]=>match cx.env.PK f g with
  |some σ=>match s.leaf c.r c.j with
   | .arr AA _ t0 (.one (.int .i64)) xs 2=>if AA==c.AA&&isNil c.p && !cx.JS c.r&&t==σ.t then Bt s c qs σ.I3 ps fun x=>match pack (Ew (σ.I3.flatMap KJ.kinds)) x with
     |some y=>.Mx (Mq (σ.lt y) (show List Int from xs)) fun zs=>k [.leaf c.r c.j (.arr AA v t0 (.one (.int .i64)) (show List Int from zs) 2),.slot d (.Di [])]
     |none=>.none
    else .none
   |_=>.none
  |none=>.none
 |_=>.none
def Dd(s:St):List AV→Option (List (Nat×Nat))
 | []=>some []
 | .v false [.ptr r 0 AA]::vs=>if(s.root r).box&&(s.root r).AA==AA then match Dd s vs with
   |some ps=>some ((r,AA)::ps)
   |none=>none
  else none
 |_::_=>none
def behind(s:St):List (Nat×Nat)→List (Nat×Nat)
 | []=>[]
 |(r,_)::ps=>(match(s.root r).ls with
  | [.EB _ qs _]=>qs
  |_=>[])++behind s ps
def Kh(bs:List (Bool×List LA)):AV:=match bs with
 | [(g,as)]=>.v g as
 |bs=>.Di bs
def call(cx:Cx)(s:St)(d v:Nat)(f:FuncId)(vs:List AV)(k:List Wr→Step β):Step β:=match cx.env.fn f with
 |none=>Dp cx s d v f vs k
 |some g=>if g.s.mk? then Ao s g.s.ps vs fun x _=>if g.s.plain&&isNil (Ah g.s.ps vs)then match pack g.s.ins x with
   |none=>.none
   |some y=>.Mx (g.f y) fun z=>k (GI d v (AY v g.s.Gr (unpack g.s.outs z)))
  else .none
  else Ao s g.s.ps vs fun x ws=>if(Ah g.s.ps vs).all fun r => !Fj ws (r,none)then match pack g.s.ins x with
   |none=>.none
   |some y=>.Mx (g.f y) fun z=>match Dv d v g.s.rs (unpack g.s.outs z) 0 with
    |none=>.none
    |some (bs,own,left)=>match AW s v g.s.ps vs left,(if fresh g.s.Gr then some []else Aw cx s (Ah g.s.ps vs))with
     |some ws,some fs=>k (fs++ws++[.root d ⟨false,v,own⟩,.slot d (Kh bs)])
     |_,_=>.none
  else .none
def IC(cx:Cx)(s:St)(t:TypeId)(q:LA)(p:AV)(dst:Option Tmp):Step (List Wr):=match p with
 | .v false [.EB g ps qs]=>if cx.env.O8 t then match q with
  | .ptr r j AA=>match dst with
   |none=>if(s.root r).box&&(s.root r).AA==AA&&decide (j+1≤(s.root r).ls.length)then .go [.leaf r j (.EB g ps qs)]else .none
   |some _=>.none
  |_=>.none
 else .none
 |_=>.none
def Hh:AV→Bool
 | .v false [.CL]=>true
 |_=>false
def bytesOf(xs:List Int):List UInt8:=xs.map fun n=>UInt8.ofNat n.toNat
def Co(b:List UInt8):List Int:=b.map fun c=>(c.toNat:Int)
def K6(cx:Cx)(v:Nat)(dst:Option Tmp)(t0:TypeId)(y:LA):Step (List Wr):=match y,dst with
 | .sc .str b,some d=>if Gt cx t0 (.int .u8)then .go (ownRow d v t0 (.one (.int .u8)) (Co b))else .none
 |_,_=>.none
def AB(cx:Cx)(v:Nat)(o:Oper)(s:St):Step (List Wr):=
 let out (a:AV):Step (List Wr):=match o.dst with
  |some d=>.go [.slot d a]
  |none=>.go []
 match o.op with
 | .move x=>if Hh (s.Aq x)then match cx.ty o.type,o.dst with
   |some ty,some d=>if ty.agg then .none else match ty.ls with
    | .one (.sl t e)=>.go (ownRow d v t e [])
    |_=>.none
   |_,_=>.none
  else out (s.Aq x)
 | .assign x=>match o.dst with
  |none=>.none
  |some d=>match s.Aj x with
   | .sc l x=>.go [.slot d (one (.sc l x))]
   | .ptr r j AA=>.go [.slot d (one (.ptr r j AA))]
   | .fn f=>.go [.slot d (one (.fn f))]
   | .JD=>.go [.slot d (one .JD)]
   | .Bi c=>.go [.slot d (one (.Bi c))]
   | .D0 e x off=>.go [.slot d (one (.D0 e x off))]
   |a=>if cx.JS d then .none else match cx.ty o.type with
    |some ty=>match ty.ls with
     | .one l=>s.take cx v a l fun b us=>match b with
      | .arr _ _ t e xs dd=>.go (gone us++[.root d ⟨false,v,[.arr v v t e xs dd]⟩,.slot d (one (.ref ⟨d,0,v,v,[]⟩))])
      |_=>.none
     |_=>.none
    |none=>.none
 | .pick c a b=>match s.Aj c with
  | .sc .bool t=>.iff t (out (s.Aq a)) (out (s.Aq b))
  |_=>.none
 | .alloc t=>match cx.ty t,o.dst with
  |some ty,some d=>.go (GI d v (ty.ls.kinds.map (K8 (cx.JS d) v)))
  |none,some d=>if cx.env.O8 t then .go (GI d v [.bad])else .none
  |_,_=>.none
 | .box t x=>match cx.ty t,o.dst,s.Aq x with
  |some ty,some d,.v g as=>if g&&MK s as then .go [.slot d (.bx as)]else s.F0 cx v ty.ls.kinds as fun bs us=>if us.all fun u => !(u.1==d)then .go (gone us++GI d v bs)else .none
  |_,_,_=>.none
 | .build t parts=>match cx.ty t with
  |some ty=>match(if ty.agg then HZ cx s ty.fs parts.toList (ty.ls.kinds.map zeroOf)else none)with
   |some ls=>out (.v true ls)
   |none=>.none
  |none=>.none
 | .buildSlice t len parts=>match cx.ty t,o.dst with
  |some ty,some d=>if ty.agg then .none else match ty.ls with
   | .one (.sl t e)=>if len==parts.size&&decide (len*e.n≤16777216)then(match D2 s e parts.toList with
    |some (x,c)=>Cv cx s d v t e x c fun ws=>.go ws
    |none=>Ch cx s v e parts.toList 0 fun ys us=>if us.all fun u => !(u.1==d)then .go (gone us++ownRow d v t e ys)else .none)else .none
   |_=>.none
  |_,_=>.none
 | .load t x=>match cx.ty t with
  |some ty=>s.FL (s.Aq x) ty.ls.n fun as=>if as.length==ty.ls.n then out (.v ty.agg as)else .none
  |none=>.none
 | .store t x y=>match cx.ty t,s.Aq y with
  |some ty,.v _ as=>match MT (s.Aj x) as with
   | []=>GP cx v s o.dst (s.Aj x) ty.ls.kinds as []
   |r::rs=>match Aw cx s (r::rs)with
    |some fs=>GP cx v (s.app fs) o.dst (s.Aj x) ty.ls.kinds as fs
    |none=>.none
  |none,p=>IC cx s t (s.Aj x) p o.dst
  |_,_=>.none
 | .makeInterface t x=>match cx.ty t,s.Aj x with
  |some ty,.ref c=>if ty.agg then .none else match ty.ls with
   | .one (.sl _ _)=>out (one (.I6 t c))
   |_=>.none
  |_,_=>.none
 | .makeFunc (.func g) first captured=>if first.size==0 then match Dd s (captured.toList.map s.Aq)with
   |some ps=>out (one (.EB g ps (behind s ps)))
   |none=>.none
  else .none
 | .nilCheck x=>match s.Aq x with
  | .bx as=>out (.bx as)
  |a=>if s.alive a.one? then out (one a.one?)else .none
 | .binOp op tx x y _=>match s.Aq x,s.Aq y with
  | .v true as,.v true bs=>L3 cx op tx as bs fun a=>out a
  | .v false [.sc (.sl t e) xs],.v false [.CL]=>MU cx op tx e xs fun a=>out a
  |p,q=>binop (Gt cx tx .bool) op y p.one? q.one? fun a=>out a
 | .unOp op _ x=>match op,s.Aj x with
  | .not,.sc .bool b=>out (H9 (!b))
  | .neg,.sc (.int k) n=>out (IJ k (k.wrap (OD n)))
  |_,_=>.none
 | .convert a b x=>match cx.ty a,cx.ty b,s.Aj x with
  |some ta,some ty,.sc (.int _) n=>if ty.agg then .none else match ty.ls with
   | .one (.int k)=>out (IJ k (k.wrap n))
   |_=>.none
  |some ta,some ty,y=>if ta.agg||ty.agg then .none else match ta.ls,ty.ls with
   | .one (.sl t0 (.one (.int .u8))),.one .str=>if Gt cx t0 (.int .u8)then s.datum (.sl t0 (.one (.int .u8))) y fun xs=>out (O0 (bytesOf xs))else .none
   | .one .str,.one (.sl t0 (.one (.int .u8)))=>K6 cx v o.dst t0 y
   |_,_=>.none
  |_,_,_=>.none
 | .makeSlice t l c=>match cx.ty t,o.dst with
  |some ty,some d=>if ty.agg then .none else match ty.ls with
   | .one (.sl t e)=>asInt (s.Aj l) fun n=>asInt (s.Aj c) fun m=>
     .iff (decide (0≤n)&&decide (n≤(Dc:Int))&&decide (m=n)) (.go (ownRow d v t e (List.replicate n.toNat (FV e)))) .none
   |_=>.none
  |_,_=>.none
 | .slice ti x lo hi none=>match s.Aj x with
  | .sc .str b=>if Gt cx ti .str then DZ s lo 0 fun l=>DZ s hi (List.length (α:=UInt8) b:Int) fun h=>
    .iff (decide (0≤l)&&decide (l≤h)&&decide (h≤(List.length (α:=UInt8) b:Int))) (out (O0 (sub (α:=UInt8) b l.toNat h.toNat))) .none
   else .none
  | .sc (.sl t e) b=>if isRow cx ti e then DZ s lo 0 fun l=>DZ s hi (List.length (α:=e.D) b:Int) fun h=>
    .iff (decide (0≤l)&&decide (l≤h)&&decide (h≤(List.length (α:=e.D) b:Int))) (out (one (.sc (.sl t e) (sub (α:=e.D) b l.toNat h.toNat)))) .none
   else .none
  | .ref c=>s.content c fun t e xs _=>if isRow cx ti e then DZ s lo 0 fun l=>DZ s hi (xs.length:Int) fun h=>
    .iff (decide (0≤l)&&decide (l≤h)&&decide (h≤(xs.length:Int))) (out (one (.win c l.toNat h.toNat))) .none
   else .none
  |_=>.none
 | .fieldAddr t x f=>match cx.ty t with
  |some ty=>match(if ty.agg then Hr ty.fs f else none)with
   |some (fo,ft)=>match cx.ty ft with
    |some tf=>if tf.ls.n==0 then .none else match s.Aq x with
     | .bx as=>out (.bx (as.drop fo))
     |a=>if !s.alive a.one? then .none else match a.one? with
     | .ptr r j AA=>out (one (.ptr r (j+fo) AA))
     | .D0 e y j=>out (one (.D0 e y (j+fo)))
     | .Bi c=>match Ak c.p with
      |some (q,i,off)=>out (one (.Bi { c with p:=q++[(i,off+fo)] }))
      |none=>.none
     |_=>.none
    |none=>.none
   |none=>.none
  |none=>.none
 | .field t x f=>match cx.ty t,s.Aq x with
  |some ty,.v true as=>match(if ty.agg then Hr ty.fs f else none)with
   |some (fo,ft)=>match cx.ty ft with
    |some tf=>if decide (fo+tf.ls.n≤as.length)then out (.v tf.agg ((as.drop fo).take tf.ls.n))else .none
    |none=>.none
   |none=>.none
  |_,_=>.none
 | .indexAddr ti x i=>asInt (s.Aj i) fun n=>match s.Aj x with
  | .sc (.sl t e) xs=>if isRow cx ti e then .Mx (NJ (α:=e.D) xs n) fun y=>out (one (.D0 e y 0))else .none
  | .ref c=>s.content c fun t e xs _=>if isRow cx ti e then .iff (Oz xs n) (out (one (.Bi { c with p:=c.p++[(n.toNat,0)] }))) .none else .none
  | .win c lo hi=>s.content c fun t e xs _=>if isRow cx ti e then .iff (Oz (sub xs lo hi) n) (out (one (.Bi { c with p:=c.p++[(lo+n.toNat,0)] }))) .none else .none
  |_=>.none
 | .index ti x i=>asInt (s.Aj i) fun n=>match s.Aj x with
  | .sc .str b=>if Gt cx ti .str then .Mx (NJ (α:=UInt8) b n) fun y=>out (IJ .u8 (y.toNat:Int))else .none
  |_=>.none
 | .extract x i=>match s.Aq x with
  | .Di vs=>match Hr vs i with
   |some (g,as)=>out (.v g as)
   |none=>.none
  |_=>.none
 | .call c=>match c.callee with
  | .builtin .len=>match c.args.toList,c.argTypes.toList with
   | [x],[t]=>match cx.ty t with
    |some ty=>if ty.agg then .none else match ty.ls with
     | .one .str=>OA (s.Aj x) fun n=>out (IJ .i64 n)
     | .one (.sl _ _)=>lenOf s (s.Aj x) fun n=>out (IJ .i64 n)
     |_=>.none
    |none=>.none
   |_,_=>.none
  | .builtin .append=>match c.args.toList,c.argTypes.toList,cx.ty o.type,o.dst with
   | [x,y],[t1,t2],some ty,some d=>match ty.ls with
    | .one (.sl t e)=>if t1==t2&&isRow cx t1 e then Dj cx s d v t e (s.Aj x) (s.Aj y) fun ws=>.go ws else .none
    |_=>.none
   |_,_,_,_=>.none
  | .builtin .min=>match c.args.toList with
   | [x,y]=>match s.Aj x,s.Aj y with
    | .sc (.int k) a,.sc (.int j) b=>out (IJ k (NQ a b))
    |_,_=>.none
   |_=>.none
  | .builtin .max=>match c.args.toList with
   | [x,y]=>match s.Aj x,s.Aj y with
    | .sc (.int k) a,.sc (.int j) b=>out (IJ k (NP a b))
    |_,_=>.none
   |_=>.none
  | .value f=>match s.Aj f,o.dst with
   | .fn f,some d=>call cx s d v f (c.args.toList.map s.Aq) fun ws=>.go ws
   |_,_=>.none
  |_=>.none
 |_=>.none
end Go.Ev
namespace Go.Ev
variable {β:Type}
def number{α:Type}:Nat→List α→List (Nat×α)
 |_,[]=>[]
 |n,x::xs=>(n,x)::number (n+1) xs
inductive VP where
 |slot (s:Nat) (l:L)
 |own (s:Nat) (t:TypeId) (e:Ls) (d:Nat) (k:Bool)
 |box (r:Nat) (ls:List (Option (L×Nat)))
def VP.kinds:VP→List L
 | .slot _ l=>[l]
 | .own _ t e _ _=>[.sl t e]
 | .box _ ls=>ls.filterMap fun x=>x.map (·.1)
def VP.roots:VP→List Nat
 | .slot _ _=>[]
 | .own s _ _ _ _=>[s]
 | .box r _=>[r]
def VP.AO:VP→List Nat
 | .slot s _=>[s]
 | .own s _ _ _ _=>[s]
 | .box _ _=>[]
def DD(ps:List VP):Ls:=Ew (ps.flatMap VP.kinds)
def Dn(s:St):List (Option (L×Nat))→List LA→(List Lv→Step β)→Step β
 | [],[],k=>k []
 |none::ls,_::as,k=>Dn s ls as k
 |some (l,d)::ls,a::as,k=>match a with
  | .arr AA _ t e xs d'=>if(d==0||d==d')&&(!(d==3)||AA==1)then match L.cast (a:=.sl t e) l xs with
    |some y=>Dn s ls as fun vs=>k (⟨l,y⟩::vs)
    |none=>.none
   else .none
  |a=>match d with
   |0=>s.datum l a fun y=>Dn s ls as fun vs=>k (⟨l,y⟩::vs)
   |_+1=>match l with
    | .sl _ _=>.none
    |l=>s.datum l a fun y=>Dn s ls as fun vs=>k (⟨l,y⟩::vs)
 |_,_,_=>.none
def St.still(s:St)(l:L)(a:LA):Bool:=match l with
 | .sl _ _=>match a with
  | .sc _ _=>true
  | .CL=>true
  | .ref c=>match s.leaf c.r c.j with
   | .arr _ _ _ _ _ 0=>true
   |_=>false
  | .win c _ _=>match s.leaf c.r c.j with
   | .arr _ _ _ _ _ 0=>true
   |_=>false
  |_=>false
 |_=>true
def J8(s:St)(v:VP)(k:List Lv→Step β):Step β:=match v with
 | .slot t l=>if s.still l (s.slot t).one? then s.datum l (s.slot t).one? fun x=>k [⟨l,x⟩]else .none
 | .own t ty e d k0=>match s.slot t,s.root t with
  | .v false [.ref c],⟨false,_,[.arr AA _ t' e' xs d']⟩=>if c.r==t&&c.j==0&&isNil c.p&&AA==c.AA&&d==d'&&(!k0||AA==1)then match L.cast (a:=.sl t' e') (.sl ty e) xs with
    |some y=>k [⟨.sl ty e,y⟩]
    |none=>.none
   else .none
  |_,_=>.none
 | .box r ls=>if(s.root r).box then Dn s ls (s.root r).ls k else .none
def Kv(s:St):List VP→(List Lv→Step β)→Step β
 | [],k=>k []
 |v::vs,k=>J8 s v fun x=>Kv s vs fun y=>k (x++y)
def As(ps:List VP)(s:St):Option (DD ps).D:=(Kv s ps .go).run (pack (DD ps))
def FQ(v:Nat)(k:Bool):Nat:=match k with
 |true=>1
 |false=>v
def CA(v d:Nat)(k:Bool)(x:Lv):LA:=match BP v d x with
 | .arr _ g t e xs d=>.arr (FQ v k) g t e xs d
 |a=>a
def AQ(v:Nat):List (Option (L×Nat))→List Lv→List LA
 | [],_=>[]
 |none::ls,vs=>.bad::AQ v ls vs
 |some (l,d)::ls,x::vs=>CA v d (d==3) x::AQ v ls vs
 |some _::ls,[]=>.bad::AQ v ls []
def Bw(v:Nat)(s:St):List VP→List Lv→List Wr
 | [],_=>[]
 | .slot t _::ps,x::vs=>.slot t (one (.sc x.l x.x))::Bw v s ps vs
 | .own t ty e d k::ps,x::vs=>.root t ⟨false,v,[CA v d k x]⟩::.slot t (one (.ref ⟨t,0,FQ v k,v,[]⟩))::Bw v s ps vs
 | .box r ls::ps,vs=>.root r ⟨true,(s.root r).AA,AQ v ls vs⟩::Bw v s ps (vs.drop (ls.filterMap id).length)
 |_,[]=>[]
def LA.clean(ms ch:Nat→Bool)(a:LA):LA:=match a with
 | .ref c=>if ch c.r then .bad else .ref c
 | .win c lo hi=>if ch c.r then .bad else .win c lo hi
 | .Bi c=>if ch c.r then .bad else .Bi c
 | .ptr r j AA=>if ms r then .bad else .ptr r j AA
 | .I6 t c=>if ch c.r then .bad else .I6 t c
 | .EB g ps qs=>if ps.any fun p=>ms p.1 then .bad else .EB g ps qs
 |a=>a
def AV.clean(ms ch:Nat→Bool):AV→AV
 | .v g as=>.v g (as.map (LA.clean ms ch))
 | .Di _=>one .bad
 | .bx _=>one .bad
def KW{α γ:Type}(f:Nat→α→γ):Nat→List α→List γ
 |_,[]=>[]
 |n,x::xs=>f n x::KW f (n+1) xs
def base(ms:List Nat)(ps:List VP)(s:St):St:=
 {sl:=KW (fun t x=>if has ms t then one .bad else x.clean (fun r=>has ms r||has (ps.flatMap VP.AO) r) fun r=>has ms r||has (ps.flatMap VP.roots) r) 0 s.sl
  ro:=KW (fun r x=>if has ms r then dead else x) 0 s.ro
  Bm:=s.Bm+1 }
def Bv(ms:List Nat)(ps:List VP)(s:St)(x:(DD ps).D):St:=(base ms ps s).app (Bw s.Bm s ps (unpack (DD ps) x))
def Cx.in(cx:Cx)(ms:List Nat)(ps:List VP):Cx:=
 { cx with lock:=fun r=>cx.lock r || !(has ms r||has (ps.flatMap VP.roots) r),E9:=fun t=>cx.E9 t || !(has ms t||has (ps.flatMap VP.AO) t) }
def distinct:List Nat→Bool
 | []=>true
 |x::xs => !has xs x&&distinct xs
def Cm(cx:Cx)(ms:List Nat)(ps:List VP):Bool:=distinct (ps.flatMap VP.roots)&&distinct (ps.flatMap VP.AO)&&ps.all fun p=>match p with
 | .slot s _ => !cx.E9 s
 | .own s _ _ _ _ => !cx.lock s && !cx.E9 s && !cx.JS s
 | .box r _ => !has ms r && !cx.lock r && !has (ps.flatMap VP.AO) r
structure An where
 O9:Nat→Option (List VP)
 AS:Nat→Option (List VP×Bool)
 PQ:Nat→Option (List VP×Bool)
 pre:Nat→List Nat
def Gp:List (Nat×Oper)→List Nat
 | []=>[]
 |(_,o)::r=>match o.dst with
  |some d=>d::Gp r
  |none=>Gp r
def CC:Code→List Nat
 | .region _ ops _=>Gp (number 0 ops.toList)
 | .seq a b=>CC a++CC b
 | .cond _ a b=>CC a++CC b
 | .block _ c=>CC c
 | .loop c=>CC c
 |_=>[]
def GB:Code→Nat
 | .region id _ _=>id
 | .seq a _=>GB a
 | .block _ c=>GB c
 | .loop c=>GB c
 |_=>0
def N9:Code→Nat
 | .seq a _=>3*GB a+3
 | .block id _=>3*id+4
 | .cond _ x y=>3*(match GB x with
  |0=>GB y
  |n+1=>n+1)+5
 |_=>0
def mask(t:Nat):Nat:=2 ^ t
def JK(r:Nat):Nat:=2 ^ (4*r+1)
def Js(r:Nat):Nat:=2 ^ (4*r+3)
def AV.mask(a:AV):Nat:=a.roots.foldr (fun r m=>Nat.lor (JK r) (Nat.lor (Js r) m)) 0
def BT(ops:Array Oper)(o:Oper):Nat:=match o.guard with
 |some (g,_)=>match(ops[g]?).bind (·.dst)with
  |some t=>2 ^ (2*t)
  |none=>0
 |none=>0
def A6(ops:Array Oper)(o:Oper)(s:St):Nat:=match o.op with
 | .move (.tmp t)=>Nat.lor (2 ^ (2*t)) (BT ops o)
 | .extract (.tmp t) _=>Nat.lor (2 ^ (2*t)) (BT ops o)
 | .field _ (.tmp t) _=>Nat.lor (2 ^ (2*t)) (BT ops o)
 | .load _ (.tmp t)=>Nat.lor (2 ^ (2*t)) (Nat.lor (match s.slot t with
  | .v _ [.ptr r _ _]=>JK r
  |a=>a.mask) (BT ops o))
 | .fieldAddr _ (.tmp t) _=>Nat.lor (2 ^ (2*t)) (Nat.lor (match s.slot t with
  | .v _ [.ptr r _ _]=>JK r
  |a=>a.mask) (BT ops o))
 |_=>o.op.operands.toList.foldr (fun x m=>match x with
  | .tmp t=>Nat.lor (2 ^ (2*t)) (Nat.lor (s.slot t).mask m)
  |_=>m) (BT ops o)
def Wr.mask:Wr→Nat
 | .slot t _=>2 ^ (2*t)
 | .root r _=>Nat.lor (JK r) (Js r)
 | .leaf r _ _=>Nat.lor (JK r) (Js r)
 | .half r _ _=>Js r
def AE(ws:List Wr):Nat:=ws.foldr (fun w m=>Nat.lor w.mask m) 0
def bit(m i:Nat):Bool:=m.testBit i
def Et:List Oper→List Nat→List Nat
 | [],acc=>acc
 |o::r,acc=>Et r (acc++[o.after.toList.foldr (fun e m=>if Region.binds .any e then Nat.lor (2 ^ e.on) (Nat.lor (nth 0 acc e.on) m)else m) 0])
def indep(b rm wm:Nat):Nat→List (Nat×Nat)→Bool
 |_,[]=>true
 |j,(r,w)::lg=>(bit b j||(Nat.land w (Nat.lor rm wm)==0&&Nat.land r wm==0))&&indep b rm wm (j+1) lg
def LA.AG:LA→List Nat
 | .ref c=>[c.AA,c.gen]
 | .win c _ _=>[c.AA,c.gen]
 | .Bi c=>[c.AA,c.gen]
 | .ptr _ _ AA=>[AA]
 | .I6 _ c=>[c.AA,c.gen]
 | .EB _ ps _=>ps.map (·.2)
 | .arr AA gen _ _ _ _=>[AA,gen]
 |_=>[]
def AV.AG:AV→List Nat
 | .v _ as=>as.flatMap LA.AG
 | .Di vs=>vs.flatMap fun v=>v.2.flatMap LA.AG
 | .bx as=>as.flatMap LA.AG
def Bl.AG(r:Bl):List Nat:=r.AA::r.ls.flatMap LA.AG
def Wr.AG:Wr→List Nat
 | .slot _ a=>a.AG
 | .root _ x=>x.AG
 | .leaf _ _ a=>a.AG
 | .half _ _ v=>[v]
def LA.Ca:LA→Bool
 | .ref _=>false
 | .win _ _ _=>false
 | .Bi _=>false
 | .I6 _ _=>false
 |_=>true
def Wr.ok(cx:Cx)(dst:Option Nat):Wr→Bool
 | .slot t _=>match dst with
  |some d=>t==d
  |none=>false
 | .root r x => !cx.lock r&&x.ls.all LA.Ca&&match dst with
  |some d=>r==d
  |none=>false
 | .leaf r _ a => !cx.lock r&&a.Ca
 | .half r _ _ => !cx.lock r
def JF(cx:Cx)(dst:Option Nat)(v0 v b:Nat)(ws:List Wr):Bool:=
 ws.all fun w=>w.ok cx dst&&w.AG.all fun n=>decide (n<v0)||n==v||(decide (v0≤n)&&bit b (n-v0))
def Cq(dst:Option Nat):List Wr:=match dst with
 |some d=>[.slot d (one .undef)]
 |none=>[]
structure Rg where
 ops:Array Oper
 v0:Nat
 draw:Bool
def EO{R:Type}(cx:Cx)(g:Rg):List (Nat×Oper)→List Nat→List (Nat×Nat)→St→(St→Option R)→Option R
 | [],_,_,s,k=>k s
 |(i,o)::r,bs,lg,s,k=>
  let b:=nth 0 bs i
  let rm:=A6 g.ops o s
  let exec (s:St):Option R:=(AB cx (g.v0+i) o s).run fun ws=>
   if JF cx o.dst g.v0 (g.v0+i) b ws&&(!g.draw||indep b rm (AE ws) 0 lg)then EO cx g r bs (lg++[(rm,AE ws)]) (s.app ws) k else none
  let skip (s:St):Option R:=if !g.draw||indep b rm (AE (Cq o.dst)) 0 lg then EO cx g r bs (lg++[(rm,AE (Cq o.dst))]) (s.app (Cq o.dst)) k else none
  match o.guard with
  |none=>exec s
  |some (j,want)=>match(g.ops[j]?).bind (·.dst)with
   |none=>none
   |some t=>match s.slot t with
    | .v false [.undef]=>skip s
    | .v false [.sc .bool c]=>match want with
     |true=>bif c then exec (s.AF (.slot t (H9 true)))else skip (s.AF (.slot t (H9 false)))
     |false=>bif c then skip (s.AF (.slot t (H9 true)))else exec (s.AF (.slot t (H9 false)))
    |_=>none
def JA(os:List Oper):List VP:=match os.getLast? with
 |some o=>match o.dst with
  |some d=>[.slot d .bool]
  |none=>[]
 |none=>[]
def El{R:Type}(cx:Cx)(an:An)(id:Nat)(ops:Array Oper)(draw:Bool)(s:St)(k:St→Option R):Option R:=
 let os:=number 0 ops.toList
 let g:Rg:=⟨ops,s.Bm,draw⟩
 let bs:=Et ops.toList []
 if ops.toList.all fun o=>match o.guard with
  |none=>true
  |some _=>false
 then EO cx g os bs [] s fun s'=>k { s' with Bm:=s.Bm+ops.size }
 else
  let ps:=match an.O9 id with
   |some p=>p
   |none=>JA ops.toList
  let ms:=Gp os
  if Cm cx ms ps then(EO (cx.in ms ps) g os bs [] s (As ps)).bind fun x=>k (Bv ms ps s x)else none
def HX{R:Type}(cx:Cx)(an:An)(id:Nat)(ops:Array Oper)(draw:Bool)(s:St)(k:St→Option R):Option R:=match an.pre id with
 | []=>El cx an id ops draw s k
 |r::rs=>if(r::rs).all fun r => !cx.lock r then match Aw cx s (r::rs)with
   |some fs=>El cx an id ops draw (s.app fs) k
   |none=>none
  else none
def iter{α γ:Type}:Nat→(α→Option (α⊕γ))→α→Option γ
 |0,_,_=>none
 |n+1,f,x=>(f x).bind fun y=>match y with
  | .inl x=>iter n f x
  | .inr z=>some z
def ev(an:An)(n:Nat){RD:Type}(rp:St→Option RD):Code→{R:Type}→Cx→St→(St→Option R)→(Nat→St→Option R)→(RD→Option R)→Option R
 | .skip,_,cx,s,kn,kx,kr=>kn s
 | .region id ops draw,_,cx,s,kn,kx,kr=>HX cx an id ops draw s kn
 | .seq a b,_,cx,s,kn,kx,kr=>match an.PQ (N9 a)with
  |none=>ev an n rp a cx s (fun s=>ev an n rp b cx s kn kx kr) kx kr
  |some (ps,rets)=>
   let ms:=CC a
   if Cm cx ms ps then match rets with
    |false=>(ev an n rp a (R:=(DD ps).D) (cx.in ms ps) s (As ps) (fun _ _=>none) (fun _=>none)).bind fun x=>ev an n rp b cx (Bv ms ps s x) kn kx kr
    |true=>(ev an n rp a (R:=(DD ps).D⊕RD) (cx.in ms ps) s (fun s=>(As ps s).bind fun x=>some (.inl x)) (fun _ _=>none) (fun r=>some (.inr r))).bind fun q=>match q with
     | .inl x=>ev an n rp b cx (Bv ms ps s x) kn kx kr
     | .inr r=>kr r
   else none
 | .cond c x y,_,cx,s,kn,kx,kr=>match s.Aj c with
  | .sc .bool b=>bif b then ev an n rp x cx s kn kx kr else ev an n rp y cx s kn kx kr
  |_=>none
 | .block id c,_,cx,s,kn,kx,kr=>match an.AS id with
  |none=>ev an n rp c cx s kn (fun i s=>if i==id then kn s else kx i s) kr
  |some (ps,rets)=>match c with
   | .loop c=>
    let ms:=CC c
    if Cm cx ms ps then match rets with
     |false=>(As ps s).bind fun x0=>(iter (α:=(DD ps).D) (γ:=(DD ps).D) n (fun x=>ev an n rp c (cx.in ms ps) (Bv ms ps s x)
        (fun s=>(As ps s).bind fun x=>some (.inl x)) (fun i s=>if i==id then(As ps s).bind fun x=>some (.inr x)else none) (fun _=>none)) x0).bind fun x=>
       kn (Bv ms ps s x)
     |true=>(As ps s).bind fun x0=>(iter (α:=(DD ps).D) (γ:=(DD ps).D⊕RD) n (fun x=>ev an n rp c (cx.in ms ps) (Bv ms ps s x)
        (fun s=>(As ps s).bind fun x=>some (.inl x)) (fun i s=>if i==id then(As ps s).bind fun x=>some (.inr (.inl x))else none) (fun r=>some (.inr (.inr r)))) x0).bind fun q=>match q with
       | .inl x=>kn (Bv ms ps s x)
       | .inr r=>kr r
    else none
   |_=>none
 | .exit id,_,cx,s,kn,kx,kr=>kx id s
 | .ret,_,cx,s,kn,kx,kr=>(rp s).bind kr
 |_,_,_,_,_,_,_=>none
def Dz:Nat→List Oper→Bool
 |_,[]=>true
 |i,o::r=>o.after.toList.all (fun e => !Region.binds .any e||decide (e.on<i))&&Dz (i+1) r
def codeOk(n:Nat):Code→Bool
 | .region _ ops _=>Dz 0 ops.toList&&ops.toList.all fun o=>match o.dst with
  |some d=>decide (d<n)
  |none=>true
 | .seq a b=>codeOk n a&&codeOk n b
 | .cond _ a b=>codeOk n a&&codeOk n b
 | .block _ c=>codeOk n c
 | .loop c=>codeOk n c
 |_=>true
def BB(i:Nat):Nat→List (L×Nat)→List Lv→List LA
 |j,(l,d)::ls,x::vs=>(match l with
  | .sl _ _=>if d==4 then LA.CL else LA.ref ⟨i,j,1,1,[]⟩
  |_=>.sc x.l x.x)::BB i (j+1) ls vs
 |_,_,_=>[]
def C9:Nat→List PM→List Lv→Option (List Wr)
 |_,[],[]=>some []
 |_,[],_::_=>none
 |i,.val g ls::ps,vs=>match C9 (i+1) ps (vs.drop ls.length)with
  |some ws=>some (.slot i (.v g ((vs.take ls.length).map fun x=>.sc x.l x.x))::ws)
  |none=>none
 |i,.box ls::ps,vs=>match C9 (i+1) ps (vs.drop ls.length)with
  |some ws=>some (.root i ⟨true,1,AY 1 ls vs⟩::.slot i (one (.ptr i 0 1))::ws)
  |none=>none
 |i,.row g ls::ps,vs=>match C9 (i+1) ps (vs.drop ls.length)with
  |some ws=>some (.root i ⟨false,1,AY 1 ls vs⟩::.slot i (.v g (BB i 0 ls vs))::ws)
  |none=>none
 |i,.fn f::ps,vs=>match C9 (i+1) ps vs with
  |some ws=>some (.slot i (one (.fn f))::ws)
  |none=>none
def blank(n:Nat):St:={sl:=List.replicate n (one .bad),ro:=List.replicate n dead,Bm:=2 }
def Fb(s:St)(us:List (Nat×Nat))(l:L)(m:Nat)(a:LA)(k:Lv→List (Nat×Nat)→Step β):Step β:=match l with
 | .sl t e=>match m with
  |0=>if s.still (.sl t e) a then s.datum (.sl t e) a fun x=>k ⟨.sl t e,x⟩ us else .none
  |m+1=>match a with
   | .CL=>k ⟨.sl t e,([]:List e.D)⟩ us
   | .ref c=>match s.leaf c.r c.j with
    | .arr AA _ t' e' xs d=>if AA==c.AA&&isNil c.p&&d==m+1 && !us.contains (c.r,c.j)then match L.cast (a:=.sl t' e') (.sl t e) xs with
      |some y=>k ⟨.sl t e,y⟩ ((c.r,c.j)::us)
      |none=>.none
     else .none
    |_=>.none
   | .win c lo hi=>match s.leaf c.r c.j with
    | .arr AA _ t' e' xs d=>if AA==c.AA&&isNil c.p&&d==m+1 && !us.contains (c.r,c.j)then match L.cast (a:=.sl t' e') (.sl t e) (sub xs lo hi)with
      |some y=>k ⟨.sl t e,y⟩ ((c.r,c.j)::us)
      |none=>.none
     else .none
    |_=>.none
   |_=>.none
 |l=>s.datum l a fun x=>k ⟨l,x⟩ us
def CY(s:St):List (L×Nat)→List LA→List (Nat×Nat)→(List Lv→List (Nat×Nat)→Step β)→Step β
 | [],[],us,k=>k [] us
 |(l,m)::ls,a::as,us,k=>Fb s us l m a fun x us=>CY s ls as us fun xs us=>k (x::xs) us
 |_,_,_,_=>.none
def Dw(ty:TypeId→Option Ty)(s:St):List (Bool×List (L×Nat))→List ResultVar→List (Nat×Nat)→(List Lv→List (Nat×Nat)→Step β)→Step β
 | [],[],us,k=>k [] us
 |(g,ls)::rs,.tmp t::vs,us,k=>match s.slot t with
  | .v g' as=>if g==g' then CY s ls as us fun xs us=>Dw ty s rs vs us fun ys us=>k (xs++ys) us else .none
  |_=>.none
 |(g,ls)::rs,.cell t T::vs,us,k=>match ty T,s.slot t with
  |some y,.v false [.ptr r 0 AA]=>if y.agg==g&&y.ls.n==ls.length then s.DA (.ptr r 0 AA) ls.length fun as=>if as.length==ls.length then CY s ls as us fun xs us=>Dw ty s rs vs us fun ys us=>k (xs++ys) us else .none else .none
  |_,_=>.none
 |_,_,_,_=>.none
def Ei(s:St)(i:Nat):Nat→List (L×Nat)→List Lv→List (Nat×Nat)→(List Lv→List (Nat×Nat)→Step β)→Step β
 |_,[],_,us,k=>k [] us
 |_,_::_,[],_,_=>.none
 |j,(l,d)::ls,x::vs,us,k=>match l with
  | .sl t e=>Fb s us (.sl t e) d (match s.leaf i j with
    | .arr 1 gen _ _ _ _=>.ref ⟨i,j,1,gen,[]⟩
    |_=>.bad) fun y us=>Ei s i (j+1) ls vs us fun ys us=>k (y::ys) us
  |_=>Ei s i (j+1) ls vs us fun ys us=>k (x::ys) us
def I9(s:St)(i:Nat):Nat→List (L×Nat)→Bool
 |_,[]=>true
 |j,(_,m)::ls=>(bif m==3 then(match s.leaf i j with
  | .arr AA _ _ _ _ _=>AA==1
  |_=>false)else true)&&I9 s i (j+1) ls
def C2(s:St):Nat→List PM→List Lv→List (Nat×Nat)→(List Lv→Step β)→Step β
 |_,[],_,_,k=>k []
 |i,.box ls::ps,vs,us,k=>if(s.root i).box&&(s.root i).AA==1&&(s.root i).ls.length==ls.length&&I9 s i 0 ls then s.DA (.ptr i 0 1) ls.length fun as=>CY s ls as us fun xs us=>C2 s (i+1) ps (vs.drop ls.length) us fun ys=>k (xs++ys)else .none
 |i,.row _ ls::ps,vs,us,k=>Ei s i 0 ls vs us fun xs us=>C2 s (i+1) ps (vs.drop ls.length) us fun ys=>k (xs++ys)
 |i,.val _ ls::ps,vs,us,k=>C2 s (i+1) ps (vs.drop ls.length) us k
 |i,.fn _::ps,vs,us,k=>C2 s (i+1) ps vs us k
def DQ:List L→List LA→Option (List Lv)
 | [],[]=>some []
 |l::ls,.sc m x::as=>match L.cast l (a:=m) x,DQ ls as with
  |some y,some vs=>some (⟨l,y⟩::vs)
  |_,_=>none
 |_,_=>none
def Np(sm:Sm)(rv:List ResultVar)(s:St):Option sm.outs.D:=match rv with
 | [.tmp t]=>match s.slot t with
  | .v false [.ptr r 0 AA]=>if sm.plain&&(s.root r).box&&(s.root r).AA==AA then match DQ (sm.Gr.map (·.1)) (s.root r).ls with
    |some vs=>pack sm.outs vs
    |none=>none
   else none
  |_=>none
 |_=>none
def KY(s:St):List (L×Nat)→List LA→List Nat
 |(l,m)::ls,a::as=>(if Bp l&&m==0 && !s.still l a then match a with
   | .ref c=>[c.r]
   | .win c _ _=>[c.r]
   |_=>[]
  else [])++KY s ls as
 |_,_=>[]
def Mj(s:St):List (Bool×List (L×Nat))→List ResultVar→List Nat
 |(_,ls)::rs,.tmp t::vs=>(match s.slot t with
  | .v _ as=>KY s ls as
  |_=>[])++Mj s rs vs
 |(_,ls)::rs,.cell t _::vs=>(match s.slot t with
  | .v false [.ptr r 0 _]=>KY s ls (Az r 0 (s.root r).ls)
  |_=>[])++Mj s rs vs
 |_,_=>[]
def H4(ty:TypeId→Option Ty)(sm:Sm)(rv:List ResultVar)(vs:List Lv)(s:St):Option sm.outs.D:=
 (Dw ty s sm.rs rv [] fun xs us=>C2 s 0 sm.ps vs us fun ys=>.go (xs++ys)).run (pack sm.outs)
def PO:Cx:={ty:=fun _=>none,env:=⟨fun _=>none,fun _ _=>none,fun _=>false⟩,lock:=fun _=>false,E9:=fun _=>false,JS:=fun _=>false }
def DR(ty:TypeId→Option Ty)(sm:Sm)(rv:List ResultVar)(vs:List Lv)(s:St):Option sm.outs.D:=if sm.mk? then Np sm rv s else
 match Aw PO s (Mj s sm.rs rv)with
 |some fs=>H4 ty sm rv vs (s.app fs)
 |none=>none
def MB(ty:TypeId→Option Ty)(env:Env)(an:An)(n:Nat)(fn:Func)(sm:Sm)(x:sm.ins.D):Option sm.outs.D:=
 match fn.body,C9 0 sm.ps (unpack sm.ins x)with
 |some c,some ws=>if !codeOk fn.ntmps c then none else ev an n (DR ty sm fn.results.toList (unpack sm.ins x)) c {ty:=ty,env:=env,lock:=fun _=>false,E9:=fun _=>false,JS:=has (an.pre 1000000) } ((blank fn.ntmps).app ws) (DR ty sm fn.results.toList (unpack sm.ins x)) (fun _ _=>none) some
 |_,_=>none
end Go.Ev
namespace Go.Ev
theorem Af{α:Type}(d:α):∀(l:List α)(n:Nat),nth d l n=(l[n]?).getD d
 | [],n=>by simp[nth]
 |x::xs,0=>by simp[nth]
 |x::xs,n+1=>by simp[nth,Af d xs n]
theorem CU{α:Type}:∀(l:List α)(n:Nat)(y:α),(CV l n y).length=l.length
 | [],_,_=>rfl
 |_::xs,0,_=>rfl
 |_::xs,n+1,y=>by simp[CV,CU xs n y]
theorem Bf{α:Type}:∀(l:List α)(n:Nat)(y:α),CV l n y=l.set n y
 | [],_,_=>rfl
 |_::xs,0,_=>rfl
 |x::xs,n+1,y=>by simp[CV,Bf xs n y]
theorem Ay{α:Type}(d:α)(l:List α)(n m:Nat)(y:α):nth d (CV l n y) m=if n=m∧n<l.length then y else nth d l m:=by rw[Af,Af,Bf,List.getElem?_set];grind
theorem A3{α:Type}(d:α){l:List α}{n:Nat}(h:l.length≤n):nth d l n=d:=by rw[Af];grind
structure Cr where
 base:Nat
 io:Nat→Prop
 fa:Nat→Prop
 w0:World
 OV:Nat→Nat→Option Value
 PH:Nat→Nat
 Ng:List (String×Array Value)
def at_(a:Addr)(k:Nat):Addr:=⟨a.block,a.off+k,none⟩
def JR(w:World):List (Nat×Nat)→Ls→Value→Ls→Value→Prop
 | [],e,h,e',v=>e'=e∧v=h
 |(i,j)::p,e,h,e',v=>∃a len c t f h',h=.slice (some a) len c∧a.spot=none∧i<len∧e.kinds[j]?=some (.sl t f)∧w.cell? (at_ a (i*e.n+j))=some h'∧JR w p f h' e' v
inductive Key where
 |AS (r:Nat)
 |lf (r j:Nat)
 |fl (k:Nat)
 deriving DecidableEq
structure Wd where
 w:World
 fz:Nat→Prop
 cv:Nat→Nat→Option Value
 bk:Nat→Nat
 om:Key→List Nat
def AP(s:St)(W:Wd):LA→Value→Prop
 | .bad,_=>True
 | .undef,v=>v=Go.undef
 | .CL,v=>v=.slice none 0 0
 | .JD,v=>v=.pointer none
 | .sc l x,v=>l.rd 0 W.w W.fz v x []
 | .ref c,v=>∀gen t e xs d,s.leaf c.r c.j=.arr c.AA gen t e xs d→(c.p=[]∨gen=c.gen)→∃h e',W.cv c.r c.j=some h∧JR W.w c.p e h e' v
 | .win c lo hi,v=>∀gen t e xs d,s.leaf c.r c.j=.arr c.AA gen t e xs d→(c.p=[]∨gen=c.gen)→∃h e' A n k,W.cv c.r c.j=some h∧JR W.w c.p e h e' (.slice A n k)∧
   lo≤hi∧hi≤n∧v=.slice (if k=lo then A else A.map (·.add (lo*e'.n))) (hi-lo) (k-lo)
 | .ptr r j AA,v=>(s.root r).box=true→(s.root r).AA=AA→v=.pointer (some ⟨W.bk r,j,none⟩)
 | .Bi c,v=>∀gen t e xs d,s.leaf c.r c.j=.arr c.AA gen t e xs d→(c.p.length≤1∨gen=c.gen)→∃q i off h e' a n k,Ak c.p=some (q,i,off)∧W.cv c.r c.j=some h∧
   JR W.w q e h e' (.slice (some a) n k)∧a.spot=none∧i<n∧v=.pointer (some (at_ a (i*e'.n+off)))
 | .D0 e x off,v=>∃(a:Addr) (g:Nat→Option Value) (arr:Array Value) (T:TypeId) (fr:Nat×Nat),v=.pointer (some (at_ a off))∧W.fz a.block∧W.w.heap[a.block]?=some (.cells arr T fr)∧
   (∀j,g j=arr[a.off+j]?)∧e.rd 0 W.w W.fz g x []
 | .fn f,v=>v=.func (.func f) #[] #[]
 | .I6 t c,v=>∃u,v=.iface t u∧∀gen t e xs d,s.leaf c.r c.j=.arr c.AA gen t e xs d→(c.p=[]∨gen=c.gen)→∃h e',W.cv c.r c.j=some h∧JR W.w c.p e h e' u
 | .EB g ps _,v=>∃bs:List Nat,v=.func (.func g) #[] (bs.map fun b=>Value.pointer (some ⟨b,0,none⟩)).toArray∧bs.length=ps.length∧∀(k:Nat)(p:Nat×Nat)(b:Nat),ps[k]?=some p→bs[k]?=some b→(s.root p.1).box=true→(s.root p.1).AA=p.2→b=W.bk p.1
 | .arr ..,_=>False
def Ey(s:St)(W:Wd)(g:Bool)(as:List LA)(v:Value):Prop:=match g with
 |false=>match as with
  | [a]=>AP s W a v
  |_=>False
 |true=>∃cs:Array Value,v=.agg cs∧cs.size=as.length∧∀(j:Nat)(a:LA),as[j]?=some a→∃u,cs[j]?=some u∧AP s W a u
def BQ(s:St)(W:Wd):AV→Value→Prop
 | .v g as,v=>Ey s W g as v
 | .Di vs,v=>∃us:Array Value,v=.tuple us∧us.size=vs.length∧∀(j:Nat)(p:Bool×List LA),vs[j]?=some p→∃u,us[j]?=some u∧Ey s W p.1 p.2 u
 | .bx as,v=>∃(b off:Nat) (arr:Array Value) (T:TypeId) (fr:Nat×Nat),v=.pointer (some ⟨b,off,none⟩)∧W.fz b∧W.w.heap[b]?=some (.cells arr T fr)∧(∀j,j<arr.size→¬(fr.1≤j∧j<fr.2))∧∀(j:Nat)(a:LA),as[j]?=some a→∃u,arr[off+j]?=some u∧AP s W a u
def Aa(s:St)(W:Wd)(a:LA)(v?:Option Value)(o:List Nat):Prop:=match a with
 | .arr _ _ t e xs d=>∃v,v?=some v∧AD e d W.w W.fz v xs o
 |a=>o=[]∧∀v,v?=some v→AP s W a v
def ED(s:St)(W:Wd)(r:Nat)(x:Bl):Prop:=
 (∀j,Aa s W (nth .bad x.ls j) (W.cv r j) (W.om (.lf r j)))∧
 (if x.box then W.om (.AS r)=[W.bk r]∧∃arr T fr,W.w.heap[W.bk r]?=some (.cells arr T fr)∧(∀j,j<arr.size→¬(fr.1≤j∧j<fr.2))∧arr.size=x.ls.length∧∀j,W.cv r j=arr[j]?
  else W.om (.AS r)=[])
structure Sep(E:Cr)(W:Wd):Prop where
 nodup:∀k,(W.om k).Nodup
 Ar:∀k k',k≠k'→∀b∈W.om k,b∉W.om k'
 own:∀k,∀b∈W.om k,¬W.fz b∧b<W.w.heap.size∧(E.base≤b∨E.io b)
 fz:∀b,W.fz b→b<W.w.heap.size∧(E.fa b∨E.base≤b∨E.io b)
 frame:∀b,b<E.base→¬E.io b→W.w.heap[b]?=E.w0.heap[b]?
 size:E.base≤W.w.heap.size
 rest:W.w.os=E.w0.os∧W.w.tape=E.w0.tape∧W.w.output=E.w0.output
structure AU(E:Cr)(s:St)(tm:Array Value)(W:Wd):Prop where
 DG:s.sl.length=tm.size
 BW:s.ro.length=tm.size
 AO:∀t,BQ s W (s.slot t) (tm.getD t Go.undef)
 roots:∀r,ED s W r (s.root r)
 sep:Sep E W
 init:(∀(r j gen:Nat)(t:TypeId)(e:Ls)(xs:List e.D)(d:Nat),s.leaf r j=.arr 1 gen t e xs d→W.cv r j=E.OV r j)∧∀r,(s.root r).box=true→(s.root r).AA=1→W.bk r=E.PH r
theorem Ls.G5:∀(e:Ls)(j:Nat) {d:Nat} {w:World} {fz:Nat→Prop} {g:Nat→Option Value} {x:e.D} {o:List Nat} {t:TypeId} {f:Ls},
  e.rd d w fz g x o→e.kinds[j]?=some (.sl t f)→∃(h:Value) (ys:List f.D) (o':List Nat),g j=some h∧AD f d w fz h ys o'∧∀b∈o',b∈o
 | .nil,j,_,_,_,_,_,_,_,_,_,hk=>by simp[Ls.kinds]at hk
 | .one l,j,d,w,fz,g,x,o,t,f,h,hk=>by
  simp only[Ls.rd]at h;obtain⟨v,hg,h⟩:=h;cases j with
  |zero=>simp[Ls.kinds]at hk;subst hk;exact⟨v,x,o,hg,h,fun b hb=>hb⟩
  |succ j=>simp[Ls.kinds]at hk
 | .cons l ls,j,d,w,fz,g,x,o,t,f,h,hk=>by
  simp only[Ls.rd]at h;obtain⟨v,o1,o2,hg,h1,h2,rfl⟩:=h;cases j with
  |zero=>simp[Ls.kinds]at hk;subst hk;exact⟨v,x.1,o1,hg,h1,fun b hb=>gX _ hb⟩
  |succ j=>
   simp only[Ls.kinds,iI]at hk;obtain⟨h',ys,o',a,b,c⟩:=Ls.G5 ls j h2 hk;grind
theorem Row.cell{w:World}{a:Addr}{n:Nat}{own:Bool}{g:Nat→Option Value}(h:Row w a n own g)(j:Nat):w.cell? (at_ a j)=g j:=by obtain⟨hs,arr,T,fr,hh,hn,hb,hg⟩:=h;simp[World.cell?,at_,hh,hg]
theorem MS{w:World}:∀(p:List (Nat×Nat)) {e:Ls} {d:Nat} {fz:Nat→Prop} {h:Value} {xs:List e.D} {o:List Nat} {e':Ls} {v:Value},
  AD e d w fz h xs o→JR w p e h e' v→∃(d':Nat) (ys:List e'.D) (o':List Nat),AD e' d' w fz v ys o'∧∀b∈o',b∈o
 | [],e,d,fz,h,xs,o,e',v,hr,hn=>by obtain⟨rfl,rfl⟩:=hn;grind
 |(i,j)::p,e,d,fz,h,xs,o,e',v,hr,hn=>by
  obtain⟨a,len,c,t',f,h',rfl,hs,hi,hk,hc,hn⟩:=hn;obtain⟨A,c',hv,hle,hr⟩:=hr;injection hv with hA hl UF
  subst hA;have U3:i<xs.length:=hl▸hi;rcases hr with hr|⟨g,os,Tb,Tr,ho⟩
  ·have:=hr.2.1;omega
  obtain⟨h2,ys,o',hg,Th,UO⟩:=Ls.G5 e j (Tr i U3) hk
  have:h2=h':=by have:=Tb.cell (i*e.n+j);rw[this,hg]at hc;exact Option.some.inj hc
  subst this;obtain⟨d2,zs,o2,hz,Wb⟩:=MS p Th hn;grind
theorem BI{w w':World}:∀(p:List (Nat×Nat)) {e:Ls} {d:Nat} {fz:Nat→Prop} {h:Value} {xs:List e.D} {o:List Nat} {e':Ls} {v:Value},
  AD e d w fz h xs o→JR w p e h e' v→(∀b,b∈o∨fz b→w'.heap[b]?=w.heap[b]?)→JR w' p e h e' v
 | [],e,d,fz,h,xs,o,e',v,hr,hn,hf=>hn
 |(i,j)::p,e,d,fz,h,xs,o,e',v,hr,hn,hf=>by
  obtain⟨a,len,c,t',f,h',rfl,hs,hi,hk,hc,hn⟩:=hn;obtain⟨A,c',hv,hle,hr⟩:=hr;injection hv with hA hl UF
  subst hA;have U3:i<xs.length:=hl▸hi;rcases hr with hr|⟨g,os,Tb,Tr,ho⟩
  ·have:=hr.2.1;omega
  obtain⟨h2,ys,o',hg,Th,UO⟩:=Ls.G5 e j (Tr i U3) hk
  have Ug:a.block∈o∨fz a.block:=by
   revert ho
   cases decide (0<d)with
   |true=>intro ho;left;rw[ho];simp
   |false=>intro ho;exact .inr ho.1
  have:h2=h':=by have:=Tb.cell (i*e.n+j);rw[this,hg]at hc;exact Option.some.inj hc
  subst this;refine⟨a,len,c,t',f,h2,rfl,hs,hi,hk,?_,BI p Th hn fun b hb=>hf b ?_⟩
  ·rw[(Tb.frame (hf _ Ug)).cell,hg]
  grind
section
variable {E:Cr}{s s':St}{tm:Array Value}{W:Wd}{w':World}
theorem ED.row{r:Nat}(h:ED s W r (s.root r)){j AA gen:Nat}{t:TypeId}{e:Ls}{xs:List e.D}{d:Nat}(hl:s.leaf r j=.arr AA gen t e xs d):
  ∃v,W.cv r j=some v∧AD e d W.w W.fz v xs (W.om (.lf r j)):=by
 have:=h.1 j;unfold St.leaf at hl;rw[hl]at this;exact this
def Still(W:Wd)(w':World):Prop:=∀b,(W.fz b∨∃k,b∈W.om k)→w'.heap[b]?=W.w.heap[b]?
theorem AP.world(hr:∀r,ED s W r (s.root r))(hf:Still W w'){a:LA}{v:Value}(h:AP s W a v):AP s { W with w:=w' } a v:=by
 cases a with
 |bad=>trivial
 |undef=>exact h
 |CL=>exact h
 |JD=>exact h
 |sc l x=>exact L.AI l h (fun b hb=>hf b (hb.elim (fun hb=>by cases hb) .inl)) fun b hb=>hb
 |ref c=>
  intro gen t e xs d hl hp;obtain⟨h',e',hc,hn⟩:=h gen t e xs d hl hp;obtain⟨u,hu,Th⟩:=(hr c.r).row hl;have:u=h':=Option.some.inj (hu.symm.trans hc);subst this;exact⟨u,e',hc,BI _ Th hn fun b hb=>hf b (hb.elim (fun hb=>.inr ⟨_,hb⟩) .inl)⟩
 |win c lo hi=>
  intro gen t e xs d hl hp;obtain⟨h',e',A,n,k,hc,hn,rest⟩:=h gen t e xs d hl hp;obtain⟨u,hu,Th⟩:=(hr c.r).row hl;have:u=h':=Option.some.inj (hu.symm.trans hc);subst this;exact⟨u,e',A,n,k,hc,BI _ Th hn fun b hb=>hf b (hb.elim (fun hb=>.inr ⟨_,hb⟩) .inl),rest⟩
 |ptr r j AA=>exact h
 |Bi c=>
  intro gen t e xs d hl hp;obtain⟨q,i,off,h',e',a,n,k,hs,hc,hn,rest⟩:=h gen t e xs d hl hp;obtain⟨u,hu,Th⟩:=(hr c.r).row hl;have:u=h':=Option.some.inj (hu.symm.trans hc);subst this;exact⟨q,i,off,u,e',a,n,k,hs,hc,BI _ Th hn fun b hb=>hf b (hb.elim (fun hb=>.inr ⟨_,hb⟩) .inl),rest⟩
 |D0 e x off=>
  obtain⟨a,g,arr,T,fr,hv,hz,hh,hg,Th⟩:=h;exact⟨a,g,arr,T,fr,hv,hz,(hf _ (.inl hz)).trans hh,hg,Ls.AI e Th (fun b hb=>hf b (hb.elim (fun hb=>by cases hb) .inl)) fun b hb=>hb⟩
 |fn f=>exact h
 |I6 t c=>
  obtain⟨u,hv,h⟩:=h;refine⟨u,hv,fun gen t e xs d hl hp=>?_⟩;obtain⟨h',e',hc,hn⟩:=h gen t e xs d hl hp;obtain⟨u',hu,Th⟩:=(hr c.r).row hl;have:u'=h':=Option.some.inj (hu.symm.trans hc);subst this;exact⟨u',e',hc,BI _ Th hn fun b hb=>hf b (hb.elim (fun hb=>.inr ⟨_,hb⟩) .inl)⟩
 |EB g ps qs=>exact h
 |arr=>exact h
theorem Ey.map{s s':St}{W W':Wd}(f:∀a v,AP s W a v→AP s' W' a v){g:Bool}{as:List LA}{v:Value}(h:Ey s W g as v):Ey s' W' g as v:=by unfold Ey at *;grind
theorem BQ.map{s s':St}{W W':Wd}(hz:∀b,W.fz b→W'.fz b∧W'.w.heap[b]?=W.w.heap[b]?)(f:∀a v,AP s W a v→AP s' W' a v){a:AV}{v:Value}(h:BQ s W a v):BQ s' W' a v:=by
 cases a with
 |v g as=>exact Ey.map f h
 |Di vs=>
  obtain⟨us,hv,hs,h⟩:=h;exact⟨us,hv,hs,fun j p hp=>let ⟨u,hu,hl⟩:=h j p hp;⟨u,hu,Ey.map f hl⟩⟩
 |bx as=>
  obtain⟨b,off,arr,T,fr,hv,h1,h2,h3,h⟩:=h;exact⟨b,off,arr,T,fr,hv,(hz b h1).1,(hz b h1).2.trans h2,h3,fun j a ha=>let ⟨u,hu,hl⟩:=h j a ha;⟨u,hu,f _ _ hl⟩⟩
theorem Aa.map{s s':St}{W W':Wd}(f:∀a v,AP s W a v→AP s' W' a v){a:LA}{v?:Option Value}{o:List Nat}
  (g:∀(e:Ls)(d:Nat)(xs:List e.D)(v:Value),AD e d W.w W.fz v xs o→AD e d W'.w W'.fz v xs o) (h:Aa s W a v? o):Aa s' W' a v? o:=by
 unfold Aa at *;grind
theorem AU.world(h:AU E s tm W)(hf:Still W w')(hb:∀b,b<E.base→¬E.io b→w'.heap[b]?=W.w.heap[b]?)(hs:W.w.heap.size≤w'.heap.size)(ho:w'.os=W.w.os∧w'.tape=W.w.tape∧w'.output=W.w.output):AU E s tm { W with w:=w' } where
 DG:=h.DG
 BW:=h.BW
 AO t:=BQ.map (W:=W) (W':={ W with w:=w' }) (fun b hb=>⟨hb,hf b (.inl hb)⟩) (fun _ _=>AP.world h.roots hf) (h.AO t)
 roots r:=by
  obtain⟨h1,h2⟩:=h.roots r;refine⟨fun j=>(h1 j).map (fun _ _=>AP.world h.roots hf) fun e d xs v Th=>Th.frame (fun b hb=>hf b (hb.elim (fun hb=>.inr ⟨_,hb⟩) .inl)) fun b hb=>hb,?_⟩;split
  ·rename_i Vt;rw[gS Vt]at h2;obtain⟨ho,arr,T,fr,hh,rest⟩:=h2;exact⟨ho,arr,T,fr,(hf _ (.inr ⟨.AS r,by rw[ho];simp⟩)).trans hh,rest⟩
  grind
 sep:={
  nodup:=h.sep.nodup
  Ar:=h.sep.Ar
  own:=fun k b hb=>let ⟨a,c,d⟩:=h.sep.own k b hb;⟨a,iC c hs,d⟩
  fz:=fun b Tk=>let ⟨a,c⟩:=h.sep.fz b Tk;⟨iC a hs,c⟩
  frame:=fun b U9 VD=>(hb b U9 VD).trans (h.sep.frame b U9 VD)
  size:=hZ h.sep.size hs
  rest:=⟨ho.1.trans h.sep.rest.1,ho.2.1.trans h.sep.rest.2.1,ho.2.2.trans h.sep.rest.2.2⟩ }
 init:=h.init
theorem AU.KD(h:AU E s tm W)(hf:∀b,b<W.w.heap.size→w'.heap[b]?=W.w.heap[b]?):Still W w':=by
 intro b hb;rcases hb with hb|⟨k,hb⟩
 ·exact hf b (h.sep.fz b hb).1
 ·exact hf b (h.sep.own k b hb).2.1
end
end Go.Ev
namespace Go.Ev
def LA.CH:LA→Bool
 | .arr _ _ _ _ _ _=>true
 |_=>false
def Ac(s:St)(v:Nat):Prop:=(∀t,v∉(s.slot t).AG)∧(∀r j,(s.leaf r j).CH=true∨v∉(s.leaf r j).AG)∧1<v
structure EE(v:Nat)(s s':St)(W W':Wd):Prop where
 fz:∀b,W.fz b→W'.fz b
 LQ:∀b,W.fz b→W'.w.heap[b]?=W.w.heap[b]?
 leaf:∀r j AA gen t e xs d,s'.leaf r j=.arr AA gen t e xs d→AA≠v→W'.cv r j=W.cv r j∧
  ∃gen0 t0 xs0 d0,s.leaf r j=.arr AA gen0 t0 e xs0 d0∧(gen≠v→gen=gen0∧∀p h e' u,W.cv r j=some h→JR W.w p e h e' u→JR W'.w p e h e' u)
 box:∀r,(s'.root r).box=true→(s'.root r).AA≠v→(s.root r).box=true∧(s.root r).AA=(s'.root r).AA∧W'.bk r=W.bk r
section
variable {v:Nat}{E:Cr}{s s':St}{tm ar:Array Value}{W W':Wd}
theorem Ci:∀ {p q:List (Nat×Nat)} {i off:Nat},Ak p=some (q,i,off)→p=q++[(i,off)]
 | [],_,_,_,h=>by simp[Ak]at h
 | [x],q,i,off,h=>by simp[Ak]at h;grind
 |x::y::r,q,i,off,h=>by
  simp only[Ak]at h;split at h
  ·rename_i q' i' aq hq;injection h with h
   injection h with h1 h2
   injection h2 with h2 h3
   subst h1;subst h2;subst h3;rw[Ci hq];rfl
  ·cases h
theorem AP.DF(h:EE v s s' W W'){a:LA}{u:Value}(hv:v∉a.AG)(ha:AP s W a u):AP s' W' a u:=by
 cases a with
 |bad=>trivial
 |undef=>exact ha
 |CL=>exact ha
 |JD=>exact ha
 |sc l x=>exact L.AI l ha (fun b hb=>h.LQ b (hb.elim (fun hb=>by cases hb) id)) h.fz
 |ref c=>
  intro gen t e xs d hl hp;have Tf:c.AA≠v∧c.gen≠v:=by simp[LA.AG]at hv;exact⟨fun e=>hv.1 e.symm,fun e=>hv.2 e.symm⟩
  obtain⟨hc,gen0,t0,xs0,d0,Uv,hg⟩:=h.leaf _ _ _ _ _ _ _ _ hl Tf.1;by_cases hn:c.p=[]
  ·obtain⟨h',e',UF,XO⟩:=ha _ _ _ _ _ Uv (.inl hn);rw[hn]at XO;exact⟨h',e',hc.trans UF,by rw[hn];exact XO⟩
  ·have US:gen=c.gen:=hp.resolve_left hn;obtain⟨rfl,Ub⟩:=hg (by rw[US];exact Tf.2);obtain⟨h',e',UF,XO⟩:=ha _ _ _ _ _ Uv (.inr US);grind
 |win c lo hi=>
  intro gen t e xs d hl hp;have Tf:c.AA≠v∧c.gen≠v:=by simp[LA.AG]at hv;exact⟨fun e=>hv.1 e.symm,fun e=>hv.2 e.symm⟩
  obtain⟨hc,gen0,t0,xs0,d0,Uv,hg⟩:=h.leaf _ _ _ _ _ _ _ _ hl Tf.1;by_cases hn:c.p=[]
  ·obtain⟨h',e',A,n,k,UF,XO,rest⟩:=ha _ _ _ _ _ Uv (.inl hn);rw[hn]at XO;exact⟨h',e',A,n,k,hc.trans UF,by rw[hn];exact XO,rest⟩
  ·have US:gen=c.gen:=hp.resolve_left hn;obtain⟨rfl,Ub⟩:=hg (by rw[US];exact Tf.2);obtain⟨h',e',A,n,k,UF,XO,rest⟩:=ha _ _ _ _ _ Uv (.inr US);grind
 |ptr r j AA=>
  intro hb Te;have Tf:AA≠v:=by simp[LA.AG]at hv;exact fun e=>hv e.symm
  obtain⟨b1,b2,b3⟩:=h.box r hb (by omega);rw[b3];exact ha b1 (b2.trans Te)
 |Bi c=>
  intro gen t e xs d hl hp;have Tf:c.AA≠v∧c.gen≠v:=by simp[LA.AG]at hv;exact⟨fun e=>hv.1 e.symm,fun e=>hv.2 e.symm⟩
  obtain⟨hc,gen0,t0,xs0,d0,Uv,hg⟩:=h.leaf _ _ _ _ _ _ _ _ hl Tf.1;by_cases hn:c.p.length≤1
  ·obtain⟨q,i,off,h',e',a,n,k,hs,UF,XO,rest⟩:=ha _ _ _ _ _ Uv (.inl hn)
   have hq:q=[]:=by have h1:=Ci hs;rw[h1,iD]at hn;simpa using hn
   subst hq;exact⟨[],i,off,h',e',a,n,k,hs,hc.trans UF,XO,rest⟩
  ·have US:gen=c.gen:=hp.resolve_left hn;obtain⟨rfl,Ub⟩:=hg (by rw[US];exact Tf.2);obtain⟨q,i,off,h',e',a,n,k,hs,UF,XO,rest⟩:=ha _ _ _ _ _ Uv (.inr US);grind
 |D0 e x off=>
  obtain⟨a,g,arr,T,fr,Um,hz,hh,hg,Th⟩:=ha;exact⟨a,g,arr,T,fr,Um,h.fz _ hz,(h.LQ _ hz).trans hh,hg,Ls.AI e Th (fun b hb=>h.LQ b (hb.elim (fun hb=>by cases hb) id)) h.fz⟩
 |fn f=>exact ha
 |I6 tt c=>
  obtain⟨u',Um,ha⟩:=ha;refine⟨u',Um,fun gen t e xs d hl hp=>?_⟩;have Tf:c.AA≠v∧c.gen≠v:=by simp[LA.AG]at hv;exact⟨fun e=>hv.1 e.symm,fun e=>hv.2 e.symm⟩
  obtain⟨hc,gen0,t0,xs0,d0,Uv,hg⟩:=h.leaf _ _ _ _ _ _ _ _ hl Tf.1;by_cases hn:c.p=[]
  ·obtain⟨h',e',UF,XO⟩:=ha _ _ _ _ _ Uv (.inl hn);rw[hn]at XO;exact⟨h',e',hc.trans UF,by rw[hn];exact XO⟩
  grind
 |EB g ps qs=>
  obtain⟨bs,hu,hlen,hk⟩:=ha;refine⟨bs,hu,hlen,fun k p b hp hb h1 h2=>?_⟩;have Tf:p.2≠v:=fun e=>hv (by simp only[LA.AG];exact hR.2 ⟨p,gP hp,e⟩);obtain⟨b1,b2,b3⟩:=h.box p.1 h1 (by rw[h2];exact Tf);grind
 |arr=>exact ha
theorem Ey.DF(h:EE v s s' W W'){g:Bool}{as:List LA}{u:Value}(hv:∀a∈as,v∉a.AG)(ha:Ey s W g as u):Ey s' W' g as u:=by
 unfold Ey at *;cases g with
 |false=>cases as with
  |nil=>exact ha
  |cons a as=>cases as with
   |nil=>exact AP.DF h (hv a (by simp)) ha
   |cons=>exact ha
 |true=>
  obtain⟨cs,hc,hs,ha⟩:=ha;exact⟨cs,hc,hs,fun j a hj=>let ⟨u,hu,hl⟩:=ha j a hj;⟨u,hu,AP.DF h (hv a (gP hj)) hl⟩⟩
theorem BQ.DF(h:EE v s s' W W'){a:AV}{u:Value}(hv:v∉a.AG)(ha:BQ s W a u):BQ s' W' a u:=by
 cases a with
 |v g as=>exact Ey.DF h (fun a hm hx=>hv (gN.2 ⟨a,hm,hx⟩)) ha
 |Di vs=>
  obtain⟨us,hu,hs,ha⟩:=ha;refine⟨us,hu,hs,fun j p hp=>?_⟩;obtain⟨u,hu,hl⟩:=ha j p hp;exact⟨u,hu,Ey.DF h (fun a hm hx=>hv (gN.2 ⟨p,gP hp,gN.2 ⟨a,hm,hx⟩⟩)) hl⟩
 |bx as=>
  obtain⟨b,off,arr,T,fr,hu,h1,h2,h3,ha⟩:=ha;refine⟨b,off,arr,T,fr,hu,h.fz b h1,(h.LQ b h1).trans h2,h3,fun j a hj=>?_⟩;obtain⟨u,hu,hl⟩:=ha j a hj;exact⟨u,hu,AP.DF h (fun hx=>hv (gN.2 ⟨a,gP hj,hx⟩)) hl⟩
theorem G3{α:Type}{d:α}{l:List α}{n:Nat}(h:n<l.length):nth d l n∈l:=by rw[Af,gK h];simp
theorem Aa.DF(h:EE v s s' W W'){a:LA}{v?:Option Value}{o:List Nat}(hv:a.CH=true∨v∉a.AG)(ho:∀b∈o,W'.w.heap[b]?=W.w.heap[b]?)(ha:Aa s W a v? o):Aa s' W' a v? o:=by
 unfold Aa at *;cases a with
 |arr AA gen t e xs d=>
  obtain⟨u,hu,hr⟩:=ha;exact⟨u,hu,hr.frame (fun b hb=>hb.elim (ho b) (h.LQ b)) h.fz⟩
 |_=>exact⟨ha.1,fun u hu=>AP.DF h (hv.resolve_left (by simp[LA.CH])) (ha.2 u hu)⟩
theorem Sep.H0(h:Sep E W)(ch:Key→Prop)(Uu:W'.fz=W.fz)(Tt:W.w.heap.size≤W'.w.heap.size)
  (UQ:∀b,b<E.base→¬E.io b→W'.w.heap[b]?=W.w.heap[b]?) (ho:W'.w.os=W.w.os∧W'.w.tape=W.w.tape∧W'.w.output=W.w.output)
  (Ta:∀k,¬ch k→W'.om k=W.om k) (UU:∀k,ch k→(W'.om k).Nodup) (UT:∀k k',ch k→ch k'→k≠k'→∀b∈W'.om k,b∉W'.om k')
  (UR:∀k,ch k→∀b∈W'.om k,(∃k0,ch k0∧b∈W.om k0)∨(W.w.heap.size≤b∧b<W'.w.heap.size)):Sep E W' where
 nodup k:=by
  by_cases hk:ch k
  ·grind
  ·rw[Ta k hk];exact h.nodup k
 Ar k k' Tf b hb Tk:=by
  by_cases hk:ch k<;>by_cases Ud:ch k'
  ·grind
  ·rw[Ta k' Ud]at Tk;rcases UR k hk b hb with⟨k0,XU,h0⟩|⟨h0,_⟩
   ·exact h.Ar k0 k' (fun e=>Ud (e▸XU)) b h0 Tk
   ·have:=(h.own k' b Tk).2.1;omega
  ·rw[Ta k hk]at hb;rcases UR k' Ud b Tk with⟨k0,XU,h0⟩|⟨h0,_⟩
   ·exact h.Ar k0 k (fun e=>hk (e▸XU)) b h0 hb
   ·have:=(h.own k b hb).2.1;omega
  ·rw[Ta k hk]at hb;rw[Ta k' Ud]at Tk;exact h.Ar k k' Tf b hb Tk
 own k b hb:=by
  rw[Uu];by_cases hk:ch k
  ·rcases UR k hk b hb with⟨k0,_,h0⟩|⟨h0,h1⟩
   ·obtain⟨a,c,d⟩:=h.own k0 b h0;grind
   ·exact⟨fun hz=>by have:=(h.fz b hz).1;omega,h1,.inl (by have:=h.size;omega)⟩
  ·rw[Ta k hk]at hb;obtain⟨a,c,d⟩:=h.own k b hb;grind
 fz b hb:=by rw[Uu]at hb;obtain⟨a,c⟩:=h.fz b hb;grind
 frame b h1 h2:=(UQ b h1 h2).trans (h.frame b h1 h2)
 size:=hZ h.size Tt
 rest:=⟨ho.1.trans h.rest.1,ho.2.1.trans h.rest.2.1,ho.2.2.trans h.rest.2.2⟩
theorem AU.H0(h:AU E s tm W)(hv:Ac s v)(ht:EE v s s' W W')(VB:Sep E W')(l1:s'.sl.length=ar.size)(l2:s'.ro.length=ar.size)
  (hs:∀t,(s'.slot t=s.slot t∧ar.getD t Go.undef=tm.getD t Go.undef)∨BQ s' W' (s'.slot t) (ar.getD t Go.undef))
  (hr:∀r,ED s' W' r (s'.root r)):AU E s' ar W' where
 DG:=l1
 BW:=l2
 AO t:=by
  rcases hs t with⟨a,b⟩|a
  ·rw[a,b];exact BQ.DF ht (hv.1 t) (h.AO t)
  ·exact a
 roots:=hr
 sep:=VB
 init:=by
  have h1:1≠v:=Nat.ne_of_lt hv.2.2;refine⟨fun r j gen t e xs d hl=>?_,fun r hb Te=>?_⟩
  ·obtain⟨hc,gen0,t0,xs0,d0,Uv,_⟩:=ht.leaf r j 1 gen t e xs d hl h1;exact hc.trans (h.init.1 _ _ _ _ _ _ _ Uv)
  ·obtain⟨b1,b2,b3⟩:=ht.box r hb (by omega);exact b3.trans (h.init.2 r b1 (b2.trans Te))
end
end Go.Ev
namespace Go.Ev
def B7:L→Value
 | .int k=>.int k 0
 | .bool=>.bool false
 | .str=>.string .empty
 | .sl _ _=>.slice none 0 0
structure Lz(P:Program)(t:TypeId)(e:Ls):Prop where
 info:∃i,P.info? t=some i∧i.size=e.n∧i.bytes≤1024∧∃z,i.zero=some z∧z.cells=(e.kinds.map B7).toArray
 pos:0<e.n
def GR(P:Program)(t:TypeId):L→Prop
 | .int k=>P.underlying t=some (.int k)
 | .bool=>P.underlying t=some .bool
 | .str=>P.underlying t=some .string
 | .sl t' e=>P.underlying t=some (.slice t')∧Lz P t' e
def Ix(P:Program)(t:TypeId):L→Prop
 | .int k=>P.underlying t=some (.int k)
 | .bool=>P.underlying t=some .bool
 | .str=>P.underlying t=some .string
 | .sl _ _=>False
def Gu(P:Program):Nat→List Field→List L→Prop
 |_,[],[]=>True
 | n, f :: fs, l :: ls => f.name ≠ "_" ∧ f.offset = n ∧ Ix P f.type l ∧ Gu P (n + 1) fs ls
 |_,_,_=>False
structure PF(P:Program)(t:TypeId)(ls:List L):Prop where
 held:P.stoodInHeld t=false
 guard:P.eqGuardType P.depth t=false
 fields:∃fs:Array Field,P.underlying t=some (.struct fs)∧Gu P 0 fs.toList ls
structure Nk(P:Program)(t:TypeId)(ty:Ty):Prop where
 info:∃i,P.info? t=some i∧i.size=ty.ls.n∧∃z,i.zero=some z∧z.cells=(ty.ls.kinds.map B7).toArray∧(z=.agg (ty.ls.kinds.map B7).toArray∨ty.agg=false)
 agg:ty.agg=true→∃fs:Array Field,P.underlying t=some (.struct fs)∧fs.toList.map (fun f=>(f.offset,f.type))=ty.fs∧∃pl,fs.toList.mapM (fun f=>(P.info? f.type).map fun i=>(f.offset,i.size))=some pl
 lone:ty.agg=false→∃l,ty.ls=.one l∧GR P t l
 eqs:ty.eq=true→PF P t ty.ls.kinds
def O4(P:Program)(t:TypeId):Prop:=∃i z c,P.info? t=some i∧i.size=1∧i.zero=some z∧z.cells = #[c]∧c.oneCell'=true
def L0(P:Program)(env:Env):Prop:=∀t,env.O8 t=true→O4 P t
def DV(P:Program)(cx:Cx):Prop:=∀t ty,cx.ty t=some ty→Nk P t ty
theorem GR.JE{P:Program}{t:TypeId}{l:L}(h:GR P t l):∃d,P.underlying t=some d∧(match d with | .struct _ | .array _ _=>true|_=>false)=false:=by
 cases l with
 |int k=>exact⟨_,h,rfl⟩
 |bool=>exact⟨_,h,rfl⟩
 |str=>exact⟨_,h,rfl⟩
 |sl t' e=>exact⟨_,h.1,rfl⟩
def BZ(P:Program)(E:Cr)(o:Oper)(a:Act)(w:World)(s':St):Prop:=
 ∀(next:Act→World→Prop)(Q:Exit→Act→World→Prop),(∀a' W',a'.defers=a.defers→AU E s' a'.tmps W'→next a' W'.w)→o.wp P a w next Q
section
variable {P:Program}{E:Cr}{s:St}{tm:Array Value}{W:Wd}{o:Oper}{a:Act}
theorem BN(s:St)(d:Nat)(x:AV)(t:Nat):(s.AF (.slot d x)).slot t=if d=t∧d<s.sl.length then x else s.slot t:=Ay _ _ _ _ _
theorem Ax(s:St)(d:Nat)(x:Bl)(t:Nat):(s.AF (.root d x)).root t=if d=t∧d<s.ro.length then x else s.root t:=Ay _ _ _ _ _
theorem AU.slot(h:AU E s tm W)(d:Nat){x:AV}{u:Value}(hx:BQ s W x u):AU E (s.AF (.slot d x)) (tm.setIfInBounds d u) W where
 DG:=by simp[St.AF,CU,h.DG]
 BW:=by simp[St.AF,h.BW]
 AO t:=by
  rw[BN];by_cases hd:d=t∧d<s.sl.length
  ·obtain⟨rfl,Tc⟩:=hd;rw[gS ⟨rfl,Tc⟩]
   have:(tm.setIfInBounds d u).getD d Go.undef=u:=by rw[h.DG]at Tc;simp[h9,Tc]
   rw[this];exact hx
  ·rw[gT hd]
   have:(tm.setIfInBounds d u).getD t Go.undef=tm.getD t Go.undef:=by
    by_cases Y0:d=t
    ·have:¬d<tm.size:=fun hl=>hd ⟨Y0,by rw[h.DG];exact hl⟩;grind
    ·simp[h9,Y0]
   rw[this];exact h.AO t
 roots r:=h.roots r
 sep:=h.sep
 init:=h.init
theorem AU.outs(h:AU E s tm W)(dst:Option Nat){x:AV}{u:Value}(hx:BQ s W x u):
  AU E (s.app (match dst with|some d=>[.slot d x]|none=>[])) (match dst with|some d=>tm.setIfInBounds d u|none=>tm) W:=by
 cases dst with
 |none=>exact h
 |some d=>exact h.slot d hx
theorem BM(v:Value):AP s W (ofConst v) v:=by
 cases v with
 |int k n=>exact⟨rfl,rfl⟩
 |bool b=>exact⟨rfl,rfl⟩
 |string b=>exact⟨by simp,rfl⟩
 |slice A n c=>
  cases A with
  |none=>cases n with
   |zero=>cases c with
    |zero=>exact rfl
    |succ c=>trivial
   |succ n=>trivial
  |some a=>trivial
 |pointer A=>cases A with
  |none=>exact rfl
  |some a=>trivial
 |_=>trivial
theorem A5(h:AU E s a.tmps W)(x:Operand):BQ s W (s.Aq x) (a.eval x):=by
 cases x with
 |tmp t=>exact h.AO t
 |const v=>
  cases v with
  |agg cs=>
   refine⟨cs,rfl,by simp,fun j b hj=>?_⟩;simp only[ga]at hj;cases hc:cs.toList[j]? with
   |none=>grind
   |some u=>
    rw[hc]at hj;injection hj with hj;subst hj
    exact⟨u,by grind,BM u⟩
  |bool b=>exact BM (s:=s) (W:=W) (.bool b)
  |int k n=>exact BM (s:=s) (W:=W) (.int k n)
  |float k n=>exact BM (s:=s) (W:=W) (.float k n)
  |complex k x y=>exact BM (s:=s) (W:=W) (.complex k x y)
  |string b=>exact BM (s:=s) (W:=W) (.string b)
  |pointer b=>exact BM (s:=s) (W:=W) (.pointer b)
  |slice b n c=>exact BM (s:=s) (W:=W) (.slice b n c)
  |map r=>exact BM (s:=s) (W:=W) (.map r)
  |chan r=>exact BM (s:=s) (W:=W) (.chan r)
  |func f x y=>exact BM (s:=s) (W:=W) (.func f x y)
  |nilFunc=>exact BM (s:=s) (W:=W) .nilFunc
  |iface t x=>exact BM (s:=s) (W:=W) (.iface t x)
  |nilIface=>exact BM (s:=s) (W:=W) .nilIface
  |tuple vs=>exact BM (s:=s) (W:=W) (.tuple vs)
 |global g=>exact trivial
 |func f=>exact rfl
theorem Ae(h:AU E s a.tmps W)(x:Operand):AP s W (s.Aj x) (a.eval x):=by
 have:=A5 h x;unfold St.Aj
 revert this
 cases s.Aq x with
 |Di vs=>intro _;trivial
 |bx as=>intro _;trivial
 |v g as=>
  cases g with
  |true=>intro _;cases as with
   |nil=>trivial
   |cons b bs=>cases bs<;>trivial
  |false=>cases as with
   |nil=>intro _;trivial
   |cons b bs=>cases bs with
    |nil=>intro h;exact h
    |cons=>intro _;trivial
theorem Hd(h:AU E s a.tmps W){u:Value}{x:AV}(Ti:(execOp a.eval o).run P W.w=.ok (.value u) W.w)(hx:BQ s W x u):
  BZ P E o a W.w (s.app (match o.dst with|some d=>[.slot d x]|none=>[])):=by
 intro next Q hn
 unfold Oper.wp;rw[Ti];show next (a.put o.dst u) W.w
 refine hn _ W ?_ ?_
 ·cases o.dst<;>rfl
 ·have:=h.outs o.dst hx;cases hd:o.dst with
  |none=>rw[hd]at this;exact this
  |some d=>rw[hd]at this;exact this
theorem OZ(h:AU E s a.tmps W){x:Operand}(ho:o.op=.move x):BZ P E o a W.w (s.app (match o.dst with|some d=>[.slot d (s.Aq x)]|none=>[])):=
 Hd h (by simp[execOp,ho]) (A5 h x)
theorem IntKind.HQ{i j:IntKind}(h:(IntKind.code i==IntKind.code j)=true):i=j:=IntKind.EK (by simpa using h)
theorem Be(k:IntKind)(n:Int):BQ s W (IJ k n) (.int k n):=⟨rfl,rfl⟩
theorem Cd(b:Bool):BQ s W (H9 b) (.bool b):=⟨rfl,rfl⟩
theorem Kf(b:List UInt8):BQ s W (O0 b) (.string ⟨b.toArray⟩):=⟨rfl,rfl⟩
theorem Lt{cx:Cx}(hc:DV P cx){t:TypeId}(h:Gt cx t .bool=true):P.underlying t=some .bool:=by
 unfold Gt at h;split at h
 ·rename_i ty ht;simp at h;obtain⟨l,hl,hf⟩:=(hc t ty ht).lone h.1;rw[hl]at h;have:=h.2;simp only[Ls.eq?]at this;obtain rfl:=L.Dl this;exact hf
 ·cases h
variable {T:Type}{β:Type}
theorem Ad{b:Bool}{x y:Step β}{t:β}(h:(Step.iff b x y).leads t):(b=true∧x.leads t)∨(b=false∧y.leads t):=by
 cases b
 ·exact .inr ⟨rfl,h⟩
 ·exact .inl ⟨rfl,h⟩
theorem M9{op:BinOp}{y:Operand}{i:IntKind}{m n:Int}{k:AV→Step β}{t:β}(hz:isZero y=false→n≠0)(h:(L9 op y i m n k).leads t)(tx:TypeId)(x:Operand)(w:World):
  ∃z r,(k z).leads t∧BQ s W z r∧(do eqGuard op tx x y (.int i m) (.int i n);binOp op tx (.int i m) (.int i n):Sem Value).run P w=.ok r w:=by
 cases op<;>simp only[L9]at h
 case add=>exact⟨_,_,h,Be _ _,by simp[eqGuard,binOp,Op.intArith]⟩
 case sub=>exact⟨_,_,h,Be _ _,by simp[eqGuard,binOp,Op.intArith]⟩
 case mul=>exact⟨_,_,h,Be _ _,by simp[eqGuard,binOp,Op.intArith]⟩
 case quo=>
  have h0:n≠0∧(k (IJ i (i.wrap (Int.tdiv m n)))).leads t:=by
   split at h
   ·rcases Ad h with⟨_,h⟩|⟨hb,h⟩
    ·exact h.elim
    grind
   ·grind
  exact⟨_,_,h0.2,Be _ _,by simp[eqGuard,binOp,Op.intDiv,h0.1]⟩
 case rem=>
  have h0:n≠0∧(k (IJ i (Int.tmod m n))).leads t:=by
   split at h
   ·rcases Ad h with⟨_,h⟩|⟨hb,h⟩
    ·exact h.elim
    grind
   ·grind
  exact⟨_,_,h0.2,Be _ _,by simp[eqGuard,binOp,Op.intDiv,h0.1]⟩
 case eql=>exact⟨_,_,h,Cd _,by simp[eqGuard,binOp,Op.intCmp]⟩
 case neq=>exact⟨_,_,h,Cd _,by simp[eqGuard,binOp,Op.intCmp]⟩
 case lss=>exact⟨_,_,h,Cd _,by simp[eqGuard,binOp,Op.intCmp]⟩
 case leq=>exact⟨_,_,h,Cd _,by simp[eqGuard,binOp,Op.intCmp]⟩
 case gtr=>exact⟨_,_,h,Cd _,by simp[eqGuard,binOp,Op.intCmp]⟩
 case geq=>exact⟨_,_,h,Cd _,by simp[eqGuard,binOp,Op.intCmp]⟩
 case and=>exact⟨_,_,h,Be _ _,by simp[eqGuard,binOp,Op.intBits,Oe]⟩
 case or=>exact⟨_,_,h,Be _ _,by simp[eqGuard,binOp,Op.intBits,PJ]⟩
 case xor=>exact⟨_,_,h,Be _ _,by simp[eqGuard,binOp,Op.intBits,Ot]⟩
 case shl=>
  rcases Ad h with⟨hb,h⟩|⟨_,h⟩
  ·have hb:¬n<0:=by have:=hO hb;omega
   exact⟨_,_,h,Be _ _,by simp[eqGuard,binOp,Op.shift,OQ,hb]⟩
  ·exact h.elim
 case shr=>
  rcases Ad h with⟨hb,h⟩|⟨_,h⟩
  ·have hb:¬n<0:=by have:=hO hb;omega
   exact⟨_,_,h,Be _ _,by simp[eqGuard,binOp,Op.shift,OR,hb]⟩
  ·exact h.elim
 all_goals exact h.elim
theorem Mp{op:BinOp}(hs:G1 op=true){y:Operand}{i j:IntKind}{m n:Int}{k:AV→Step β}{t:β}(h:(L9 op y i m n k).leads t)(tx:TypeId)(x:Operand)(w:World):
  ∃z r,(k z).leads t∧BQ s W z r∧(do eqGuard op tx x y (.int i m) (.int j n);binOp op tx (.int i m) (.int j n):Sem Value).run P w=.ok r w:=by
 cases op<;>simp only[G1,ib]at hs<;>simp only[L9]at h
 case shl=>
  rcases Ad h with⟨hb,h⟩|⟨_,h⟩
  ·have hb:¬n<0:=by have:=hO hb;omega
   exact⟨_,_,h,Be _ _,by simp[eqGuard,binOp,Op.shift,OQ,hb]⟩
  ·exact h.elim
 case shr=>
  rcases Ad h with⟨hb,h⟩|⟨_,h⟩
  ·have hb:¬n<0:=by have:=hO hb;omega
   exact⟨_,_,h,Be _ _,by simp[eqGuard,binOp,Op.shift,OR,hb]⟩
  ·exact h.elim
theorem M8{op:BinOp}{y:Operand}{m n:Bool}{k:AV→Step β}{t:β}(h:(Nz op m n k).leads t)(tx:TypeId)(dN:P.underlying tx=some .bool)(x:Operand)(w:World):
  ∃z r,(k z).leads t∧BQ s W z r∧(do eqGuard op tx x y (.bool m) (.bool n);binOp op tx (.bool m) (.bool n):Sem Value).run P w=.ok r w:=by
 cases op<;>simp only[Nz]at h
 case eql=>exact⟨_,_,h,Cd _,by simp[eqGuard,run_eql_bool _ tx m n dN]⟩
 case neq=>exact⟨_,.bool (!(m==n)),h,⟨rfl,rfl⟩,by simp[eqGuard,run_neq_bool _ tx m n dN]⟩
 all_goals exact h.elim
theorem NA{op:BinOp}{y:Operand}{m n:List UInt8}{k:AV→Step β}{t:β}(h:(N0 op m n k).leads t)(tx:TypeId)(x:Operand)(w:World):
  ∃z r,(k z).leads t∧BQ s W z r∧(do eqGuard op tx x y (.string ⟨m.toArray⟩) (.string ⟨n.toArray⟩);binOp op tx (.string ⟨m.toArray⟩) (.string ⟨n.toArray⟩):Sem Value).run P w=.ok r w:=by
 have tl:∀l:List UInt8,(⟨l.toArray⟩:ByteArray).toList=l:=fun l=>by simp
 cases op<;>simp only[N0]at h
 case eql=>exact⟨_,_,h,Cd _,by simp[eqGuard,binOp,Op.stringOp,tl]⟩
 case neq=>exact⟨_,_,h,Cd _,by simp[eqGuard,binOp,Op.stringOp,tl]⟩
 case add=>
  rcases Ad h with⟨hb,h⟩|⟨_,h⟩
  ·refine⟨_,_,h,Kf _,?_⟩;have hb:m.length+n.length≤4611686018427387904:=hO hb;have hr:=run_string_add_sum (P:=P) w ⟨m.toArray⟩ ⟨n.toArray⟩ (by simp[ByteArray.size];omega);rw[ByteArray.mk_append_mk]at hr;simp only[eqGuard,binOp];grind
  ·exact h.elim
 all_goals exact h.elim
theorem MA{cx:Cx}(hc:DV P cx){op:BinOp}{tx:TypeId}{x y:Operand}(h:AU E s a.tmps W){k:AV→Step β}{t:β}
  (hl:(binop (Gt cx tx .bool) op y (s.Aj x) (s.Aj y) k).leads t):
  ∃z r,(k z).leads t∧BQ s W z r∧(do eqGuard op tx x y (a.eval x) (a.eval y);binOp op tx (a.eval x) (a.eval y):Sem Value).run P W.w=.ok r W.w:=by
 have h1:=Ae h x;have h2:=Ae h y
 have hz:∀(k:IntKind)(n:Int),s.Aj y=.sc (.int k) n→isZero y=false→n≠0:=by
  intro k n hy h0;cases y with
  |const v=>
   cases v with
   |int j m=>
    simp only[St.Aj,St.Aq,AV.one?,ofConst]at hy;injection hy with e1 e2
    injection e1 with e1
    subst e1;subst e2;simp[isZero]at h0;exact h0
   |_=>simp[isZero]at h0
  |_=>simp[isZero]at h0
 revert h1 h2 hl hz
 generalize s.Aj x=p;generalize s.Aj y=q;intro hl h1 h2 hz;unfold binop at hl;split at hl
 ·rename_i l m n r;cases l with
  |int i=>cases n with
   |int j=>
    simp only at hl;split at hl
    ·rename_i X3;rw[h1.1,h2.1];cases hs:G1 op with
     |true=>exact Mp hs hl tx x _
     |false=>
      rw[hs,Bool.or_false]at X3;obtain rfl:=IntKind.HQ X3;exact M9 (hz _ _ rfl) hl tx x _
    ·exact hl.elim
   |_=>exact hl.elim
  |bool=>cases n with
   |bool=>
    simp only at hl;split at hl
    ·rename_i hb;rw[h1.1,h2.1];exact M8 hl tx (Lt hc hb) x _
    ·exact hl.elim
   |_=>exact hl.elim
  |str=>cases n with
   |str=>
    rw[h1.1,h2.1];exact NA hl tx x _
   |_=>exact hl.elim
  |sl t e=>cases n<;>exact hl.elim
 ·exact hl.elim
theorem Ih{d:Nat}{w:World}{fz:Nat→Prop}{k:(t:TypeId)→(f:Ls)→List f.D→Step β}{t:β}:∀(e:Ls)(j:Nat) {g:Nat→Option Value} {x:e.D} {o:List Nat} {t':TypeId} {f:Ls} {h:Value},
  (JB e j x k).leads t→e.rd d w fz g x o→e.kinds[j]?=some (.sl t' f)→g j=some h→∃(ys:List f.D) (o':List Nat),(k t' f ys).leads t∧AD f d w fz h ys o'∧∀b∈o',b∈o
 | .nil,j,_,_,_,_,_,_,hl,_,_,_=>hl.elim
 | .one l,0,g,x,o,t',f,h,hl,hr,hk,hg=>by
  simp only[Ls.rd]at hr;obtain⟨v,hv,hr⟩:=hr;simp[Ls.kinds]at hk;subst hk;rw[hg]at hv;injection hv with hv;subst hv
  exact⟨x,o,hl,hr,fun b hb=>hb⟩
 | .one _,_+1,_,_,_,_,_,_,hl,_,_,_=>hl.elim
 | .cons l ls,0,g,x,o,t',f,h,hl,hr,hk,hg=>by
  simp only[Ls.rd]at hr;obtain⟨v,o1,o2,hv,hr,Xt,rfl⟩:=hr;simp[Ls.kinds]at hk;subst hk;rw[hg]at hv;injection hv with hv;subst hv
  exact⟨x.1,o1,hl,hr,fun b hb=>gX _ hb⟩
 | .cons l ls,j+1,g,x,o,t',f,h,hl,hr,hk,hg=>by simp only[Ls.rd]at hr;obtain⟨v,o1,o2,hv,hr,Xt,rfl⟩:=hr;obtain⟨ys,o',a,b,c⟩:=Ih ls j hl Xt (by simpa[Ls.kinds]using hk) hg;grind
theorem MC{w:World}{fz:Nat→Prop}{k:(t:TypeId)→(e:Ls)→List e.D→Nat→Step β}{t:β}:∀(p:List (Nat×Nat)) {t0:TypeId} {e:Ls} {xs:List e.D} {d:Nat} {h:Value} {o:List Nat} {e':Ls} {v:Value},
  (Oj k p t0 e xs d).leads t→AD e d w fz h xs o→JR w p e h e' v→∃(t':TypeId) (ys:List e'.D) (d':Nat) (o':List Nat),(k t' e' ys d').leads t∧AD e' d' w fz v ys o'∧∀b∈o',b∈o
 | [],t0,e,xs,d,h,o,e',v,hl,hr,hn=>by obtain⟨rfl,rfl⟩:=hn;exact⟨t0,xs,d,o,hl,hr,fun b hb=>hb⟩
 |(i,j)::p,t0,e,xs,d,h,o,e',v,hl,hr,hn=>by
  obtain⟨a,len,c,t',f,h',rfl,hs,hi,hk,hc,hn⟩:=hn;obtain⟨A,c',hv,hle,hr⟩:=hr;injection hv with hA Ue UF
  subst hA;have U3:i<xs.length:=Ue▸hi;rcases hr with hr|⟨g,os,Tb,Tr,ho⟩
  ·have:=hr.2.1;omega
  obtain⟨x,hx,hl⟩:=hl;rw[gK U3]at hx;injection hx with hx;subst hx
  have hg:(fun j=>g (i*e.n+j)) j=some h':=by rw[Tb.cell (i*e.n+j)]at hc;exact hc
  obtain⟨ys,o',hl,Th,UO⟩:=Ih e j hl (Tr i U3) hk hg;obtain⟨t2,zs,d2,o2,hl,hz,Wb⟩:=MC p hl Th hn;grind
theorem CZ(h:AU E s tm W){c:Loc}{k:(t:TypeId)→(e:Ls)→List e.D→Nat→Step β}{t:β}(hl:(s.content c k).leads t):
  ∃(t0:TypeId) (e0:Ls) (xs0:List e0.D) (d0 gen:Nat),s.leaf c.r c.j=.arr c.AA gen t0 e0 xs0 d0∧(c.p=[]∨gen=c.gen)∧
   ∀(u:Value)(e':Ls)(v:Value),W.cv c.r c.j=some u→JR W.w c.p e0 u e' v→∃(t':TypeId) (ys:List e'.D) (d':Nat) (o':List Nat),(k t' e' ys d').leads t∧AD e' d' W.w W.fz v ys o'∧∀b∈o',b∈W.om (.lf c.r c.j):=by
 unfold St.content at hl;split at hl
 ·rename_i AA gen t0 e0 xs0 d0 TV;split at hl
  ·rename_i Td;simp only[gL,gV,gl]at Td;obtain⟨hv,hg⟩:=Td;subst hv;refine⟨t0,e0,xs0,d0,gen,TV,hg.imp (fun h=>by cases hp:c.p<;>simp_all[isNil]) id,fun u e' v hu hn=>?_⟩;obtain⟨u',Tj,hr⟩:=(h.roots c.r).row TV;rw[hu]at Tj;injection Tj with Tj;subst Tj
   exact MC c.p hl hr hn
  ·exact hl.elim
 ·exact hl.elim
theorem DK(h:AU E s tm W){c:Loc}{v:Value}(hv:AP s W (.ref c) v){k:(t:TypeId)→(e:Ls)→List e.D→Nat→Step β}{t:β}(hl:(s.content c k).leads t):
  ∃(t':TypeId) (e':Ls) (ys:List e'.D) (d':Nat) (o':List Nat),(k t' e' ys d').leads t∧AD e' d' W.w W.fz v ys o'∧∀b∈o',b∈W.om (.lf c.r c.j):=by
 obtain⟨t0,e0,xs0,d0,gen,TV,hp,hk⟩:=CZ h hl;obtain⟨u,e',hu,hn⟩:=hv gen t0 e0 xs0 d0 TV hp;grind
theorem AD.len{e:Ls}{d:Nat}{w:World}{fz:Nat→Prop}{v:Value}{xs:List e.D}{o:List Nat}(h:AD e d w fz v xs o):∃A c,v=.slice A xs.length c∧xs.length≤c:=by obtain⟨A,c,hv,hc,_⟩:=h;grind
theorem CB.sub{α:Type}{n:Nat}{R:(Nat→Option Value)→α→List Nat→Prop}{own:Bool}{w:World}{fz:Nat→Prop}{A:Option Addr}{len c:Nat}{xs:List α}{o:List Nat}
  (h:CB n R own w fz (.slice A len c) xs o) {lo hi:Nat} (h1:lo≤hi) (h2:hi≤len):
  ∃o',CB n R own w fz (.slice (if c=lo then A else A.map (·.add (lo*n))) (hi-lo) (c-lo)) (Ev.sub xs lo hi) o'∧(∀b∈o',b∈o)∧(o.Nodup→o'.Nodup):=by
 obtain⟨A',c',hv,hc,h⟩:=h;injection hv with hA hl UF
 subst hA;subst hl;subst UF;have hlen:(Ev.sub xs lo hi).length=hi-lo:=by simp[Ev.sub];omega
 cases A with
 |none=>
  refine⟨[],⟨none,c-lo,?_,by rw[hlen];omega,?_⟩,by simp,by simp⟩
  all_goals grind
 |some a=>
  rcases h with h|⟨g,os,Tb,Tr,ho⟩
  ·obtain⟨rfl,rfl,rfl⟩:=h;have Uv:xs.length=0:=by omega
   have Wg:hi=0:=by omega
   have U2:lo=0:=by omega
   subst Wg;subst U2;have ZC:xs=[]:=gQ Uv;subst ZC;exact⟨[],⟨some a,0,by simp[Ev.sub],by simp[Ev.sub],.inl ⟨rfl,rfl,rfl⟩⟩,by simp,by simp⟩
  obtain⟨hs,arr,T,fr,hh,hn,hb,hg⟩:=Tb
  have Tp:∀i (U3:i<(Ev.sub xs lo hi).length),∃hx:lo+i<xs.length,(Ev.sub xs lo hi)[i]=xs[lo+i]:=by
   intro i U3;have:lo+i<xs.length:=by rw[hlen]at U3;omega
   exact⟨this,by simp[Ev.sub]⟩
  by_cases YH:c=lo
  ·have Wg:hi=lo:=by omega
   have ZC:Ev.sub xs lo hi=[]:=by simp[Ev.sub,Wg]
   rw[gS YH,ZC,Wg];refine⟨match own with|true=>[a.block]|false=>[],⟨some a,c-lo,by simp,by simp,.inr ⟨fun j=>arr[a.off+j]?,fun _=>[],⟨hs,arr,T,fr,hh,by rw[YH];simp;omega,hb,fun j=>rfl⟩,fun i hi=>by simp at hi,?_⟩⟩,?_,?_⟩
   ·cases own with
    |true=>simp
    |false=>exact⟨ho.1,rfl,fun _ _=>rfl⟩
   all_goals grind
  ·rw[gT YH]
   have U1:(a.add (lo*n)).block=a.block∧(a.add (lo*n)).off=a.off+lo*n∧(a.add (lo*n)).spot=none:=by
    unfold Addr.add;split
    ·grind
    ·grind
   refine⟨match own with|true=>a.block::(List.range (hi-lo)).flatMap fun i=>os (lo+i)|false=>[],
    ⟨some (a.add (lo*n)),c-lo,by grind,by omega,.inr ⟨fun j=>g (lo*n+j),fun i=>os (lo+i),⟨U1.2.2,arr,T,fr,by grind,?_,hb,fun j=>by grind⟩,fun i U3=>?_,?_⟩⟩,?_,?_⟩
   ·rw[U1.2.1];have:lo*n+(c-lo)*n=c*n:=by rw[←gw];congr 1;omega
    omega
   ·grind
   ·grind
   ·grind
   ·cases own with
    |false=>simp
    |true=>
     intro UU;rw[ho]at UU;obtain⟨VC,Vs⟩:=gh.1 UU;refine gh.2 ⟨fun hm=>?_,?_⟩
     ·grind
     ·have e:(List.range (hi-lo)).flatMap (fun i=>os (lo+i))=((List.range (hi-lo)).map (lo + ·)).flatMap os:=by simp[List.flatMap_map]
      rw[e,←List.range'_eq_map_range];rw[List.range_eq_range']at Vs
      have:List.range' 0 xs.length=List.range' 0 lo++(List.range' lo (hi-lo)++List.range' hi (xs.length-hi)):=by have e1:=List.range'_append_1 (s:=lo) (m:=hi-lo) (n:=xs.length-hi);have e2:=List.range'_append_1 (s:=0) (m:=lo) (n:=xs.length-lo);rw[show lo+(hi-lo)=hi by omega]at e1;rw[e1,show hi-lo+(xs.length-hi)=xs.length-lo by omega];rw[gb]at e2;rw[e2];congr 1;omega
      grind
end
end Go.Ev
namespace Go.Ev
def Seen(W:Wd)(rs:List Nat)(b:Nat):Prop:=W.fz b∨∃r∈rs,∃j,b∈W.om (.lf r j)
theorem GM:∀(ls:Ls) {d:Nat} {w:World} {fz:Nat→Prop} {g:Nat→Option Value} {x:ls.D} {o:List Nat},
  ls.rd d w fz g x o→∀(j:Nat)(lv:Lv),(unpack ls x)[j]?=some lv→∃u o',g j=some u∧lv.l.rd d w fz u lv.x o'∧∀b∈o',b∈o
 | .nil,_,_,_,_,_,_,_,j,lv,hj=>by simp[unpack]at hj
 | .one l,d,w,fz,g,x,o,h,j,lv,hj=>by
  simp only[Ls.rd]at h;obtain⟨v,hg,h⟩:=h;cases j with
  |zero=>simp[unpack]at hj;grind
  |succ j=>simp[unpack]at hj
 | .cons l ls,d,w,fz,g,x,o,h,j,lv,hj=>by
  simp only[Ls.rd]at h;obtain⟨v,o1,o2,hg,h1,h2,rfl⟩:=h;cases j with
  |zero=>simp[unpack]at hj;grind
  |succ j=>
   simp only[unpack,iI]at hj;obtain⟨u,o',a,b,c⟩:=GM ls h2 j lv hj;grind
theorem Bd:∀(ls:Ls) {w:World} {fz:Nat→Prop} {g:Nat→Option Value} {x:ls.D},
  (∀(j:Nat)(lv:Lv),(unpack ls x)[j]?=some lv→∃u,g j=some u∧lv.l.rd 0 w fz u lv.x [])→ls.rd 0 w fz g x []
 | .nil,_,_,_,_,_=>by simp only[Ls.rd]
 | .one l,w,fz,g,x,h=>by simp only[Ls.rd];exact h 0 ⟨l,x⟩ rfl
 | .cons l ls,w,fz,g,x,h=>by simp only[Ls.rd];obtain⟨u,hu,hr⟩:=h 0 ⟨l,x.1⟩ rfl;exact⟨u,[],[],hu,hr,Bd ls fun j lv hj=>h (j+1) lv (by simpa[unpack]using hj),rfl⟩
theorem Bj{e:Ls}{d:Nat}{w:World}{fz:Nat→Prop}:AD e d w fz (.slice none 0 0) ([]:List e.D) []:=⟨none,0,rfl,gk _,rfl,rfl⟩
section
variable {P:Program}{E:Cr}{s:St}{tm:Array Value}{W:Wd}{o:Oper}{a:Act}{β:Type}{t:β}
theorem Seen.mono{rs bH:List Nat}(h:∀r∈rs,r∈bH){b:Nat}(hb:Seen W rs b):Seen W bH b:=hb.imp id fun⟨r,hr,x⟩=>⟨r,h r hr,x⟩
theorem EL(h:AU E s tm W){c:Loc}{lo hi:Nat}{v:Value}(hv:AP s W (.win c lo hi) v){k:(t:TypeId)→(e:Ls)→List e.D→Nat→Step β}(hl:(s.content c k).leads t):
  ∃(t':TypeId) (e':Ls) (ys:List e'.D) (d':Nat) (o':List Nat),(k t' e' ys d').leads t∧AD e' d' W.w W.fz v (sub ys lo hi) o'∧(∀b∈o',b∈W.om (.lf c.r c.j)):=by
 obtain⟨t0,e0,xs0,d0,gen,TV,hp,hk⟩:=CZ h hl;obtain⟨u,e',A,n,k',hu,hn,h1,h2,rfl⟩:=hv gen t0 e0 xs0 d0 TV hp;obtain⟨t',ys,d',o',a,b,c'⟩:=hk u e' _ hu hn;obtain⟨o2,q1,q2,_⟩:=CB.sub b h1 h2;exact⟨t',e',ys,d',o2,a,q1,fun b hb=>c' b (q2 b hb)⟩
theorem Bg(h:AU E s tm W){l:L}{la:LA}{v:Value}(hv:AP s W la v){k:l.D→Step β}(hl:(s.datum l la k).leads t):
  ∃x,(k x).leads t∧l.rd 0 W.w (Seen W la.roots) v x []:=by
 unfold St.datum at hl;cases la with
 |sc m x=>
  simp only at hl;split at hl
  ·rename_i y hy;obtain⟨e,he⟩:=L.AH hy;subst e;subst he;exact⟨x,hl,L.AI m hv (fun b hb=>rfl) fun b hb=>.inl hb⟩
  ·exact hl.elim
 |CL=>
  cases l with
  |sl t' e=>exact⟨_,hl,by rw[show v=.slice none 0 0 from hv];exact Bj⟩
  |_=>exact hl.elim
 |ref c=>
  obtain⟨t',e',ys,d',o',hl,hr,ho⟩:=DK h hv hl;split at hl
  ·rename_i y hy;obtain⟨e,he⟩:=L.AH hy;subst e;subst he;exact⟨ys,hl,hr.freeze fun b hb=>hb.elim .inl fun hb=>.inr ⟨c.r,by simp[LA.roots],c.j,ho b hb⟩⟩
  ·exact hl.elim
 |win c lo hi=>
  obtain⟨t',e',ys,d',o',hl,hr,ho⟩:=EL h hv hl;split at hl
  ·rename_i y hy;obtain⟨e,he⟩:=L.AH hy;subst e;subst he;exact⟨_,hl,hr.freeze fun b hb=>hb.elim .inl fun hb=>.inr ⟨c.r,by simp[LA.roots],c.j,ho b hb⟩⟩
  ·exact hl.elim
 |_=>exact hl.elim
theorem Ek(h:AU E s tm W):∀ {ls:List L} {as:List LA} {g:Nat→Option Value} {k:List Lv→Step β},(∀(j:Nat)(b:LA),as[j]?=some b→∃u,g j=some u∧AP s W b u)→(s.data ls as k).leads t→
  ∃vs:List Lv,(k vs).leads t∧vs.length=as.length∧vs.map (·.l)=ls∧∀(j:Nat)(lv:Lv),vs[j]?=some lv→∃u,g j=some u∧lv.l.rd 0 W.w (Seen W (as.flatMap LA.roots)) u lv.x []
 | [],[],g,k,hg,hl=>⟨[],hl,rfl,rfl,fun j lv hj=>by simp at hj⟩
 | [],_::_,g,k,hg,hl=>hl.elim
 |_::_,[],g,k,hg,hl=>hl.elim
 |l::ls,b::as,g,k,hg,hl=>by
  obtain⟨u,hu,hb⟩:=hg 0 b rfl;obtain⟨x,hl,hx⟩:=Bg h hb hl;obtain⟨vs,hl,hn,hm,VF⟩:=Ek h (g:=fun j=>g (j+1)) (fun j b hj=>hg (j+1) b (by grind)) hl;refine⟨⟨l,x⟩::vs,hl,by simp[hn],by simp[hm],fun j lv hj=>?_⟩;cases j with
  |zero=>
   simp at hj;subst hj;exact⟨u,hu,L.AI l hx (fun _ _=>rfl) fun b hb=>Seen.mono (fun r hr=>by simp[hr]) hb⟩
  |succ j=>
   obtain⟨u',Tj,hr⟩:=VF j lv (by simpa using hj);refine⟨u',Tj,L.AI lv.l hr (fun _ _=>rfl) fun b hb=>Seen.mono (fun r hr=>?_) hb⟩;grind
theorem Cs(r:Nat):∀(as:List LA)(j i:Nat),(Az r j as)[i]?=(as[i]?).map (seen r (j+i))
 | [],j,i=>by simp[Az]
 |b::as,j,0=>by simp[Az]
 |b::as,j,i+1=>by simp only[Az,iI];rw[Cs r as (j+1) i,show j+1+i=j+(i+1) by omega]
theorem JP(r:Nat):∀(as:List LA)(j:Nat),(Az r j as).length=as.length
 | [],j=>rfl
 |b::as,j=>by simp[Az,JP r as (j+1)]
theorem E7(r:Nat):∀(as:List LA)(j i:Nat),(BJ r j as)[i]?=(as[i]?).map (IA r (j+i))
 | [],j,i=>by simp[BJ]
 |b::as,j,0=>by simp[BJ]
 |b::as,j,i+1=>by simp only[BJ,iI];rw[E7 r as (j+1) i,show j+1+i=j+(i+1) by omega]
theorem E8(r:Nat):∀(as:List LA)(j:Nat),(BJ r j as).length=as.length
 | [],j=>rfl
 |b::as,j=>by simp[BJ,E8 r as (j+1)]
theorem K0(h:AU E s tm W){r j:Nat}{b:LA}{v:Value}(hb:s.leaf r j=b)(hc:W.cv r j=some v):AP s W (seen r j b) v:=by
 have hr:=(h.roots r).1 j;unfold St.leaf at hb;rw[hb,hc]at hr;cases b with
 |arr AA gen t' e xs d=>
  intro Uo t2 e2 xs2 d2 hl _;have:s.leaf r j=.arr AA gen t' e xs d:=hb;rw[this]at hl;injection hl with h1 h2 h3 h4
  subst h4;exact⟨v,e,hc,rfl,rfl⟩
 |_=>exact hr.2 v rfl
theorem Mm(h:AU E s tm W){r j:Nat}{b:LA}{v:Value}(hb:s.leaf r j=b)(hc:W.cv r j=some v):AP s W (IA r j b) v:=by
 have hs:=K0 h hb hc;cases b with
 |arr AA gen t' e xs d=>
  cases d with
  |succ d=>exact hs
  |zero=>
   obtain⟨u,hu,Th⟩:=(h.roots r).row hb;have:u=v:=Option.some.inj (hu.symm.trans hc);subst this;show AD e 0 W.w W.fz u xs [];have hz:=AD.zero Th;grind
 |_=>exact hs
theorem EN(c:Loc)(i d:Nat):∀(vs:List Lv)(off j:Nat),(Bn c i d off vs)[j]?=(vs[j]?).map fun v=>if Bp v.l&&decide (0<d)then LA.ref { c with p:=c.p++[(i,off+j)] }else .sc v.l v.x
 | [],off,j=>by simp[Bn]
 |v::vs,off,0=>by simp[Bn]
 |v::vs,off,j+1=>by simp only[Bn,iI];rw[EN c i d vs (off+1) j,show off+1+j=off+(j+1) by omega]
theorem J2{w:World}:∀(q:List (Nat×Nat)) {e:Ls} {h:Value} {e':Ls} {a:Addr} {n k:Nat} {i off:Nat} {t':TypeId} {f:Ls} {u:Value},
  JR w q e h e' (.slice (some a) n k)→a.spot=none→i<n→e'.kinds[off]?=some (.sl t' f)→w.cell? (at_ a (i*e'.n+off))=some u→JR w (q++[(i,off)]) e h f u
 | [],e,h,e',a,n,k,i,off,t',f,u,hn,hs,hi,hk,hc=>by obtain⟨rfl,rfl⟩:=hn;exact⟨a,n,k,t',f,u,rfl,hs,hi,hk,hc,rfl,rfl⟩
 |(i0,j0)::q,e,h,e',a,n,k,i,off,t',f,u,hn,hs,hi,hk,hc=>by obtain⟨a0,len,c0,t0,f0,h0,e0,s0,i1,k1,c1,hn⟩:=hn;exact⟨a0,len,c0,t0,f0,h0,e0,s0,i1,k1,c1,J2 q hn hs hi hk hc⟩
theorem D4:∀(ls:Ls)(x:ls.D),(unpack ls x).map (·.l)=ls.kinds
 | .nil,_=>rfl
 | .one _,_=>rfl
 | .cons l ls,x=>by simp[unpack,Ls.kinds,D4 ls x.2]
theorem Fq(h:AU E s tm W){la:LA}{v:Value}(hv:AP s W la v){n:Nat}{k:List LA→Step β}(hl:(s.DA la n k).leads t):
  ∃as:List LA,(k as).leads t∧as.length≤n∧∃(b off:Nat),v=.pointer (some ⟨b,off,none⟩)∧∀(j:Nat)(x:LA),as[j]?=some x→∃u,W.w.cell? ⟨b,off+j,none⟩=some u∧AP s W x u:=by
 unfold St.DA at hl;cases la with
 |ptr r j AA=>
  simp only at hl;split at hl
  ·rename_i Td;simp only[gL,gV,gm]at Td;obtain⟨⟨hb,Te⟩,hlen⟩:=Td;refine⟨_,hl,by rw[E8];simp;omega,W.bk r,j,hv hb Te,fun i x hx=>?_⟩;rw[E7]at hx;obtain⟨_,UB⟩:=h.roots r;rw[gS hb]at UB;obtain⟨_,arr,T,fr,hh,_,Tt,T3⟩:=UB;cases hy:((s.root r).ls.drop j |>.take n)[i]? with
   |none=>grind
   |some y=>
    rw[hy]at hx;injection hx with hx;subst hx
    have hi:i<n∧(s.root r).ls[j+i]?=some y:=by
     rw[List.getElem?_take]at hy;split at hy
     ·grind
     ·cases hy
    have Tc:j+i<(s.root r).ls.length:=(gM.1 hi.2).1;have TV:s.leaf r (j+i)=y:=by unfold St.leaf;rw[Af,hi.2];rfl
    have Ts:W.cv r (j+i)=some (arr[j+i]'(by omega)):=by rw[T3];exact gp _
    refine⟨arr[j+i]'(by omega),?_,Mm h TV Ts⟩;rw[←Ts,T3];simp[World.cell?,hh]
  ·exact hl.elim
 |D0 e x off=>
  obtain⟨a,g,arr,T,fr,hv,hz,hh,hg,Th⟩:=hv;refine⟨_,hl,by simp;omega,a.block,a.off+off,hv,fun i y hy=>?_⟩;simp only[ga]at hy;cases hq:(((unpack e x).drop off).take n)[i]? with
  |none=>grind
  |some lv=>
   rw[hq]at hy;injection hy with hy;subst hy
   have hi:(unpack e x)[off+i]?=some lv:=by
    rw[List.getElem?_take]at hq;split at hq
    ·rw[List.getElem?_drop]at hq;exact hq
    ·cases hq
   obtain⟨u,o',hu,hr,ho⟩:=GM e Th _ lv hi;have:o'=[]:=L.Bk lv.l hr;subst this;refine⟨u,?_,hr⟩;rw[hg]at hu;simp only[World.cell?,hh];grind
 |Bi c=>
  simp only at hl;split at hl
  ·exact hl.elim
  ·rename_i q i off hq;obtain⟨t0,e0,xs0,d0,gen,TV,hp,hk⟩:=CZ h hl;dsimp only at TV hp hk
   have Vf:c.p.length≤1∨gen=c.gen:=by
    rcases hp with hp|hp
    ·left;rw[Ci hq,hp];simp
    ·exact .inr hp
   obtain⟨q',i',aq,u,e',a,n',k',YR,hu,hn,hs,hi,rfl⟩:=hv gen t0 e0 xs0 d0 TV Vf;rw[hq]at YR;injection YR with YR
   injection YR with q1 q2
   injection q2 with q2 q3
   subst q1;subst q2;subst q3;obtain⟨t',ys,d',o',hl,hr,ho⟩:=hk u e' _ hu hn;obtain⟨x,hx,hl⟩:=hl;obtain⟨A,c',hv,hle,hr⟩:=hr;injection hv with hA hlen Ua
   subst hA;have U3:i<ys.length:=hlen▸hi;rcases hr with hr|⟨g,os,Tb,Tr,cH⟩
   ·omega
   rw[gK U3]at hx;injection hx with hx;subst hx
   refine⟨_,hl,?_,a.block,a.off+(i*e'.n+off),rfl,fun j y hy=>?_⟩
   ·have:∀(vs:List Lv)(off:Nat),(Bn { c with p:=q,gen:=s.Jq c.r c.j } i (dec d') off vs).length=vs.length:=by
     intro vs;induction vs with
     |nil=>intro _;rfl
     |cons v vs ih=>intro off;simp[Bn,ih]
    grind
   ·rw[EN]at hy;cases hz:(((unpack e' ys[i]).drop off).take n)[j]? with
    |none=>grind
    |some lv=>
     rw[hz]at hy;injection hy with hy
     have hj:(unpack e' ys[i])[off+j]?=some lv:=by
      rw[List.getElem?_take]at hz;split at hz
      ·grind
      ·cases hz
     obtain⟨w1,o1,eT,XQ,Vx⟩:=GM e' (Tr i U3) _ lv hj;have Ts:W.w.cell? (at_ a (i*e'.n+(off+j)))=some w1:=by rw[Tb.cell];exact eT
     refine⟨w1,by rw[show a.off+(i*e'.n+off)+j=a.off+(i*e'.n+(off+j)) by omega];exact Ts,?_⟩;subst hy;dsimp only;split
     ·rename_i VE;simp only[gL,gm]at VE;obtain⟨ll,lx⟩:=lv;cases ll with
      |sl t2 f=>
       intro gen2 t3 e3 xs3 d3 bq bA;dsimp only at bq bA;rw[TV]at bq;injection bq with z1 z2 z3 z4
       subst z4;refine⟨u,f,hu,?_⟩
       have dx:e'.kinds[off+j]?=some (.sl t2 f):=by rw[←D4 e' ys[i],ga,hj];rfl
       exact J2 q hn hs hi dx Ts
      |_=>simp[Bp]at VE
     ·rename_i VE
      have hzero:lv.l.rd 0 W.w W.fz w1 lv.x []:=by
       obtain⟨ll,lx⟩:=lv;cases ll with
       |sl t2 f=>
        have hd:dec d'=0:=by simp[Bp]at VE;exact VE
        rw[hd]at XQ;have:o1=[]:=L.Bk _ XQ;grind
       |int k=>exact⟨XQ.1,rfl⟩
       |bool=>exact⟨XQ.1,rfl⟩
       |str=>exact⟨XQ.1,rfl⟩
      exact hzero
 |_=>exact hl.elim
end
end Go.Ev
namespace Go.Ev
def Oo(dst:Option Nat)(x:AV):List Wr:=match dst with
 |some d=>[.slot d x]
 |none=>[]
theorem AM{dst:Option Nat}{x:AV}{ws:List Wr}(h:(match dst with|some d=>Step.go [Wr.slot d x]|none=>Step.go []).leads ws):ws=Oo dst x:=by
 cases dst<;>exact h.symm
section
variable {P:Program}{E:Cr}{s:St}{W:Wd}{o:Oper}{a:Act}{ws:List Wr}{cx:Cx}{v:Nat}{β:Type}
theorem AR(h:AU E s a.tmps W){u:Value}{x:AV}(Ti:(execOp a.eval o).run P W.w=.ok (.value u) W.w)(hx:BQ s W x u):BZ P E o a W.w (s.app (Oo o.dst x)):=Hd h Ti hx
theorem LP{l:L}{la lb:LA}{u w:Value}{q:Bool}(ha:AP s W la u)(hb:AP s W lb w)(h:OP l la lb=some q){t:TypeId}(ht:Ix P t l)(d:Nat)(w0:World):(Op.equalIn (d+1) t u w).run P w0=.ok q w0:=by
 unfold OP at h;cases l with
 |int k=>
  simp only at h;split at h
  ·rename_i i x j y;split at h
   ·rename_i hc;simp only[gL]at hc;obtain rfl:=IntKind.HQ hc.1;obtain rfl:=IntKind.HQ hc.2;injection h with h
    rw[show u=.int j x from ha.1,show w=.int j y from hb.1,run_equalIn_int w0 d t j j x y ht];subst h;rfl
   ·cases h
  ·cases h
 |bool=>
  simp only at h;split at h
  ·rename_i x y;injection h with h
   rw[show u=.bool x from ha.1,show w=.bool y from hb.1,run_equalIn_bool' w0 d t x y ht];subst h;rfl
  ·cases h
 |str=>
  simp only at h;split at h
  ·rename_i x y;injection h with h
   rw[show u=.string ⟨(show List UInt8 from x).toArray⟩from ha.1,show w=.string ⟨(show List UInt8 from y).toArray⟩from hb.1,run_equalIn_string w0 d t _ _ ht];have tl:∀l:List UInt8,(⟨l.toArray⟩:ByteArray).toList=l:=fun l=>by simp
   subst h;rw[tl,tl]
  ·cases h
 |sl t' e=>cases h
theorem Il{t:TypeId}{l:L}(h:Ix P t l)(cs:Array Value)(n:Nat)(x:Value)(hx:cs[n]?=some x)(w:World):(part t cs n).run P w=.ok x w:=by
 unfold part;rw[Sem.run_bind]
 have Vz:(isAgg t).run P w=.ok false w:=by
  unfold isAgg;rw[Sem.run_bind];cases l with
  |int k=>rw[run_underlying (show P.underlying t=some (.int k)from h)];rfl
  |bool=>rw[run_underlying (show P.underlying t=some .bool from h)];rfl
  |str=>rw[run_underlying (show P.underlying t=some .string from h)];rfl
  |sl t' e=>exact h.elim
 rw[Vz];simp[hx]
theorem Gb{d:Nat}{xs ys:Array Value}{w0:World}:∀(fs:List Field)(ls:List L)(as bs:List LA)(n:Nat)(q:Bool),Gu P n fs ls→FZ ls as bs=some q→
  (∀(j:Nat)(b:LA),as[j]?=some b→∃u,xs[n+j]?=some u∧AP s W b u)→(∀(j:Nat)(b:LA),bs[j]?=some b→∃u,ys[n+j]?=some u∧AP s W b u)→
  (Op.eqFields (d+1) xs ys fs).run P w0=.ok q w0
 | [],[],[],[],n,q,hf,hq,h1,h2=>by simp only[FZ,Option.some.injEq]at hq;subst hq;rfl
 |f::fs,l::ls,a::as,b::bs,n,q,hf,hq,h1,h2=>by
  obtain⟨f1,f2,f3,f4⟩:=hf;simp only[FZ]at hq;split at hq
  ·rename_i p r hp hr;injection hq with hq;subst hq
   obtain⟨u,hu,eQ⟩:=h1 0 a rfl;obtain⟨v,hv,eR⟩:=h2 0 b rfl;have ih:=Gb (d:=d) (xs:=xs) (ys:=ys) (w0:=w0) fs ls as bs (n+1) r f4 hr (fun j b hj=>by rw[show n+1+j=n+(j+1) by omega];exact h1 (j+1) b (by grind)) (fun j b hj=>by rw[show n+1+j=n+(j+1) by omega];exact h2 (j+1) b (by grind));simp only[Op.eqFields];rw[gS f1,f2,Sem.run_bind,Il f3 xs n u (by omega)];simp only[Result.andThen_ok];rw[Sem.run_bind,Il f3 ys n v (by omega)];simp only[Result.andThen_ok];rw[Sem.run_bind,LP eQ eR hp f3 d w0];simp only[Result.andThen_ok];cases p with
   |true=>grind
   |false=>simp
  ·cases hq
 | [],[],[],_::_,n,q,hf,hq,h1,h2=>by simp[FZ]at hq
 | [],[],_::_,_,n,q,hf,hq,h1,h2=>by simp[FZ]at hq
 |f::fs,l::ls,[],_,n,q,hf,hq,h1,h2=>by simp[FZ]at hq
 |f::fs,l::ls,_::_,[],n,q,hf,hq,h1,h2=>by simp[FZ]at hq
 | [],_::_,as,bs,n,q,hf,hq,h1,h2=>hf.elim
 |_::_,[],as,bs,n,q,hf,hq,h1,h2=>hf.elim
theorem L4(hc:DV P cx){op:BinOp}{tx:TypeId}{x y:Operand}{as bs:List LA}{u w:Value}(hu:Ey s W true as u)(hw:Ey s W true bs w){k:AV→Step β}{t:β}(hl:(L3 cx op tx as bs k).leads t)(w0:World):
  ∃z r,(k z).leads t∧BQ s W z r∧(do eqGuard op tx x y u w;binOp op tx u w:Sem Value).run P w0=.ok r w0:=by
 unfold L3 at hl;split at hl
 ·rename_i ty VQ;split at hl
  ·rename_i heq;split at hl
   ·rename_i q hq;obtain⟨cs,rfl,_,h1⟩:=hu;obtain⟨ds,rfl,_,h2⟩:=hw;obtain⟨e1,e2,fs,e3,e4⟩:=(hc tx ty VQ).eqs heq;have VR:P.fieldsOf tx=fs:=by unfold Program.fieldsOf;rw[e3]
    have Ti:(Op.equalIn 10000 tx (.agg cs) (.agg ds)).run P w0=.ok q w0:=by
     rw[run_equalIn_struct w0 9999 tx cs ds (by grind) e1,VR];exact Gb (d:=9998) _ _ _ _ 0 q e4 hq (fun j b hj=>by rw[gb];exact h1 j b hj) (fun j b hj=>by grind)
    split at hl
    ·refine⟨_,_,hl,Cd _,?_⟩;rw[Sem.run_bind,run_eqGuard_agg w0 _ tx x y cs ds e2];simp only[Result.andThen_ok];rw[run_eql_struct,Ti];rfl
    ·refine⟨_,_,hl,Cd _,?_⟩;rw[Sem.run_bind,run_eqGuard_agg w0 _ tx x y cs ds e2];simp only[Result.andThen_ok];rw[run_neq_struct,Ti];rfl
    ·exact hl.elim
   ·exact hl.elim
  ·exact hl.elim
 ·exact hl.elim
theorem MV(hc:DV P cx){op:BinOp}{tx:TypeId}{x y:Operand}{t:TypeId}{e:Ls}{xs:List e.D}{u w:Value}(hu:AP s W (.sc (.sl t e) xs) u)(hw:AP s W .CL w){k:AV→Step β}{z:β}(hl:(MU cx op tx e xs k).leads z)(w0:World):
  ∃q r,(k q).leads z∧BQ s W q r∧(do eqGuard op tx x y u w;binOp op tx u w:Sem Value).run P w0=.ok r w0:=by
 unfold MU at hl;split at hl
 ·split at hl
  ·rename_i hr;rcases Ad hl with⟨_,hl⟩|⟨Tf,hl⟩
   ·exact hl.elim
   ·refine⟨_,_,hl,Cd _,?_⟩
    obtain⟨t',T6⟩:∃t',P.underlying tx=some (.slice t'):=by
     unfold isRow at hr;split at hr
     ·rename_i ty VQ;simp only[gL,gW]at hr;obtain⟨VT,hr⟩:=hr;split at hr
      ·rename_i f t0 U4;obtain⟨l',h1,h2⟩:=(hc tx ty VQ).lone VT;rw[U4]at h1;injection h1 with h1
       subst h1;exact⟨_,h2.1⟩
      ·cases hr
     ·cases hr
    obtain⟨A,c,hv,hlen,hm⟩:=(L.Hy (t:=t)).1 hu;have hw:w=.slice none 0 0:=hw;cases A with
    |none=>
     obtain⟨hm,_⟩:c=0∧([]:List Nat)=[]:=hm;have:xs=[]:=gQ (by omega);subst this;cases Tf
    |some a=>
     rw[hv,hw,Sem.run_bind];show Result.andThen (.ok () w0) _=_;rw[Result.andThen_ok,run_neq_slice_nil w0 tx t' (some a) _ c T6];rfl
  ·exact hl.elim
 ·exact hl.elim
theorem MY(hc:DV P cx)(h:AU E s a.tmps W){op:BinOp}{tx ty:TypeId}{x y:Operand}(ho:o.op=.binOp op tx x y ty)(hl:(AB cx v o s).leads ws):BZ P E o a W.w (s.app ws):=by
 simp only[AB,ho]at hl
 have key:∃z r,(match o.dst with|some d=>Step.go [Wr.slot d z]|none=>Step.go []).leads ws∧BQ s W z r∧(do eqGuard op tx x y (a.eval x) (a.eval y);binOp op tx (a.eval x) (a.eval y):Sem Value).run P W.w=.ok r W.w:=by
  split at hl
  ·rename_i as bs h1 h2;exact L4 hc (by have:=A5 h x;rw[h1]at this;exact this) (by have:=A5 h y;rw[h2]at this;exact this) hl W.w
  ·rename_i t e xs h1 h2;exact MV (t:=t) hc (by have:=A5 h x;rw[h1]at this;exact this) (by have:=A5 h y;rw[h2]at this;exact this) hl W.w
  ·exact MA (x:=x) hc h hl
 obtain⟨z,r,hl,hz,hr⟩:=key;rw[AM hl];refine AR h ?_ hz;simp only[execOp,ho];rw[Sem.run_bind,hr];rfl
theorem NX(h:AU E s a.tmps W){op:UnOp}{tx:TypeId}{x:Operand}(ho:o.op=.unOp op tx x)(hl:(AB cx v o s).leads ws):BZ P E o a W.w (s.app ws):=by
 simp only[AB,ho]at hl;have h1:=Ae h x
 revert hl h1
 generalize s.Aj x=p;intro hl h1;split at hl
 ·rw[AM hl];rename_i b;refine AR h (u:=.bool (!b)) ?_ (Cd _);simp[execOp,ho,show a.eval x=.bool b from h1.1,Op.unary]
 ·rename_i k n;rw[AM hl];refine AR h (u:=.int k (k.wrap (OD n))) ?_ (Be _ _);simp[execOp,ho,show a.eval x=.int k n from h1.1,Op.unary,Op.intArith,OD]
 ·exact hl.elim
theorem B9{t:TypeId}{ty:Ty}(hc:DV P cx)(ht:cx.ty t=some ty){l:L}(hl:ty.ls=.one l)(hg:ty.agg=false):GR P t l:=by obtain⟨l',h1,h2⟩:=(hc t ty ht).lone hg;grind
theorem NW(h:AU E s a.tmps W){x y z:Operand}(ho:o.op=.pick x y z)(hl:(AB cx v o s).leads ws):BZ P E o a W.w (s.app ws):=by
 simp only[AB,ho]at hl;have h1:=Ae h x
 revert hl h1
 generalize s.Aj x=p;intro hl h1;split at hl
 ·rename_i t;rcases Ad hl with⟨ht,hl⟩|⟨ht,hl⟩
  ·rw[AM hl];refine AR h (u:=a.eval y) ?_ (A5 h y);simp[execOp,ho,show a.eval x=.bool t from h1.1,asBool,show t=true from ht]
  ·rw[AM hl];refine AR h (u:=a.eval z) ?_ (A5 h z);simp[execOp,ho,show a.eval x=.bool t from h1.1,asBool,show t=false from ht]
 ·exact hl.elim
theorem HB{la:LA}{u:Value}(hv:AP s W la u)(ha:s.alive la=true):∃ad,u=.pointer (some ad):=by
 unfold St.alive at ha;cases la with
 |ptr r j AA=>
  simp only[gL,gV]at ha;exact⟨_,hv ha.1 ha.2⟩
 |Bi c=>
  simp only at ha;split at ha
  ·rename_i AA gen t e xs d hl;simp only[gL,gV,gl,gm]at ha;obtain⟨rfl,hg⟩:=ha;obtain⟨q,i,off,h',e',ad,n,k,_,_,_,_,_,hu⟩:=hv gen t e xs d hl hg;grind
  ·cases ha
 |D0 e x off=>obtain⟨ad,g,arr,T,fr,hu,_⟩:=hv;grind
 |_=>cases ha
theorem KP{a:AV}{v:Value}(h:BQ s W a v):AP s W a.one? v:=by
 cases a with
 |Di vs=>trivial
 |bx as=>trivial
 |v g as=>
  cases g with
  |true=>trivial
  |false=>cases as with
   |nil=>trivial
   |cons b bs=>cases bs with
    |nil=>exact h
    |cons=>trivial
theorem LX{tm:Array Value}(h:AU E s tm W){la:AV}{v:Value}(hv:BQ s W la v){n:Nat}{β:Type}{t:β}{k:List LA→Step β}(hl:(s.FL la n k).leads t):
  ∃as:List LA,(k as).leads t∧as.length≤n∧∃(b off:Nat),v=.pointer (some ⟨b,off,none⟩)∧∀(j:Nat)(x:LA),as[j]?=some x→∃u,W.w.cell? ⟨b,off+j,none⟩=some u∧AP s W x u:=by
 cases la with
 |v g as=>exact Fq h (KP hv) hl
 |Di vs=>exact Fq h (KP hv) hl
 |bx as=>
  simp only[St.FL]at hl;split at hl
  ·rename_i hlen;obtain⟨b,off,arr,T,fr,hp,hz,hh,UQ,Tp⟩:=hv;refine⟨_,hl,by grind,b,off,hp,fun j x hx=>?_⟩
   have ZO:as[j]?=some x:=by
    rw[List.getElem?_take]at hx;split at hx
    ·exact hx
    ·cases hx
   obtain⟨u,hu,UD⟩:=Tp j x ZO;exact⟨u,by simp[World.cell?,hh,hu],UD⟩
  ·exact hl.elim
theorem J7(h:AU E s a.tmps W){x:Operand}(ho:o.op=.nilCheck x)(hl:(AB cx v o s).leads ws):BZ P E o a W.w (s.app ws):=by
 simp only[AB,ho]at hl;have h1:=A5 h x
 have UH:∀p:AV,BQ s W p (a.eval x)→(if s.alive p.one? then(match o.dst with|some d=>(.go [.slot d (one p.one?)]:Step (List Wr))|none=>.go [])else .none).leads ws→BZ P E o a W.w (s.app ws):=by
  intro p h1 hl;have h1:=KP h1;split at hl
  ·rename_i ct;obtain⟨ad,hp⟩:=HB h1 ct;rw[AM hl];exact AR h (u:=a.eval x) (by simp[execOp,ho,hp]) h1
  ·exact hl.elim
 generalize s.Aq x=p at hl h1;cases p with
 |bx as=>
  have h2:=h1;obtain⟨b,off,arr,T,fr,hp,_⟩:=h1;rw[AM hl];exact AR h (u:=a.eval x) (by simp[execOp,ho,hp]) h2
 |v g as=>grind
 |Di vs=>grind
theorem EI{la:LA}{u:Value}(hv:AP s W la u){β:Type}{k:Int→Step β}{t:β}(hl:(asInt la k).leads t):∃j n,u=.int j n∧(k n).leads t:=by
 unfold asInt at hl;cases la with
 |sc l x=>cases l with
  |int j=>exact⟨j,x,hv.1,hl⟩
  |_=>exact hl.elim
 |_=>exact hl.elim
theorem NN{la:LA}{u:Value}(hv:AP s W la u){β:Type}{k:Int→Step β}{t:β}(hl:(OA la k).leads t):∃(n:Int) (b:ByteArray),(k n).leads t∧u=.string b∧n=b.size:=by
 unfold OA at hl;cases la with
 |sc l x=>cases l with
  |str=>exact⟨_,_,hl,hv.1,rfl⟩
  |_=>exact hl.elim
 |_=>exact hl.elim
theorem MJ(h:AU E s a.tmps W){la:LA}{u:Value}(hv:AP s W la u){β:Type}{k:Int→Step β}{t:β}(hl:(lenOf s la k).leads t):
  ∃n:Int,(k n).leads t∧∃A len c,u=.slice A len c∧n=(len:Int):=by
 unfold lenOf at hl;cases la with
 |sc l x=>cases l with
  |sl t e=>
   obtain⟨A,c,hu,_⟩:=AD.len (show AD e 0 W.w W.fz u x []from hv);grind
  |_=>exact hl.elim
 |CL=>exact⟨_,hl,none,0,0,hv,rfl⟩
 |ref c=>
  obtain⟨t',e',ys,d',o',hl,hr,ho⟩:=DK h hv hl;obtain⟨A,c,hu,_⟩:=hr.len;grind
 |win c lo hi=>
  obtain⟨t',e',ys,d',o',hl,hr,ho⟩:=EL h hv hl;obtain⟨A,c,hu,_⟩:=hr.len;grind
 |_=>exact hl.elim
theorem NU(hc:DV P cx)(h:AU E s a.tmps W){t:TypeId}{x:Operand}(ho:o.op=.load t x)(hl:(AB cx v o s).leads ws):BZ P E o a W.w (s.app ws):=by
 simp only[AB,ho]at hl;split at hl
 ·rename_i ty ht;have VQ:=hc t ty ht;obtain⟨as,hl,_,b,off,hx,Tp⟩:=LX h (A5 h x) hl;split at hl
  ·rename_i hlen;have hlen:as.length=ty.ls.n:=by simpa using hlen
   rw[AM hl];cases VT:ty.agg with
   |false=>
    obtain⟨l,U4,U2⟩:=VQ.lone VT;rw[U4]at hlen
    obtain⟨y,rfl⟩:∃y,as=[y]:=by
     match as,hlen with
     | [y],_=>grind
    obtain⟨u,hu,hy⟩:=Tp 0 y rfl;obtain⟨d,hd,UU⟩:=U2.JE;refine AR h (u:=u) ?_ (show BQ s W (.v false [y]) u from hy)
    have Vz:(isAgg t).run P W.w=.ok false W.w:=by
     unfold isAgg;rw[Sem.run_bind,run_underlying hd];cases d<;>simp_all
    simp only[iA]at hu;simp[execOp,ho,Instr.loadAt,hx,Instr.sureAddr,loadVar,Vz,load,Sem.run,hu]
   |true=>
    obtain⟨fs,VR,_⟩:=VQ.agg VT;obtain⟨i,hi,Tt,_⟩:=VQ.info
    let f:Nat→Value:=fun j=>(W.w.cell? ⟨b,off+j,none⟩).getD Go.undef
    let cs:List Value:=(List.range as.length).map f
    have Ve:∀j u,cs[j]?=some u→W.w.cell? ⟨b,off+j,none⟩=some u:=by
     intro j u hj;simp only[cs,ga]at hj;by_cases Tc:j<as.length
     ·rw[List.getElem?_range Tc]at hj;simp at hj;obtain⟨u',Tj,_⟩:=Tp j as[j] (gK Tc);grind
     ·grind
    have Ti:=run_loadVar_mid (P:=P) W.w b off t cs (.struct fs) (fun j u hj=>Ve j u hj) VR rfl (by grind);refine AR h (u:=.agg cs.toArray) ?_ ?_
    ·simp[execOp,ho,Instr.loadAt,hx,Instr.sureAddr,Ti]
    ·refine⟨cs.toArray,rfl,by simp[cs],fun j y hy=>?_⟩;grind
  ·exact hl.elim
 ·exact hl.elim
theorem OI(hc:DV P cx)(h:AU E s a.tmps W){c:Call}(ho:o.op=.call c)(hb:c.callee=.builtin .len)(hl:(AB cx v o s).leads ws):BZ P E o a W.w (s.app ws):=by
 simp only[AB,ho,hb]at hl;split at hl
 ·rename_i x t hx ht;split at hl
  ·rename_i ty VQ;split at hl
   ·exact hl.elim
   ·rename_i VT;have T7:c.args = #[x]:=by grind
    have XY:c.argTypes = #[t]:=by grind
    obtain⟨cal,args,ats⟩:=c;dsimp only at hb T7 XY;subst hb;subst T7;subst XY;split at hl
    ·rename_i U4;obtain⟨n,b,hl,hu,rfl⟩:=NN (Ae h x) hl;rw[AM hl];refine AR h (u:=.int .i64 b.size) ?_ (Be _ _);have T6:P.underlying t=some .string:=B9 hc VQ U4 (by grind);simp[execOp,ho,resolve,invoke,builtin,Builtin.len_,hu,run_underlying T6,goInt]
    ·rename_i t' e U4;obtain⟨n,hl,A,len,k,hu,rfl⟩:=MJ h (Ae h x) hl;rw[AM hl];refine AR h (u:=.int .i64 len) ?_ (Be _ _);have T6:=(B9 hc VQ U4 (by grind)).1;simp[execOp,ho,resolve,invoke,builtin,Builtin.len_,hu,run_underlying T6,goInt]
    ·exact hl.elim
  ·exact hl.elim
 ·exact hl.elim
end
end Go.Ev
namespace Go.Ev
theorem Fu{α:Type}:∀(l:List α)(i:Nat),Hr l i=l[i]?
 | [],i=>by simp[Hr]
 |x::xs,0=>by simp[Hr]
 |x::xs,i+1=>by simp[Hr,Fu xs i]
section
variable {P:Program}{E:Cr}{s:St}{W:Wd}{o:Oper}{a:Act}{ws:List Wr}{cx:Cx}{v:Nat}
theorem addr_add(b off n:Nat):(⟨b,off,none⟩:Addr).add n=⟨b,off+n,none⟩:=by unfold Addr.add;grind
theorem KO(ad:Addr)(k n:Nat):(at_ ad k).add n=at_ ad (k+n):=by unfold at_;rw[addr_add];grind
theorem Ji(hc:DV P cx){t:TypeId}{ty:Ty}(ht:cx.ty t=some ty){f fo:Nat}{ft:TypeId}(hf:(if ty.agg=true then Hr ty.fs f else none)=some (fo,ft)):
  ty.agg=true∧∃(fs:Array Field) (fd:Field),P.underlying t=some (.struct fs)∧fs[f]?=some fd∧fd.offset=fo∧fd.type=ft:=by
 split at hf
 ·rename_i VT;obtain⟨fs,hu,VR,_⟩:=(hc t ty ht).agg VT;rw[Fu,←VR,ga]at hf;grind
 ·cases hf
theorem K1(hc:DV P cx){t:TypeId}{ty:Ty}(ht:cx.ty t=some ty)(w:World):(sizeOf t).run P w=.ok ty.ls.n w:=by obtain⟨i,hi,hs,_⟩:=(hc t ty ht).info;simp[sizeOf,typeInfo,hi,hs]
theorem CS:∀(q:List (Nat×Nat)) (i off:Nat),Ak (q++[(i,off)])=some (q,i,off)
 | [],i,off=>rfl
 | [x],i,off=>rfl
 |x::y::r,i,off=>by have:=CS (y::r) i off;simp only[iK]at this ⊢;simp only[Ak];rw[this]
theorem JG(hc:DV P cx)(h:AU E s a.tmps W){t:TypeId}{x:Operand}{f:Nat}(ho:o.op=.fieldAddr t x f)(hl:(AB cx v o s).leads ws):
  BZ P E o a W.w (s.app ws):=by
 simp only[AB,ho]at hl;split at hl
 ·rename_i ty ht;split at hl
  ·rename_i fo ft hf;obtain⟨VT,fs,fd,hu,bX,rfl,rfl⟩:=Ji hc ht hf;split at hl
   ·rename_i tf Zb;split at hl
    ·exact hl.elim
    ·rename_i Tf;have Tt:=K1 hc Zb W.w;simp only[gV]at Tf;have h0:=A5 h x
     have run:∀ad:Addr,a.eval x=.pointer (some ad)→(execOp a.eval o).run P W.w=.ok (.value (.pointer (some (ad.add fd.offset)))) W.w:=by intro ad Uf;simp[execOp,ho,Instr.fieldAt,run_underlying hu,bX,Uf,Instr.sureAddr,fieldPlace,Tt,Tf]
     have UH:∀h1:AP s W (s.Aj x) (a.eval x),(∀as,s.Aq x≠.bx as)→s.alive (s.Aj x)=true→(match s.Aj x with
       | .ptr r j AA=>(match o.dst with|some d=>(.go [.slot d (one (.ptr r (j+fd.offset) AA))]:Step (List Wr))|none=>.go [])
       | .D0 e y j=>(match o.dst with|some d=>(.go [.slot d (one (.D0 e y (j+fd.offset)))]:Step (List Wr))|none=>.go [])
       | .Bi c=>match Ak c.p with
        |some (q,i,off)=>(match o.dst with|some d=>(.go [.slot d (one (.Bi { c with p:=q++[(i,off+fd.offset)] }))]:Step (List Wr))|none=>.go [])
        |none=>.none
       |_=>.none:Step (List Wr)).leads ws→BZ P E o a W.w (s.app ws):=by
      intro h1 XD XX hl;obtain⟨ad,Uf⟩:=HB h1 XX;have run:=run ad Uf;clear XD;generalize s.Aj x=p at hl h1 XX;split at hl
      ·rename_i r j AA;rw[AM hl];refine AR h run ?_;intro hb Te;have:=h1 hb Te;rw[Uf]at this;injection this with this;injection this with this
       subst this;rw[addr_add]
      ·rename_i e y j;rw[AM hl];refine AR h run ?_;obtain⟨Yp,g,arr,T,fr,hv,rest⟩:=h1;rw[Uf]at hv;injection hv with hv;injection hv with hv
       subst hv;exact⟨Yp,g,arr,T,fr,by rw[KO],rest⟩
      ·rename_i c;split at hl
       ·rename_i q i off hq;rw[AM hl];refine AR h run ?_;intro gen t0 e0 xs0 d0 TV hp;dsimp only at TV hp
        obtain⟨q',i',aq,h',e',Yp,n,k,YR,T3,hn,hs,hi,hv⟩:=h1 gen t0 e0 xs0 d0 TV (by
         rcases hp with hp|hp
         ·left;rw[Ci hq];simpa using hp
         omega)
        rw[hq]at YR;injection YR with YR;injection YR with z1 z2;injection z2 with z2 z3
        subst z1;subst z2;subst z3;rw[Uf]at hv;injection hv with hv;injection hv with hv
        subst hv;exact⟨q,i,off+fd.offset,h',e',Yp,n,k,CS _ _ _,T3,hn,hs,hi,by rw[KO,Nat.add_assoc]⟩
       ·exact hl.elim
      ·exact hl.elim
     have aW:∀p,s.Aq x=p→(∀as,p≠.bx as)→(if !s.alive p.one? then(.none:Step (List Wr))else match p.one? with
       | .ptr r j AA=>(match o.dst with|some d=>(.go [.slot d (one (.ptr r (j+fd.offset) AA))]:Step (List Wr))|none=>.go [])
       | .D0 e y j=>(match o.dst with|some d=>(.go [.slot d (one (.D0 e y (j+fd.offset)))]:Step (List Wr))|none=>.go [])
       | .Bi c=>match Ak c.p with
        |some (q,i,off)=>(match o.dst with|some d=>(.go [.slot d (one (.Bi { c with p:=q++[(i,off+fd.offset)] }))]:Step (List Wr))|none=>.go [])
        |none=>.none
       |_=>.none).leads ws→BZ P E o a W.w (s.app ws):=by
      intro p hp XD hl;have h1:AP s W (s.Aj x) (a.eval x):=Ae h x;split at hl
      ·exact hl.elim
      ·rename_i ct;refine UH h1 (hp▸XD) (by rw[St.Aj,hp];grind) ?_;rw[St.Aj,hp];exact hl
     generalize hq:s.Aq x=p at hl h0;cases p with
     |bx as=>
      obtain⟨b,off,arr,T,fr,hv,hz,hh,UQ,Tp⟩:=h0;have run:=run _ hv;rw[AM hl];refine AR h run ?_;refine⟨b,off+fd.offset,arr,T,fr,by rw[addr_add],hz,hh,UQ,fun j y hy=>?_⟩;grind
     |v g as=>exact aW _ hq (by simp) hl
     |Di vs=>exact aW _ hq (by simp) hl
   ·exact hl.elim
  ·exact hl.elim
 ·exact hl.elim
theorem Ma(hc:DV P cx)(h:AU E s a.tmps W){t:TypeId}{x:Operand}{f:Nat}(ho:o.op=.field t x f)(hl:(AB cx v o s).leads ws):BZ P E o a W.w (s.app ws):=by
 simp only[AB,ho]at hl;have h1:=A5 h x
 revert hl h1
 generalize s.Aq x=p;intro hl h1;split at hl
 ·rename_i ty as ht;split at hl
  ·rename_i fo ft hf;obtain⟨VT,fs,fd,hu,bX,rfl,rfl⟩:=Ji hc ht hf;split at hl
   ·rename_i tf Zb;split at hl
    ·rename_i hle;have hle:fd.offset+tf.ls.n≤as.length:=hO hle;rw[AM hl];obtain⟨cs,Ve,Tt,Tp⟩:=h1
     have aM:∃u,(part fd.type cs fd.offset).run P W.w=.ok u W.w∧BQ s W (.v tf.agg ((as.drop fd.offset).take tf.ls.n)) u:=by
      have ab:=hc _ _ Zb;cases Zn:tf.agg with
      |false=>
       obtain⟨l,U4,U2⟩:=ab.lone Zn;obtain⟨d,hd,UU⟩:=U2.JE
       have Vz:(isAgg fd.type).run P W.w=.ok false W.w:=by
        unfold isAgg;rw[Sem.run_bind,run_underlying hd];cases d<;>simp_all
       have hn:tf.ls.n=1:=by rw[U4];rfl
       rw[hn]at hle ⊢;have Tc:fd.offset<as.length:=by omega
       obtain⟨u,hu,UD⟩:=Tp fd.offset as[fd.offset] (gK Tc);refine⟨u,by simp[part,Vz,hu],?_⟩
       have:(as.drop fd.offset).take 1=[as[fd.offset]]:=by rw[List.drop_eq_getElem_cons Tc];rfl
       rw[this];exact UD
      |true=>
       obtain⟨fs',bc,_⟩:=ab.agg Zn
       have Vz:(isAgg fd.type).run P W.w=.ok true W.w:=by unfold isAgg;rw[Sem.run_bind,run_underlying bc];rfl
       refine⟨.agg (cs.extract fd.offset (fd.offset+tf.ls.n)),by simp[part,Vz,K1 hc Zb],_,rfl,by simp;omega,fun j y hy=>?_⟩;grind
     obtain⟨u,Ti,UD⟩:=aM;exact AR h (u:=u) (by simp[execOp,ho,Instr.field,run_underlying hu,bX,Ve,asAgg,Ti]) UD
    ·exact hl.elim
   ·exact hl.elim
  ·exact hl.elim
 ·exact hl.elim
theorem Ka(h:AU E s a.tmps W){x:Operand}{i:Nat}(ho:o.op=.extract x i)(hl:(AB cx v o s).leads ws):BZ P E o a W.w (s.app ws):=by
 simp only[AB,ho]at hl;have h1:=A5 h x
 revert hl h1
 generalize s.Aq x=p;intro hl h1;split at hl
 ·rename_i vs;split at hl
  ·rename_i g as hn;rw[AM hl];rw[Fu]at hn;obtain⟨us,Yn,Tt,Tp⟩:=h1;obtain⟨u,hu,UD⟩:=Tp i _ hn;exact AR h (u:=u) (by simp[execOp,ho,Instr.extract,Yn,hu]) UD
  ·exact hl.elim
 ·exact hl.elim
theorem NV(h:AU E s a.tmps W){x:Operand}(ho:o.op=.move x)(hn:Hh (s.Aq x)=false)(hl:(AB cx v o s).leads ws):BZ P E o a W.w (s.app ws):=by simp only[AB,ho,hn]at hl;rw[AM hl];exact AR h (u:=a.eval x) (by simp[execOp,ho]) (A5 h x)
theorem OK(h:AU E s a.tmps W){c:Call}(ho:o.op=.call c)(hb:c.callee=.builtin .min)(hl:(AB cx v o s).leads ws):BZ P E o a W.w (s.app ws):=by
 simp only[AB,ho,hb]at hl;split at hl
 ·rename_i x y hx;have h1:=Ae h x;have h2:=Ae h y;generalize s.Aj x=p at hl h1;generalize s.Aj y=q at hl h2;split at hl
  ·rename_i k m j n;change Int at m n;rw[AM hl];have T7:c.args = #[x,y]:=by grind
   obtain⟨cal,args,ats⟩:=c;dsimp only at hb T7;subst hb;subst T7;have e1:a.eval x=.int k m:=h1.1;have e2:a.eval y=.int j n:=h2.1
   have hr:(Builtin.min_ ats o.type #[.int k m,.int j n]).run P W.w=.ok (.int k (NQ m n)) W.w:=by rw[run_min_int2];unfold NQ;grind
   refine AR h (u:=.int k (NQ m n)) ?_ (Be _ _);simp[execOp,ho,resolve,invoke,builtin,e1,e2];rw[hr];rfl
  ·exact hl.elim
 ·exact hl.elim
theorem OJ(h:AU E s a.tmps W){c:Call}(ho:o.op=.call c)(hb:c.callee=.builtin .max)(hl:(AB cx v o s).leads ws):BZ P E o a W.w (s.app ws):=by
 simp only[AB,ho,hb]at hl;split at hl
 ·rename_i x y hx;have h1:=Ae h x;have h2:=Ae h y;generalize s.Aj x=p at hl h1;generalize s.Aj y=q at hl h2;split at hl
  ·rename_i k m j n;change Int at m n;rw[AM hl];have T7:c.args = #[x,y]:=by grind
   obtain⟨cal,args,ats⟩:=c;dsimp only at hb T7;subst hb;subst T7;have e1:a.eval x=.int k m:=h1.1;have e2:a.eval y=.int j n:=h2.1
   have hr:(Builtin.max_ ats o.type #[.int k m,.int j n]).run P W.w=.ok (.int k (NP m n)) W.w:=by rw[run_max_int2];unfold NP;grind
   refine AR h (u:=.int k (NP m n)) ?_ (Be _ _);simp[execOp,ho,resolve,invoke,builtin,e1,e2];rw[hr];rfl
  ·exact hl.elim
 ·exact hl.elim
end
end Go.Ev
namespace Go.Ev
section
variable {P:Program}{E:Cr}{s:St}{W:Wd}{o:Oper}{a:Act}{ws:List Wr}{cx:Cx}{v:Nat}
theorem Fo(hc:DV P cx){t:TypeId}{e:Ls}(h:isRow cx t e=true):∃t',P.underlying t=some (.slice t')∧Lz P t' e:=by
 unfold isRow at h;split at h
 ·rename_i ty ht;simp only[gL,gW]at h;obtain⟨hg,h⟩:=h;split at h
  ·rename_i t' f U4;obtain rfl:=Ls.Dl h;exact⟨t',B9 hc ht U4 hg⟩
  ·cases h
 ·cases h
theorem KH(hc:DV P cx){t:TypeId}(h:Gt cx t .str=true):P.underlying t=some .string:=by
 unfold Gt at h;split at h
 ·rename_i ty ht;simp only[gL,gW]at h;obtain⟨l,hl,hf⟩:=(hc t ty ht).lone h.1;rw[hl]at h;have:=h.2;simp only[Ls.eq?]at this;obtain rfl:=L.Dl this;exact hf
 ·cases h
theorem Lz.sizeOf{t:TypeId}{e:Ls}(h:Lz P t e)(w:World):(sizeOf t).run P w=.ok e.n w:=by obtain⟨i,hi,hs,_⟩:=h.info;simp[Go.sizeOf,typeInfo,hi,hs]
theorem IZ{α:Type}{xs:List α}{n:Int}{x:α}(h:NJ xs n=some x):0≤n∧∃hx:n.toNat<xs.length,xs[n.toNat]=x:=by unfold NJ at h;grind
theorem MD{α:Type}{xs:List α}{n:Int}(h:Oz xs n=true):0≤n∧n.toNat<xs.length:=by unfold Oz at h;grind
theorem Dg(hc:DV P cx){ti:TypeId}{e:Ls}(hr:isRow cx ti e=true){j:IntKind}{n:Int}{ad:Addr}{len c:Nat}(h0:0≤n)(hn:n.toNat<len)(w:World):
  (Instr.indexAt ti (.slice (some ad) len c) (.int j n)).run P w=.ok (.pointer (some (ad.add (n.toNat*e.n)))) w:=by
 obtain⟨t',hu,he⟩:=Fo hc hr;have:0≤n∧n<(len:Int):=by omega
 simp[Instr.indexAt,asIntOf,run_underlying hu,this,he.sizeOf]
theorem EF{ad:Addr}(hs:ad.spot=none)(k:Nat):ad.add k=at_ ad k:=by obtain⟨b,off,sp⟩:=ad;dsimp only at hs;subst hs;exact addr_add b off k
theorem JH(hc:DV P cx)(h:AU E s a.tmps W){ti:TypeId}{x i:Operand}(ho:o.op=.indexAddr ti x i)(hl:(AB cx v o s).leads ws):BZ P E o a W.w (s.app ws):=by
 simp only[AB,ho]at hl;obtain⟨j,n,hi,hl⟩:=EI (Ae h i) hl;have h1:=Ae h x;generalize s.Aj x=p at hl h1;split at hl
 ·rename_i t e xs;split at hl
  ·rename_i hr;obtain⟨y,hy,hl⟩:=hl;rw[AM hl];obtain⟨h0,hx,he⟩:=IZ hy;have h1:AD e 0 W.w W.fz (a.eval x) xs []:=h1;obtain⟨A,c,hv,Ua,h1⟩:=h1;cases A with
   |none=>omega
   |some ad=>
    rcases h1 with h1|⟨g,os,Tb,Tr,Uu,_,_⟩
    ·omega
    have Ti:=Dg (P:=P) hc hr (j:=j) (ad:=ad) (c:=c) h0 hx W.w;refine AR h (u:=.pointer (some (ad.add (n.toNat*e.n)))) (by simp[execOp,ho,hi,hv,Ti]) ?_;obtain⟨hs,arr,T,fr,hh,dF,_,hg⟩:=Tb;rw[EF hs];refine⟨at_ ad (n.toNat*e.n),fun j=>g (n.toNat*e.n+j),arr,T,fr,by simp[at_],Uu,hh,fun j=>?_,?_⟩
    ·show g _=_;rw[hg];simp[at_,Nat.add_assoc]
    ·have:=Tr n.toNat hx;rw[he]at this;have ho:os n.toNat=[]:=Ls.Bk e this;rw[ho]at this;exact this
  ·exact hl.elim
 ·rename_i c;have VC:=h1;obtain⟨t0,e0,xs0,d0,gen,TV,hp,hk⟩:=CZ h hl;obtain⟨u,e',hu,hn⟩:=h1 gen t0 e0 xs0 d0 TV hp;obtain⟨t',ys,d',o',hl,Th,_⟩:=hk u e' _ hu hn;split at hl
  ·rename_i hr;rcases Ad hl with⟨hb,hl⟩|⟨_,hl⟩
   ·rw[AM hl];obtain⟨h0,hx⟩:=MD hb;obtain⟨A,cc,hv,Ua,Th⟩:=Th;cases A with
    |none=>omega
    |some ad=>
     rcases Th with Th|⟨g,os,Tb,Tr,_⟩
     ·omega
     have Ti:=Dg (P:=P) hc hr (j:=j) (ad:=ad) (c:=cc) h0 hx W.w;refine AR h (u:=.pointer (some (ad.add (n.toNat*e'.n)))) (by simp[execOp,ho,hi,hv,Ti]) ?_;intro gen2 t2 e2 xs2 d2 T9 W0;dsimp only at T9 W0;rw[TV]at T9;injection T9 with z1 z2 z3 z4
     subst z4;rw[hv]at hn;exact⟨c.p,n.toNat,0,u,e',ad,_,cc,CS _ _ _,hu,hn,Tb.1,hx,by rw[EF Tb.1];rfl⟩
   ·exact hl.elim
  ·exact hl.elim
 ·rename_i c lo U3;obtain⟨t0,e0,xs0,d0,gen,TV,hp,hk⟩:=CZ h hl;obtain⟨u,e',A0,n0,k0,hu,hn,U2,Wg,hv⟩:=h1 gen t0 e0 xs0 d0 TV hp;obtain⟨t',ys,d',o',hl,Th,_⟩:=hk u e' _ hu hn;split at hl
  ·rename_i hr;rcases Ad hl with⟨hb,hl⟩|⟨_,hl⟩
   ·rw[AM hl];obtain⟨h0,hx⟩:=MD hb;obtain⟨A,cc,Um,Ua,Th⟩:=Th;injection Um with z1 z2 z3
    subst z1;subst z2;subst z3;have ZO:n.toNat<U3-lo:=by simp[sub]at hx;omega
    cases A0 with
    |none=>omega
    |some ad=>
     rcases Th with Th|⟨g,os,Tb,Tr,_⟩
     ·omega
     have Tf:k0≠lo:=by omega
     rw[gT Tf]at hv;have Ti:=Dg (P:=P) hc hr (j:=j) (ad:=ad.add (lo*e'.n)) (c:=k0-lo) h0 ZO W.w;refine AR h (u:=.pointer (some ((ad.add (lo*e'.n)).add (n.toNat*e'.n)))) (by simp[execOp,ho,hi,hv,Ti]) ?_;intro gen2 t2 e2 xs2 d2 T9 W0;dsimp only at T9 W0;rw[TV]at T9;injection T9 with q1 q2 q3 q4
     subst q4;exact⟨c.p,lo+n.toNat,0,u,e',ad,_,k0,CS _ _ _,hu,hn,Tb.1,by omega,by rw[EF Tb.1,KO,gw];rfl⟩
   ·exact hl.elim
  ·exact hl.elim
 ·exact hl.elim
theorem Mb(hc:DV P cx)(h:AU E s a.tmps W){ti:TypeId}{x i:Operand}(ho:o.op=.index ti x i)(hl:(AB cx v o s).leads ws):BZ P E o a W.w (s.app ws):=by
 simp only[AB,ho]at hl;obtain⟨j,n,hi,hl⟩:=EI (Ae h i) hl;have h1:=Ae h x;generalize s.Aj x=p at hl h1;split at hl
 ·rename_i b;change List UInt8 at b;split at hl
  ·rename_i hr;have hu:=KH hc hr;obtain⟨y,hy,hl⟩:=hl;rw[AM hl];obtain⟨h0,hx,he⟩:=IZ hy;have e1:a.eval x=.string ⟨List.toArray (α:=UInt8) b⟩:=h1.1;refine AR h (u:=.int .u8 y.toNat) ?_ (Be _ _)
   have Tp:(⟨List.toArray (α:=UInt8) b⟩:ByteArray)[n.toNat]?=some y:=by rw[getElem?_pos _ _ (by simpa[ByteArray.size]using hx)];congr 1
   simp[execOp,ho,hi,e1,Instr.index,asIntOf,run_underlying hu,h0,Tp]
  ·exact hl.elim
 ·exact hl.elim
theorem Cu(h:AU E s a.tmps W){x:Option Operand}{d:Int}{β:Type}{k:Int→Step β}{t:β}(hl:(DZ s x d k).leads t):
  ∃n:Int,(k n).leads t∧((x=none∧n=d)∨∃y j,x=some y∧a.eval y=.int j n):=by
 cases x with
 |none=>exact⟨d,hl,.inl ⟨rfl,rfl⟩⟩
 |some y=>
  obtain⟨j,n,hi,hl⟩:=EI (Ae h y) hl;grind
theorem FT{isS:Bool}{len cap:Nat}{lo hi:Option Operand}{l m:Int}(U2:(lo=none∧l=0)∨∃y j,lo=some y∧a.eval y=.int j l)
  (Wg:(hi=none∧m=(len:Int))∨∃y j,hi=some y∧a.eval y=.int j m) (h0:0≤l) (h1:l≤m) (h2:m≤(cap:Int)) (w:World):
  (Instr.sliceBounds isS len cap (lo.map a.eval) (hi.map a.eval) none).run P w=.ok (l.toNat,m.toNat,cap) w:=by
 rcases U2 with⟨rfl,rfl⟩|⟨y,j,rfl,hy⟩<;>rcases Wg with⟨rfl,rfl⟩|⟨z,k,rfl,hz⟩
 ·simp[Instr.sliceBounds]
 ·simp[Instr.sliceBounds,hz,Instr.sliceBound,asIntOf,h2,h1]
 ·simp[Instr.sliceBounds,hy,Instr.sliceBound,asIntOf,h0,h1]
 ·have:0≤m:=by omega
  have h3:l≤(m.toNat:Int):=by omega
  simp[Instr.sliceBounds,hy,hz,Instr.sliceBound,asIntOf,h0,h1,h2,this,h3];omega
theorem Mc(hc:DV P cx)(h:AU E s a.tmps W){ti:TypeId}{x:Operand}{lo hi:Option Operand}(ho:o.op=.slice ti x lo hi none)(hl:(AB cx v o s).leads ws):BZ P E o a W.w (s.app ws):=by
 simp only[AB,ho]at hl;have h1:=Ae h x;generalize s.Aj x=p at hl h1;split at hl
 ·rename_i b;change List UInt8 at b;split at hl
  ·rename_i hr;have hu:=KH hc hr;obtain⟨l,hl,U2⟩:=Cu h hl;obtain⟨m,hl,Wg⟩:=Cu h hl;rcases Ad hl with⟨hb,hl⟩|⟨_,hl⟩
   ·simp only[gL,gm]at hb;obtain⟨⟨b0,b1⟩,b2⟩:=hb;rw[AM hl];have e1:a.eval x=.string ⟨b.toArray⟩:=h1.1;have Ti:=FT (P:=P) (isS:=false) (len:=b.length) (cap:=b.length) U2 Wg b0 b1 b2 W.w;refine AR h (u:=.string ((⟨b.toArray⟩:ByteArray).extract l.toNat m.toNat)) ?_ ?_
    ·have hs:(⟨b.toArray⟩:ByteArray).size=b.length:=by simp[ByteArray.size]
     simp[execOp,ho,e1,Instr.sliceAt,run_underlying hu,Instr.slice,hs,Ti]
    ·have:(⟨b.toArray⟩:ByteArray).extract l.toNat m.toNat=⟨(sub b l.toNat m.toNat).toArray⟩:=by apply ByteArray.ext;rw[ByteArray.data_extract];simp[sub,List.extract_eq_take_drop]
     rw[this];exact Kf _
   ·exact hl.elim
  ·exact hl.elim
 ·rename_i t e b;change List e.D at b;split at hl
  ·rename_i hr;obtain⟨l,hl,U2⟩:=Cu h hl;obtain⟨m,hl,Wg⟩:=Cu h hl;rcases Ad hl with⟨hb,hl⟩|⟨_,hl⟩
   ·simp only[gL,gm]at hb;obtain⟨⟨b0,b1⟩,b2⟩:=hb;rw[AM hl];obtain⟨t',hu,he⟩:=Fo hc hr;have h1:AD e 0 W.w W.fz (a.eval x) b []:=h1;obtain⟨A,c,hv,Ua⟩:=h1.len;rw[hv]at h1;obtain⟨o',q1,q2,_⟩:=CB.sub h1 (lo:=l.toNat) (hi:=m.toNat) (by omega) (by omega);have VN:o'=[]:=CB.zero q1;subst VN;have Ti:=FT (P:=P) (isS:=true) (len:=b.length) (cap:=c) U2 Wg b0 b1 (by omega) W.w;refine AR h (u:=.slice (if c=l.toNat then A else A.map (·.add (l.toNat*e.n))) (m.toNat-l.toNat) (c-l.toNat)) ?_ (show AP s W (.sc (.sl t e) (sub b l.toNat m.toNat)) _ from q1);simp[execOp,ho,hv,Instr.sliceAt,run_underlying hu,Instr.slice,Ti,he.sizeOf]
   ·exact hl.elim
  ·exact hl.elim
 ·rename_i c;obtain⟨t0,e0,xs0,d0,gen,TV,hp,hk⟩:=CZ h hl;obtain⟨u,e',Tj,hn⟩:=h1 gen t0 e0 xs0 d0 TV hp;obtain⟨t',ys,d',o',hl,Th,_⟩:=hk u e' _ Tj hn;split at hl
  ·rename_i hr;obtain⟨l,hl,U2⟩:=Cu h hl;obtain⟨m,hl,Wg⟩:=Cu h hl;rcases Ad hl with⟨hb,hl⟩|⟨_,hl⟩
   ·simp only[gL,gm]at hb;obtain⟨⟨b0,b1⟩,b2⟩:=hb;rw[AM hl];obtain⟨t2,hu,he⟩:=Fo hc hr;obtain⟨A,cc,hv,Ua⟩:=Th.len;have Ti:=FT (P:=P) (isS:=true) (len:=ys.length) (cap:=cc) U2 Wg b0 b1 (by omega) W.w;refine AR h (u:=.slice (if cc=l.toNat then A else A.map (·.add (l.toNat*e'.n))) (m.toNat-l.toNat) (cc-l.toNat)) ?_ ?_
    ·simp[execOp,ho,hv,Instr.sliceAt,run_underlying hu,Instr.slice,Ti,he.sizeOf]
    ·intro gen2 t3 e3 xs3 d3 hleaf3 bA;grind
   ·exact hl.elim
  ·exact hl.elim
 ·exact hl.elim
end
end Go.Ev
namespace Go.Ev
theorem BC(s:St):∀(xs ys:List Wr),s.app (xs++ys)=(s.app xs).app ys
 | [],ys=>rfl
 |x::xs,ys=>by show((s.AF x).app (xs++ys))=((s.AF x).app xs).app ys;exact BC (s.AF x) xs ys
theorem ET(s:St)(r j:Nat)(x:LA)(r' j':Nat):(s.AF (.leaf r j x)).leaf r' j'=if r=r'∧j=j'∧r<s.ro.length∧j<(s.root r).ls.length then x else s.leaf r' j':=by
 have T4:(s.AF (.leaf r j x)).root r'=if r=r'∧r<s.ro.length then { s.root r with ls:=CV (s.root r).ls j x }else s.root r':=Ay _ _ _ _ _
 unfold St.leaf;rw[T4];by_cases h:r=r'∧r<s.ro.length
 ·obtain⟨rfl,Tc⟩:=h;rw[gS ⟨rfl,Tc⟩];show nth LA.bad (CV (s.root r).ls j x) j'=_;rw[Ay];by_cases hj:j=j'∧j<(s.root r).ls.length
  ·rw[gS hj,gS ⟨rfl,hj.1,Tc,hj.2⟩]
  ·rw[gT hj,gT (fun hh=>hj ⟨hh.2.1,hh.2.2.2⟩)]
 grind
structure JY(s s':St):Prop where
 sl:s'.sl=s.sl
 len:s'.ro.length=s.ro.length
 box:∀r,(s'.root r).box=(s.root r).box∧(s'.root r).AA=(s.root r).AA∧(s'.root r).ls.length=(s.root r).ls.length
theorem BF(s:St)(r j:Nat)(x:LA):JY s (s.AF (.leaf r j x)) where
 sl:=rfl
 len:=CU _ _ _
 box r':=by
  have T4:(s.AF (.leaf r j x)).root r'=if r=r'∧r<s.ro.length then { s.root r with ls:=CV (s.root r).ls j x }else s.root r':=Ay _ _ _ _ _
  rw[T4];by_cases h:r=r'∧r<s.ro.length
  ·obtain⟨rfl,Tc⟩:=h;rw[gS ⟨rfl,Tc⟩];exact⟨rfl,rfl,CU _ _ _⟩
  grind
theorem Dm(s:St):∀us:List (Nat×Nat),JY s (s.app (gone us))∧∀r j,(s.app (gone us)).leaf r j=if(r,j)∈us then .bad else s.leaf r j
 | []=>⟨⟨rfl,rfl,fun _=>⟨rfl,rfl,rfl⟩⟩,fun r j=>by simp[gone,St.app]⟩
 |u::us=>by
  have h1:=BF s u.1 u.2 .bad;have h2:=ET s u.1 u.2 .bad;obtain⟨a,b⟩:=Dm (s.AF (.leaf u.1 u.2 .bad)) us;refine⟨⟨a.sl.trans h1.sl,a.len.trans h1.len,fun r=>⟨(a.box r).1.trans (h1.box r).1,(a.box r).2.1.trans (h1.box r).2.1,(a.box r).2.2.trans (h1.box r).2.2⟩⟩,fun r j=>?_⟩;show((s.AF (.leaf u.1 u.2 .bad)).app (gone us)).leaf r j=_;rw[b,h2];by_cases hm:(r,j)∈us
  ·grind
  ·rw[gT hm];by_cases he:(r,j)=u
   ·have TW:(r,j)∈u::us:=by rw[he];exact gi
    rw[gS TW];subst he;split
    ·rfl
    ·rename_i Tf;unfold St.leaf;by_cases hr:r<s.ro.length
     ·rw[A3];exact iB fun hj=>Tf ⟨rfl,rfl,hr,hj⟩
     ·have:s.root r=dead:=A3 _ (iB hr);rw[this];rfl
   grind
section
variable {P:Program}{E:Cr}{s:St}{tm:Array Value}{W:Wd}{v:Nat}
def AN(W:Wd)(w':World)(us:List (Nat×Nat))(d:Nat)(cvd:Nat→Option Value)(bkd:Nat)(ob:List Nat)(oj:Nat→List Nat):Wd:=
 {w:=w',fz:=W.fz
  cv:=fun r j=>if r=d then cvd j else W.cv r j
  bk:=fun r=>if r=d then bkd else W.bk r
  om:=fun k=>match k with
   | .AS r=>if r=d then ob else W.om (.AS r)
   | .lf r j=>if r=d then oj j else if(r,j)∈us then []else W.om (.lf r j)
   | .fl _=>[] }
def Kept(us:List (Nat×Nat))(d:Nat):Key→Prop
 | .AS r=>r≠d
 | .lf r j=>r≠d∧(r,j)∉us
 | .fl _=>False
theorem AU.Kc(h:AU E s tm W)(hv:Ac s v){us:List (Nat×Nat)}{d:Nat}(hd:d<tm.size){x:Bl}{a:AV}{u:Value}{w':World}{cvd:Nat→Option Value}{bkd:Nat}{ob:List Nat}{oj:Nat→List Nat}
  (hx:x.AA=v) (Ze:∀(j AA gen:Nat)(t:TypeId)(e:Ls)(xs:List e.D)(dd:Nat),nth .bad x.ls j=.arr AA gen t e xs dd→AA=v)
  (hw:∀b,(W.fz b∨∃k,Kept us d k∧b∈W.om k)→w'.heap[b]?=W.w.heap[b]?)
  (UQ:∀b,b<E.base→¬E.io b→w'.heap[b]?=W.w.heap[b]?) (Tt:W.w.heap.size≤w'.heap.size) (ho:w'.os=W.w.os∧w'.tape=W.w.tape∧w'.output=W.w.output)
  (XD:ob.Nodup) (dE:∀j,(oj j).Nodup) (Yy:∀j,∀b∈ob,b∉oj j) (ay:∀i j,i≠j→∀b∈oj i,b∉oj j)
  (UR:∀b,(b∈ob∨∃j,b∈oj j)→(∃k,¬Kept us d k∧b∈W.om k)∨(W.w.heap.size≤b∧b<w'.heap.size))
  (T4:EE v s (s.app (gone us++[.root d x,.slot d a])) W (AN W w' us d cvd bkd ob oj)→(s.app (gone us++[.root d x,.slot d a])).root d=x→ED (s.app (gone us++[.root d x,.slot d a])) (AN W w' us d cvd bkd ob oj) d x)
  (XF:EE v s (s.app (gone us++[.root d x,.slot d a])) W (AN W w' us d cvd bkd ob oj)→(s.app (gone us++[.root d x,.slot d a])).root d=x→BQ (s.app (gone us++[.root d x,.slot d a])) (AN W w' us d cvd bkd ob oj) a u):
  AU E (s.app (gone us++[.root d x,.slot d a])) (tm.setIfInBounds d u) (AN W w' us d cvd bkd ob oj):=by
 obtain⟨Ta,TV⟩:=Dm s us;generalize X7:s.app (gone us++[.root d x,.slot d a])=s' at *;rw[BC]at X7;generalize s.app (gone us)=s1 at Ta TV X7;have ZU:d<s1.ro.length:=by rw[Ta.len,h.BW];exact hd
 have Zt:d<s1.sl.length:=by rw[Ta.sl,h.DG];exact hd
 have Uj:∀r,s'.root r=if d=r then x else s1.root r:=by
  intro r;subst X7;show((s1.AF (.root d x)).AF (.slot d a)).root r=_;have:((s1.AF (.root d x)).AF (.slot d a)).root r=(s1.AF (.root d x)).root r:=rfl;rw[this,Ax];by_cases WJ:d=r
  ·grind
  ·grind
 have ZL:∀t,s'.slot t=if d=t then a else s.slot t:=by
  intro t;subst X7;show((s1.AF (.root d x)).AF (.slot d a)).slot t=_;rw[BN];by_cases WJ:d=t
  ·rw[gS ⟨WJ,Zt⟩,gS WJ]
  ·rw[gT (fun hh=>WJ hh.1),gT WJ];show nth _ s1.sl t=_;rw[Ta.sl];rfl
 have YN:∀r j,s'.leaf r j=if d=r then nth .bad x.ls j else if(r,j)∈us then .bad else s.leaf r j:=by
  intro r j;unfold St.leaf;rw[Uj];by_cases WJ:d=r
  ·grind
  ·rw[gT WJ,gT WJ];exact TV r j
 have T1:EE v s s' W (AN W w' us d cvd bkd ob oj):={
  fz:=fun b hb=>hb
  LQ:=fun b hb=>hw b (.inl hb)
  leaf:=by
   intro r j AA gen t e xs dd hl Tf;rw[YN]at hl;by_cases WJ:d=r
   ·grind
   ·rw[gT WJ]at hl;by_cases hm:(r,j)∈us
    ·grind
    ·rw[gT hm]at hl;refine⟨gT (fun e=>WJ e.symm),gen,t,xs,dd,hl,fun _=>⟨rfl,fun p h' e' u' hc hn=>?_⟩⟩;obtain⟨u0,UW,Th⟩:=(h.roots r).row hl;rw[hc]at UW;injection UW with UW;subst UW
     exact BI p Th hn fun b hb=>hw b (hb.elim (fun hb=>.inr ⟨.lf r j,⟨fun e=>WJ e.symm,hm⟩,hb⟩) .inl)
  box:=by
   intro r hb Tf;rw[Uj]at hb Tf ⊢;by_cases WJ:d=r
   ·grind
   ·rw[gT WJ]at hb Tf ⊢;obtain⟨b1,b2,b3⟩:=Ta.box r;exact⟨b1▸hb,b2.symm,gT (fun e=>WJ e.symm)⟩ }
 have VB:Sep E (AN W w' us d cvd bkd ob oj):=by
  refine h.sep.H0 (fun k=>¬Kept us d k) rfl Tt UQ ho ?_ ?_ ?_ ?_
  ·intro k hk;have hk:Kept us d k:=iS.1 hk;cases k with
   |AS r=>exact gT hk
   |lf r j=>show(if r=d then oj j else if(r,j)∈us then []else W.om (.lf r j))=_;rw[gT hk.1,gT hk.2]
   |fl k=>exact hk.elim
  ·intro k hk;cases k with
   |AS r=>
    have:r=d:=iS.1 hk;show(if r=d then ob else W.om (.AS r)).Nodup;grind
   |lf r j=>
    show(if r=d then oj j else if(r,j)∈us then []else W.om (.lf r j)).Nodup;by_cases hr:r=d
    ·grind
    ·rw[gT hr];by_cases hm:(r,j)∈us
     ·grind
     ·exact absurd ⟨hr,hm⟩ hk
   |fl k=>exact gR
  ·intro k k' hk Ud Tf b hb Tk;cases k with
   |fl k=>cases hb
   |AS r=>
    have hr:r=d:=iS.1 hk;subst hr;have hb:b∈ob:=by have:b∈(if r=r then ob else W.om (.AS r)):=hb;grind
    cases k' with
    |fl k=>cases Tk
    |AS r'=>have UI:r'=r:=iS.1 Ud;grind
    |lf r' j'=>
     have Tk:b∈(if r'=r then oj j' else if(r',j')∈us then []else W.om (.lf r' j')):=Tk;by_cases UI:r'=r
     ·grind
     ·rw[gT UI]at Tk;by_cases hm:(r',j')∈us
      ·grind
      ·exact Ud ⟨UI,hm⟩
   |lf r j=>
    have hb:b∈(if r=d then oj j else if(r,j)∈us then []else W.om (.lf r j)):=hb;by_cases hr:r=d
    ·rw[gS hr]at hb;cases k' with
     |fl k=>cases Tk
     |AS r'=>
      have UI:r'=d:=iS.1 Ud;have Tk:b∈(if r'=d then ob else W.om (.AS r')):=Tk;grind
     |lf r' j'=>
      have Tk:b∈(if r'=d then oj j' else if(r',j')∈us then []else W.om (.lf r' j')):=Tk;by_cases UI:r'=d
      ·grind
      ·rw[gT UI]at Tk;by_cases hm:(r',j')∈us
       ·grind
       ·exact Ud ⟨UI,hm⟩
    ·rw[gT hr]at hb;by_cases hm:(r,j)∈us
     ·grind
     ·exact hk ⟨hr,hm⟩
  ·intro k hk b hb
   have VD:b∈ob∨∃j,b∈oj j:=by
    cases k with
    |fl k=>cases hb
    |AS r=>
     have hr:r=d:=iS.1 hk;have hb:b∈(if r=d then ob else W.om (.AS r)):=hb;grind
    |lf r j=>
     have hb:b∈(if r=d then oj j else if(r,j)∈us then []else W.om (.lf r j)):=hb;by_cases hr:r=d
     ·grind
     ·rw[gT hr]at hb;by_cases hm:(r,j)∈us
      ·grind
      ·exact absurd ⟨hr,hm⟩ hk
   exact UR b VD
 refine h.H0 hv T1 VB ?_ ?_ ?_ ?_
 ·subst X7;simp only[St.app,St.AF,CU,Array.size_setIfInBounds];rw[Ta.sl,h.DG]
 ·subst X7;simp only[St.app,St.AF,CU,Array.size_setIfInBounds];rw[Ta.len,h.BW]
 ·intro t;rw[ZL];by_cases Y0:d=t
  ·right;rw[gS Y0];have:(tm.setIfInBounds d u).getD t Go.undef=u:=by subst Y0;simp[h9,hd]
   grind
  ·left;rw[gT Y0];exact⟨rfl,by simp[h9,Y0]⟩
 ·intro r;rw[Uj];by_cases WJ:d=r
  ·grind
  ·rw[gT WJ];obtain⟨h1,h2⟩:=h.roots r;obtain⟨b1,b2,b3⟩:=Ta.box r;have Wq:¬r=d:=fun e=>WJ e.symm;refine⟨fun j=>?_,?_⟩
   ·have e1:(AN W w' us d cvd bkd ob oj).cv r j=W.cv r j:=gT Wq;have e2:(AN W w' us d cvd bkd ob oj).om (.lf r j)=if(r,j)∈us then []else W.om (.lf r j):=gT Wq
    have e3:nth LA.bad (s1.root r).ls j=if(r,j)∈us then .bad else s.leaf r j:=TV r j
    rw[e1,e2,e3];by_cases hm:(r,j)∈us
    ·rw[gS hm,gS hm];exact⟨rfl,fun _ _=>trivial⟩
    ·rw[gT hm,gT hm];exact Aa.DF T1 (hv.2.1 r j) (fun b hb=>hw b (.inr ⟨.lf r j,⟨Wq,hm⟩,hb⟩)) (h1 j)
   ·have e1:(AN W w' us d cvd bkd ob oj).om (.AS r)=W.om (.AS r):=gT Wq;have e2:(AN W w' us d cvd bkd ob oj).bk r=W.bk r:=gT Wq;rw[b1,e1,e2];split
    ·rename_i hb;rw[gS hb]at h2;obtain⟨VN,arr,T,fr,hh,a1,a2,a3⟩:=h2;refine⟨VN,arr,T,fr,(hw _ (.inr ⟨.AS r,Wq,by rw[VN];simp⟩)).trans hh,a1,by rw[b3];exact a2,fun j=>?_⟩;show(if r=d then cvd j else W.cv r j)=_;rw[gT Wq];exact a3 j
    grind
theorem AU.place(h:AU E s tm W)(hv:Ac s v){us:List (Nat×Nat)}{d:Nat}(hd:d<tm.size){x:Bl}{a:AV}{u:Value}{w':World}{cvd:Nat→Option Value}{bkd:Nat}{ob:List Nat}{oj:Nat→List Nat}
  (hx:x.AA=v) (Ze:∀(j AA gen:Nat)(t:TypeId)(e:Ls)(xs:List e.D)(dd:Nat),nth .bad x.ls j=.arr AA gen t e xs dd→AA=v)
  (hw:∀b,(W.fz b∨∃k,Kept us d k∧b∈W.om k)→w'.heap[b]?=W.w.heap[b]?)
  (UQ:∀b,b<E.base→¬E.io b→w'.heap[b]?=W.w.heap[b]?) (Tt:W.w.heap.size≤w'.heap.size) (ho:w'.os=W.w.os∧w'.tape=W.w.tape∧w'.output=W.w.output)
  (XD:ob.Nodup) (dE:∀j,(oj j).Nodup) (Yy:∀j,∀b∈ob,b∉oj j) (ay:∀i j,i≠j→∀b∈oj i,b∉oj j)
  (UR:∀b,(b∈ob∨∃j,b∈oj j)→(∃r j,(r,j)∈us∧b∈W.om (.lf r j))∨(W.w.heap.size≤b∧b<w'.heap.size))
  (T4:EE v s (s.app (gone us++[.root d x,.slot d a])) W (AN W w' us d cvd bkd ob oj)→(s.app (gone us++[.root d x,.slot d a])).root d=x→ED (s.app (gone us++[.root d x,.slot d a])) (AN W w' us d cvd bkd ob oj) d x)
  (XF:EE v s (s.app (gone us++[.root d x,.slot d a])) W (AN W w' us d cvd bkd ob oj)→(s.app (gone us++[.root d x,.slot d a])).root d=x→BQ (s.app (gone us++[.root d x,.slot d a])) (AN W w' us d cvd bkd ob oj) a u):
  AU E (s.app (gone us++[.root d x,.slot d a])) (tm.setIfInBounds d u) (AN W w' us d cvd bkd ob oj):=
 h.Kc hv hd hx Ze hw UQ Tt ho XD dE Yy ay (fun b hb=>(UR b hb).imp (fun⟨r,j,hm,h0⟩=>⟨.lf r j,fun hk=>hk.2 hm,h0⟩) id) T4 XF
end
end Go.Ev
namespace Go.Ev
section
variable {P:Program}{E:Cr}{s:St}{tm:Array Value}{W:Wd}{v:Nat}{cx:Cx}{β:Type}{t:β}
theorem AU.CP(h:AU E s tm W)(hv:Ac s v)(us:List (Nat×Nat)){d:Nat}(hd:d<tm.size){t0:TypeId}{e:Ls}{xs:List e.D}{dd:Nat}{u:Value}{w':World}{o:List Nat}
  (hw:∀b,(W.fz b∨∃k,Kept us d k∧b∈W.om k)→w'.heap[b]?=W.w.heap[b]?)
  (UQ:∀b,b<E.base→¬E.io b→w'.heap[b]?=W.w.heap[b]?) (Tt:W.w.heap.size≤w'.heap.size) (ho:w'.os=W.w.os∧w'.tape=W.w.tape∧w'.output=W.w.output)
  (hr:AD e dd w' W.fz u xs o) (hn:o.Nodup) (UR:∀b∈o,(∃r j,(r,j)∈us∧b∈W.om (.lf r j))∨(W.w.heap.size≤b∧b<w'.heap.size)):
  ∃W',W'.w=w'∧AU E (s.app (gone us++[.root d ⟨false,v,[.arr v v t0 e xs dd]⟩,.slot d (one (.ref ⟨d,0,v,v,[]⟩))])) (tm.setIfInBounds d u) W':=by
 refine⟨AN W w' us d (fun j=>if j=0 then some u else none) 0 [] (fun j=>if j=0 then o else []),rfl,?_⟩;obtain⟨Ta,TV⟩:=Dm s us;refine h.place hv hd rfl ?_ hw UQ Tt ho gR ?_ (fun j b hb=>by cases hb) ?_ ?_ ?_ ?_
 ·intro j AA gen t e xs dd' hl;cases j with
  |zero=>simp only[nth]at hl;grind
  |succ j=>simp[nth]at hl
 ·grind
 ·grind
 ·grind
 ·intro _ _;refine⟨fun j=>?_,?_⟩
  ·cases j with
   |zero=>
    refine⟨u,by simp[AN],?_⟩;have:(AN W w' us d (fun j=>if j=0 then some u else none) 0 [] (fun j=>if j=0 then o else [])).om (.lf d 0)=o:=by simp[AN]
    rw[this];exact hr
   |succ j=>
    have h1:nth LA.bad [LA.arr v v t0 e xs dd] (j+1)=.bad:=by simp[nth]
    have h2:(AN W w' us d (fun j=>if j=0 then some u else none) 0 [] (fun j=>if j=0 then o else [])).om (.lf d (j+1))=[]:=by simp[AN]
    rw[h1,h2];exact⟨rfl,fun _ _=>trivial⟩
  ·show(if false=true then _ else _);simp[AN]
 ·intro _ _ gen t e2 xs2 d2 hl hp;refine⟨u,e2,?_,rfl,rfl⟩;simp[AN]
def Iy(s:St)(W:Wd)(v:Nat)(b:LA)(u:Value)(o:List Nat)(us:List (Nat×Nat)):Prop:=
 u.oneCell'=true∧o.Nodup∧(∀b∈o,∃r j,(r,j)∈us∧b∈W.om (.lf r j))∧match b with
  | .arr AA gen _ e xs d=>AA=v∧gen=v∧AD e d W.w W.fz u xs o
  |b=>o=[]∧AP s W b u∧v∉b.AG
theorem Ns(A:Option Addr)(n c:Nat):(Value.slice A n c).cells = #[.slice A n c]:=rfl
theorem Ej{u:Value}(h:u.oneCell'=true):u.cells = #[u]:=by
 cases u<;>first|rfl|cases h
theorem Ml:∀(l:L) {w:World} {fz:Nat→Prop} {u:Value} {x:l.D},l.rd 0 w fz u x []→u.oneCell'=true
 | .int k,_,_,u,x,h=>by rw[show u=.int k x from h.1];rfl
 | .bool,_,_,u,x,h=>by rw[show u=.bool x from h.1];rfl
 | .str,_,_,u,x,h=>by rw[show u=.string ⟨x.toArray⟩from h.1];rfl
 | .sl _ e,_,_,u,x,h=>by obtain⟨A,c,hu,_⟩:=AD.len (show AD e 0 _ _ u x []from h);rw[hu];rfl
theorem K5(h:AU E s tm W){la:LA}(VS:v∉la.AG){u:Value}(hu:AP s W la u){l:L}{k:LA→List (Nat×Nat)→Step β}(hl:(s.take cx v la l k).leads t):
  ∃b us o,(k b us).leads t∧Iy s W v b u o us∧(∀x∈us,cx.JS x.1=false)∧us.length≤1:=by
 unfold St.take at hl;cases la with
 |sc m x=>
  simp only at hl;split at hl
  ·exact⟨_,_,[],hl,⟨Ml m hu,gR,(fun b hb=>by cases hb),rfl,hu,VS⟩,(fun x hx=>by cases hx),by simp⟩
  ·exact hl.elim
 |CL=>
  cases l with
  |sl t' e=>
   refine⟨_,_,[],hl,⟨by rw[show u=.slice none 0 0 from hu];rfl,gR,(fun b hb=>by cases hb),rfl,rfl,?_⟩,(fun x hx=>by cases hx),by simp⟩;rw[show u=.slice none 0 0 from hu];exact Bj
  |_=>exact hl.elim
 |ref c=>
  simp only at hl;split at hl
  ·rename_i AA gen t' e xs d TV;split at hl
   ·obtain⟨t2,e2,ys,d2,o2,hl,hr,ho⟩:=DK h hu hl;split at hl
    ·obtain⟨u0,_,eI⟩:=(h.roots c.r).row TV;have hz:W.om (.lf c.r c.j)=[]:=AD.zero eI;obtain⟨A,cc,Wl,_⟩:=hr.len;exact⟨_,_,[],hl,⟨by rw[Wl];rfl,gR,(fun b hb=>by cases hb),rfl,hr.freeze fun b hb=>hb.elim id fun hb=>(by grind),by simp[LA.AG]⟩,(fun x hx=>by cases hx),by simp⟩
    ·exact hl.elim
   ·split at hl
    ·rename_i hc;simp only[gL,gV,gW]at hc;obtain⟨⟨⟨Te,hp⟩,WX⟩,hk⟩:=hc;subst Te;have hp:c.p=[]:=by cases hq:c.p<;>simp_all[isNil]
     obtain⟨h',e',T3,hn⟩:=hu _ _ _ _ _ TV (.inl hp);rw[hp]at hn;obtain⟨rfl,rfl⟩:=hn;obtain⟨u',Tj,Th⟩:=(h.roots c.r).row TV;rw[T3]at Tj;injection Tj with Tj;subst Tj
     obtain⟨A,cc,Wl,_⟩:=Th.len;refine⟨_,_,W.om (.lf c.r c.j),hl,⟨by rw[Wl];rfl,h.sep.nodup _,fun b hb=>⟨c.r,c.j,by simp,hb⟩,rfl,rfl,Th⟩,fun x hx=>?_,by simp⟩;grind
    ·exact hl.elim
  ·exact hl.elim
 |win c lo hi=>
  simp only at hl;split at hl
  ·rename_i AA gen t' e xs d TV;split at hl
   ·rename_i hc;simp only[gL,gV,gW]at hc;obtain⟨⟨⟨Te,hp⟩,WX⟩,hk⟩:=hc;subst Te;have hp:c.p=[]:=by cases hq:c.p<;>simp_all[isNil]
    obtain⟨h',e',A,n,k0,T3,hn,h1,h2,Wl⟩:=hu gen t' e xs d TV (.inl hp);rw[hp]at hn;obtain⟨rfl,rfl⟩:=hn;obtain⟨u',Tj,Th⟩:=(h.roots c.r).row TV;rw[T3]at Tj;injection Tj with Tj;subst Tj
    obtain⟨o',q1,q2,q3⟩:=CB.sub Th h1 h2;refine⟨_,_,o',hl,⟨by rw[Wl];rfl,q3 (h.sep.nodup _),fun b hb=>⟨c.r,c.j,by simp,q2 b hb⟩,rfl,rfl,?_⟩,fun x hx=>?_,by simp⟩
    ·rw[Wl];exact q1
    grind
   ·exact hl.elim
  ·exact hl.elim
 |ptr r j AA=>
  simp only at hl;split at hl
  ·rename_i hc;simp only[gL,gV]at hc;refine⟨_,_,[],hl,⟨by rw[hu hc.1 hc.2];rfl,gR,(fun b hb=>by cases hb),rfl,hu,VS⟩,(fun x hx=>by cases hx),by simp⟩
  ·exact hl.elim
 |fn f=>exact⟨_,_,[],hl,⟨by rw[show u=_ from hu];rfl,gR,(fun b hb=>by cases hb),rfl,hu,VS⟩,(fun x hx=>by cases hx),by simp⟩
 |_=>exact hl.elim
theorem Eb(h:AU E s tm W):∀ {ls:List L} {as:List LA} {g:Nat→Option Value} {k:List LA→List (Nat×Nat)→Step β},(∀(j:Nat)(b:LA),as[j]?=some b→v∉b.AG∧∃u,g j=some u∧AP s W b u)→
  (s.F0 cx v ls as k).leads t→∃(bs:List LA) (us:List (Nat×Nat)) (os:Nat→List Nat),(k bs us).leads t∧bs.length=as.length∧as.length=ls.length∧us.Nodup∧(∀x∈us,cx.JS x.1=false)∧
   (∀i j,i≠j→∀b∈os i,b∉os j)∧(∀j,as.length≤j→os j=[])∧∀(j:Nat)(b:LA),bs[j]?=some b→∃u,g j=some u∧Iy s W v b u (os j) us
 | [],[],g,k,hg,hl=>⟨[],[],fun _=>[],hl,rfl,rfl,gR,(fun x hx=>by cases hx),(fun _ _ _ b hb=>by cases hb),fun _ _=>rfl,(fun j b hb=>by simp at hb)⟩
 | [],_::_,g,k,hg,hl=>hl.elim
 |_::_,[],g,k,hg,hl=>hl.elim
 |l::ls,a::as,g,k,hg,hl=>by
  obtain⟨VS,u,hu,ha⟩:=hg 0 a rfl;obtain⟨b,us,o,hl,hb,Vt,Vv⟩:=K5 h VS ha hl;obtain⟨bs,vs,os,hl,hlen,Vw,UU,hbx2,UT,Vh,VV⟩:=Eb h (g:=fun j=>g (j+1)) (fun j b hj=>hg (j+1) b (by grind)) hl;split at hl
  ·rename_i UN
   have Wn:∀x∈us,x∉vs:=by intro x hx ZO;have:=gY.1 UN x hx;simp at this;exact this ZO
   refine⟨b::bs,us++vs,fun j=>match j with|0=>o|j+1=>os j,hl,by simp[hlen],by simp[Vw],?_,?_,?_,?_,?_⟩
   ·grind
   ·grind
   ·have cross:∀j,∀y∈o,y∉os j:=by
     intro j y hy Vq;obtain⟨r,jj,hm,h1⟩:=hb.2.2.1 y hy;by_cases hj:j<bs.length
     ·obtain⟨u',_,ht⟩:=VV j bs[j] (gK hj);obtain⟨r',dR,U5,VC⟩:=ht.2.2.1 y Vq;by_cases he:(r,jj)=(r',dR)
      ·exact Wn _ hm (by rw[he];exact U5)
      ·exact h.sep.Ar (.lf r jj) (.lf r' dR) (fun e=>he (by injection e with e1 e2;rw[e1,e2])) y h1 VC
     ·rw[Vh j (by omega)]at Vq;cases Vq
    grind
   ·grind
   ·intro j y hy;cases j with
    |zero=>
     simp at hy;subst hy;refine⟨u,hu,hb.1,hb.2.1,fun z hz=>?_,hb.2.2.2⟩;obtain⟨r,jj,hm,h1⟩:=hb.2.2.1 z hz;grind
    |succ j=>
     obtain⟨u',Tj,ht⟩:=VV j y (by simpa using hy);refine⟨u',Tj,ht.1,ht.2.1,fun z hz=>?_,ht.2.2.2⟩;obtain⟨r,jj,hm,h1⟩:=ht.2.2.1 z hz;grind
  ·exact hl.elim
end
end Go.Ev
namespace Go.Ev
section
variable {P:Program}{E:Cr}{s:St}{W:Wd}{o:Oper}{a:Act}{ws:List Wr}{cx:Cx}{v:Nat}{tm:Array Value}
theorem BV(h:AU E s a.tmps W){u:Value}{w':World}{W':Wd}{d:Nat}(hd:o.dst=some d)(Ti:(execOp a.eval o).run P W.w=.ok (.value u) w')(hw:W'.w=w')
  (hr:AU E (s.app ws) (a.tmps.setIfInBounds d u) W'):BZ P E o a W.w (s.app ws):=by
 intro next Q hn
 unfold Oper.wp;rw[Ti];show next (a.put o.dst u) w'
 rw[hd,←hw];exact hn _ W' rfl hr
theorem OS{us:List (Nat×Nat)}{d:Nat}:∀b,(W.fz b∨∃k,Kept us d k∧b∈W.om k)→W.w.heap[b]?=W.w.heap[b]?:=fun _ _=>rfl
theorem Ab(x:Value):(ofConst x).AG=[]:=by
 cases x with
 |slice A n c=>
  cases A with
  |none=>cases n with
   |zero=>cases c<;>rfl
   |succ n=>rfl
  |some a=>rfl
 |pointer A=>cases A<;>rfl
 |_=>rfl
theorem Fv(hv:Ac s v)(x:Operand):v∉(s.Aq x).AG:=by
 cases x with
 |tmp t=>exact hv.1 t
 |const c=>
  cases c with
  |agg cs=>
   show v∉(cs.toList.map ofConst).flatMap LA.AG;intro TW;obtain⟨b,hb,TW⟩:=gN.1 TW;obtain⟨y,_,rfl⟩:=hR.1 hb;rw[Ab]at TW;cases TW
  |bool b=>simp[St.Aq,AV.AG,Ab]
  |int k n=>simp[St.Aq,AV.AG,Ab]
  |float k n=>simp[St.Aq,AV.AG,Ab]
  |complex k x y=>simp[St.Aq,AV.AG,Ab]
  |string b=>simp[St.Aq,AV.AG,Ab]
  |pointer b=>simp[St.Aq,AV.AG,Ab]
  |slice b n c=>simp[St.Aq,AV.AG,Ab]
  |map r=>simp[St.Aq,AV.AG,Ab]
  |chan r=>simp[St.Aq,AV.AG,Ab]
  |func f x y=>simp[St.Aq,AV.AG,Ab]
  |nilFunc=>simp[St.Aq,AV.AG,Ab]
  |iface t x=>simp[St.Aq,AV.AG,Ab]
  |nilIface=>simp[St.Aq,AV.AG,Ab]
  |tuple vs=>simp[St.Aq,AV.AG,Ab]
 |global g=>simp[St.Aq,AV.AG,LA.AG]
 |func f=>simp[St.Aq,AV.AG,LA.AG]
theorem MW{x:AV}(h:v∉x.AG):v∉x.one?.AG:=by
 cases x with
 |Di vs=>simp[AV.one?,LA.AG]
 |bx as=>simp[AV.one?,LA.AG]
 |v g as=>
  cases g with
  |true=>simp[AV.one?,LA.AG]
  |false=>cases as with
   |nil=>simp[AV.one?,LA.AG]
   |cons b bs=>cases bs with
    |nil=>simpa[AV.one?,AV.AG]using h
    |cons=>simp[AV.one?,LA.AG]
theorem Ij(hv:Ac s v)(x:Operand):v∉(s.Aj x).AG:=MW (Fv hv x)
theorem Ld(h:AU E s a.tmps W)(hv:Ac s v){x:Operand}(ho:o.op=.assign x)(hd:∀d,o.dst=some d→d<a.tmps.size)(hl:(AB cx v o s).leads ws):BZ P E o a W.w (s.app ws):=by
 simp only[AB,ho]at hl;have Ti:(execOp a.eval o).run P W.w=.ok (.value (a.eval x)) W.w:=by simp[execOp,ho]
 have h1:=Ae h x;have VS:=Ij hv x;cases UG:o.dst with
 |none=>rw[UG]at hl;exact hl.elim
 |some d=>
  rw[UG]at hl;dsimp only at hl;generalize s.Aj x=p at hl h1 VS
  have val:∀y,AP s W y (a.eval x)→ws=[.slot d (one y)]→BZ P E o a W.w (s.app ws):=by intro y hy WD;subst WD;exact BV h UG Ti rfl (h.slot d (show BQ s W (one y) _ from hy))
  split at hl
  ·exact val _ h1 hl.symm
  ·exact val _ h1 hl.symm
  ·exact val _ h1 hl.symm
  ·exact val _ h1 hl.symm
  ·exact val _ h1 hl.symm
  ·exact val _ h1 hl.symm
  ·split at hl
   ·exact hl.elim
   ·split at hl
    ·rename_i ty VQ;split at hl
     ·rename_i l U4;obtain⟨b,us,oo,hl,hb,Vt,_⟩:=K5 h VS h1 hl;split at hl
      ·rename_i t e xs dd;have hl:_=ws:=hl;obtain⟨Tv,UU,UR,rfl,rfl,Tb⟩:=hb;obtain⟨W',UY,TY⟩:=h.CP hv us (hd d UG) (t0:=t) (w':=W.w) (fun b hb=>rfl) (fun b _ _=>rfl) (gk _) ⟨rfl,rfl,rfl⟩ Tb UU (fun b hb=>.inl (UR b hb));rw[hl]at TY;exact BV h UG Ti UY TY
      ·exact hl.elim
     ·exact hl.elim
    ·exact hl.elim
theorem Kb(h:AU E s a.tmps W)(hv:Ac s v){x:Operand}(ho:o.op=.move x)(hn:Hh (s.Aq x)=true)(hd:∀d,o.dst=some d→d<a.tmps.size)(hl:(AB cx v o s).leads ws):BZ P E o a W.w (s.app ws):=by
 simp only[AB,ho,hn,if_true]at hl
 have U0:a.eval x=.slice none 0 0:=by
  have h1:=A5 h x
  revert hn h1
  generalize s.Aq x=p;intro hn h1;unfold Hh at hn;split at hn
  ·exact h1
  ·cases hn
 split at hl
 ·rename_i ty d VQ UG;split at hl
  ·exact hl.elim
  ·split at hl
   ·rename_i t e U4;have hl:_=ws:=hl;obtain⟨W',UY,TY⟩:=h.CP hv [] (hd d UG) (t0:=t) (e:=e) (xs:=[]) (dd:=2) (u:=.slice none 0 0) (w':=W.w) (o:=[]) (fun b hb=>rfl) (fun b _ _=>rfl) (gk _) ⟨rfl,rfl,rfl⟩ Bj gR (fun b hb=>by cases hb);rw[←hl];exact BV h UG (by simp[execOp,ho,U0]) UY TY
   ·exact hl.elim
 ·exact hl.elim
theorem alloc_old(w:World)(x:Obj){b:Nat}(h:b<w.heap.size):(w.alloc x).heap[b]?=w.heap[b]?:=heap_alloc_old w x h
theorem Ap(w:World)(x:Obj):(w.alloc x).heap.size=w.heap.size+1:=by show(w.heap.push x).size=_;simp
theorem EZ(h:AU E s tm W)(x:Obj){us:List (Nat×Nat)}{d:Nat}:∀b,(W.fz b∨∃k,Kept us d k∧b∈W.om k)→(W.w.alloc x).heap[b]?=W.w.heap[b]?:=by
 intro b hb;refine alloc_old _ _ ?_;rcases hb with hb|⟨k,_,hb⟩
 ·exact(h.sep.fz b hb).1
 ·exact(h.sep.own k b hb).2.1
theorem AU.Hu(h:AU E s tm W)(hv:Ac s v){us:List (Nat×Nat)}{d:Nat}(hd:d<tm.size){bs:List LA}{cs:Array Value}{T:TypeId}{os:Nat→List Nat}
  (hlen:cs.size=bs.length) (VV:∀(j:Nat)(b:LA),bs[j]?=some b→∃u,cs[j]?=some u∧Iy s W v b u (os j) us) (UT:∀i j,i≠j→∀b∈os i,b∉os j) (Vh:∀j,bs.length≤j→os j=[]):
  ∃W',W'.w=W.w.alloc (.cells cs T)∧AU E (s.app (gone us++GI d v bs)) (tm.setIfInBounds d (.pointer (some ⟨W.w.heap.size,0,none⟩))) W':=by
 refine⟨AN W (W.w.alloc (.cells cs T)) us d (fun j=>cs[j]?) W.w.heap.size [W.w.heap.size] os,rfl,?_⟩
 have WV:∀j,j<bs.length→∃u,cs[j]?=some u∧Iy s W v (nth .bad bs j) u (os j) us:=by intro j hj;have:=VV j bs[j] (gK hj);rw[Af,gK hj];exact this
 have Uc:∀j,∀b∈os j,∃r k,(r,k)∈us∧b∈W.om (.lf r k):=by
  intro j b hb;by_cases hj:j<bs.length
  ·obtain⟨u,_,ht⟩:=WV j hj;exact ht.2.2.1 b hb
  ·grind
 have hold:∀j,∀b∈os j,b<W.w.heap.size:=by intro j b hb;obtain⟨r,k,_,h1⟩:=Uc j b hb;exact(h.sep.own _ b h1).2.1
 refine h.place hv hd rfl ?_ (EZ h _) (fun b hb _=>alloc_old _ _ (by have:=h.sep.size;omega)) (by rw[Ap];omega) ⟨rfl,rfl,rfl⟩ (gh.2 ⟨by simp,gR⟩) ?_ ?_ UT ?_ ?_ ?_
 ·intro j AA gen t e xs dd hl;by_cases hj:j<bs.length
  ·obtain⟨u,_,ht⟩:=WV j hj;dsimp only at hl;rw[hl]at ht;exact ht.2.2.2.1
  ·dsimp only at hl;rw[A3 LA.bad (iB hj)]at hl;cases hl
 ·intro j;by_cases hj:j<bs.length
  ·obtain⟨u,_,ht⟩:=WV j hj;exact ht.2.1
  grind
 ·grind
 ·intro b hb;rcases hb with hb|⟨j,hb⟩
  ·simp at hb;subst hb;exact .inr ⟨gk _,by rw[Ap];omega⟩
  grind
 ·intro T1 T4;refine⟨fun j=>?_,?_⟩
  ·have e1:(AN W (W.w.alloc (.cells cs T)) us d (fun j=>cs[j]?) W.w.heap.size [W.w.heap.size] os).cv d j=cs[j]?:=by simp[AN]
   have e2:(AN W (W.w.alloc (.cells cs T)) us d (fun j=>cs[j]?) W.w.heap.size [W.w.heap.size] os).om (.lf d j)=os j:=by simp[AN]
   rw[e1,e2];show Aa _ _ (nth LA.bad bs j) _ _;by_cases hj:j<bs.length
   ·obtain⟨u,hu,ht⟩:=WV j hj;obtain⟨_,_,_,ht⟩:=ht;generalize nth LA.bad bs j=b at ht;unfold Aa;cases b with
    |arr AA gen t e xs dd=>
     obtain⟨_,_,hr⟩:=ht;exact⟨u,hu,hr.frame (fun b hb=>alloc_old _ _ (hb.elim (hold j b) fun hb=>(h.sep.fz b hb).1)) fun b hb=>hb⟩
    |_=>exact⟨ht.1,fun u' Tj=>by rw[hu]at Tj;injection Tj with Tj;subst Tj;exact AP.DF T1 ht.2.2 ht.2.1⟩
   ·rw[A3 LA.bad (iB hj),Vh j (by omega)];exact⟨rfl,fun _ _=>trivial⟩
  ·show(if true=true then _ else _);rw[gS rfl];refine⟨by simp[AN],cs,T,(0,0),?_,by omega,hlen,fun j=>by simp[AN]⟩;have:(AN W (W.w.alloc (.cells cs T)) us d (fun j=>cs[j]?) W.w.heap.size [W.w.heap.size] os).bk d=W.w.heap.size:=by simp[AN]
   rw[this];exact heap_alloc_new _ _
 ·intro T1 T4;intro hb Te;have:(AN W (W.w.alloc (.cells cs T)) us d (fun j=>cs[j]?) W.w.heap.size [W.w.heap.size] os).bk d=W.w.heap.size:=by simp[AN]
  rw[this]
theorem A9:∀ls:Ls,ls.kinds.length=ls.n
 | .nil=>rfl
 | .one _=>rfl
 | .cons _ ls=>by simp[Ls.kinds,Ls.n,A9 ls]
theorem Es(l:L):Iy s W v (KI v l) (B7 l) [] []:=by
 cases l with
 |int k=>exact⟨rfl,gR,(fun b hb=>by cases hb),rfl,⟨rfl,rfl⟩,by simp[KI,LA.AG]⟩
 |bool=>exact⟨rfl,gR,(fun b hb=>by cases hb),rfl,⟨rfl,rfl⟩,by simp[KI,LA.AG]⟩
 |str=>exact⟨rfl,gR,(fun b hb=>by cases hb),rfl,⟨rfl,rfl⟩,by simp[KI,LA.AG]⟩
 |sl t e=>exact⟨rfl,gR,(fun b hb=>by cases hb),rfl,rfl,Bj⟩
theorem Kk(p:Bool)(l:L):Iy s W v (K8 p v l) (B7 l) [] []:=by
 cases p with
 |false=>exact Es l
 |true=>
  cases l with
  |sl t e=>exact⟨rfl,gR,(fun b hb=>by cases hb),rfl,rfl,by simp[K8,zeroOf,LA.AG]⟩
  |int k=>exact Es (.int k)
  |bool=>exact Es .bool
  |str=>exact Es .str
theorem MX(hc:DV P cx)(ZV:L0 P cx.env)(h:AU E s a.tmps W)(hv:Ac s v){t:TypeId}(ho:o.op=.alloc t)(hd:∀d,o.dst=some d→d<a.tmps.size)(hl:(AB cx v o s).leads ws):BZ P E o a W.w (s.app ws):=by
 simp only[AB,ho]at hl;split at hl
 ·rename_i ty d ht UG;have hl:_=ws:=hl;obtain⟨i,hi,Tt,z,hz,WH,_⟩:=(hc t ty ht).info
  obtain⟨W',UY,TY⟩:=h.Hu hv (us:=[]) (hd d UG) (bs:=ty.ls.kinds.map (K8 (cx.JS d) v)) (cs:=(ty.ls.kinds.map B7).toArray) (T:=t) (os:=fun _=>[]) (by simp)
   (fun j b hb=>by
    simp only[ga]at hb;cases hq:ty.ls.kinds[j]? with
    |none=>grind
    |some l=>
     rw[hq]at hb;injection hb with hb;subst hb
     exact⟨B7 l,by simp[hq],Kk _ l⟩) (fun i j _ b hb=>by cases hb) (fun _ _=>rfl)
  rw[←hl];refine BV h UG ?_ UY TY;simp[execOp,ho,Instr.alloc,zeroValue,typeInfo,hi,hz,newVar,newRow,WH]
 ·rename_i d ht UG;split at hl
  ·rename_i hf;have hl:_=ws:=hl;obtain⟨i,z,c,hi,Tt,hz,WH,UH⟩:=ZV t hf
   obtain⟨W',UY,TY⟩:=h.Hu hv (us:=[]) (hd d UG) (bs:=[.bad]) (cs := #[c]) (T:=t) (os:=fun _=>[]) rfl
    (fun j b hb=>by
     cases j with
     |zero=>simp at hb;subst hb;exact⟨c,rfl,UH,gR,(fun b hb=>by cases hb),rfl,trivial,by simp[LA.AG]⟩
     |succ j=>simp at hb) (fun i j _ b hb=>by cases hb) (fun _ _=>rfl)
   rw[←hl];refine BV h UG ?_ UY TY;simp[execOp,ho,Instr.alloc,zeroValue,typeInfo,hi,hz,newVar,newRow,WH]
  ·exact hl.elim
 ·exact hl.elim
theorem Iv{g:Bool}{as:List LA}{u:Value}(hu:Ey s W g as u)(UH:g=false→u.cells = #[u]):u.cells.size=as.length∧∀(j:Nat)(b:LA),as[j]?=some b→∃y,u.cells[j]?=some y∧AP s W b y:=by
 cases g with
 |true=>
  obtain⟨cs,rfl,Tt,Tp⟩:=hu;exact⟨Tt,Tp⟩
 |false=>
  have:=UH rfl;rw[this];cases as with
  |nil=>exact hu.elim
  |cons b bs=>cases bs with
   |cons=>exact hu.elim
   |nil=>
    refine⟨rfl,fun j y hy=>?_⟩;cases j with
    |zero=>simp at hy;subst hy;exact⟨u,rfl,hu⟩
    |succ j=>simp at hy
theorem AU.Le(h:AU E s tm W)(hv:Ac s v){d:Nat}{as:List LA}{cs:Array Value}{T:TypeId}(VS:v∉as.flatMap LA.AG)
  (has:∀(j:Nat)(b:LA),as[j]?=some b→∃u,cs[j]?=some u∧AP s W b u):
  ∃W',W'.w=W.w.alloc (.cells cs T)∧AU E (s.app [.slot d (.bx as)]) (tm.setIfInBounds d (.pointer (some ⟨W.w.heap.size,0,none⟩))) W':=by
 have hold:∀b,b<W.w.heap.size→(W.w.alloc (.cells cs T)).heap[b]?=W.w.heap[b]?:=fun b hb=>alloc_old _ _ hb
 have TY:AU E s tm { W with w:=W.w.alloc (.cells cs T),fz:=fun b=>W.fz b∨b=W.w.heap.size }:=by
  have T1:EE v s s W { W with w:=W.w.alloc (.cells cs T),fz:=fun b=>W.fz b∨b=W.w.heap.size }:={
   fz:=fun b hb=>.inl hb
   LQ:=fun b hb=>hold b (h.sep.fz b hb).1
   leaf:=fun r j AA gen t e xs dd hl Tf=>⟨rfl,gen,t,xs,dd,hl,fun _=>⟨rfl,fun p h' e' u UF hn=>by
    obtain⟨u0,UW,Th⟩:=(h.roots r).row hl;rw[UF]at UW;injection UW with UW;subst UW
    exact BI p Th hn fun b hb=>hold b (hb.elim (fun hb=>(h.sep.own _ b hb).2.1) fun hb=>(h.sep.fz b hb).1)⟩⟩
   box:=fun r hb Tf=>⟨hb,rfl,rfl⟩ }
  refine h.H0 hv T1 ?_ h.DG h.BW (fun t=>.inl ⟨rfl,rfl⟩) fun r=>?_
  ·have hs:=h.sep
   exact {
    nodup:=hs.nodup
    Ar:=hs.Ar
    own:=fun k b hb=>by obtain⟨a1,a2,a3⟩:=hs.own k b hb;grind
    fz:=fun b hb=>by
     rcases hb with hb|rfl
     ·obtain⟨a1,a2⟩:=hs.fz b hb;grind
     ·exact⟨by rw[Ap];omega,.inr (.inl hs.size)⟩
    frame:=fun b h1 h2=>(hold b (by have:=hs.size;omega)).trans (hs.frame b h1 h2)
    size:=by rw[Ap];exact Nat.le_succ_of_le hs.size
    rest:=hs.rest }
  ·obtain⟨h1,h2⟩:=h.roots r;refine⟨fun j=>?_,?_⟩
   ·exact Aa.DF T1 (by have:=hv.2.1 r j;exact this) (fun b hb=>hold b (h.sep.own _ b hb).2.1) (h1 j)
   grind
 refine⟨_,rfl,TY.slot d ?_⟩;refine⟨W.w.heap.size,0,cs,T,(0,0),rfl,.inr rfl,heap_alloc_new _ _,by omega,fun j b hb=>?_⟩;obtain⟨u,hu,UD⟩:=has j b hb;refine⟨u,by grind,?_⟩;refine AP.DF (v:=v) (s:=s) (W:=W) ?_ (fun TW=>VS (gN.2 ⟨b,gP hb,TW⟩)) UD
 exact {
   fz:=fun b hb=>.inl hb
   LQ:=fun b hb=>hold b (h.sep.fz b hb).1
   leaf:=fun r j AA gen t e xs dd hl Tf=>⟨rfl,gen,t,xs,dd,hl,fun _=>⟨rfl,fun p h' e' u UF hn=>by
    obtain⟨u0,UW,Th⟩:=(h.roots r).row hl;rw[UF]at UW;injection UW with UW;subst UW
    exact BI p Th hn fun b hb=>hold b (hb.elim (fun hb=>(h.sep.own _ b hb).2.1) fun hb=>(h.sep.fz b hb).1)⟩⟩
   box:=fun r hb Tf=>⟨hb,rfl,rfl⟩ }
theorem OH(hc:DV P cx)(h:AU E s a.tmps W)(hv:Ac s v){t:TypeId}{x:Operand}(ho:o.op=.box t x)(hd:∀d,o.dst=some d→d<a.tmps.size)(hl:(AB cx v o s).leads ws):BZ P E o a W.w (s.app ws):=by
 simp only[AB,ho]at hl;have h1:=A5 h x;have VS:=Fv hv x;generalize s.Aq x=p at hl h1 VS;split at hl
 ·rename_i ty d g as ht UG;split at hl
  ·rename_i Ye;simp only[gL]at Ye;obtain⟨hg,_⟩:=Ye;subst hg;have hl:_=ws:=hl;obtain⟨cs,Ve,Tt,Tp⟩:=h1;obtain⟨W',UY,TY⟩:=h.Le hv (d:=d) (as:=as) (cs:=cs) (T:=t) VS Tp;rw[←hl];refine BV h UG ?_ UY TY;simp[execOp,ho,Instr.box,newVar,newRow,Ve,Value.cells]
  let gg:Nat→Option Value:=fun j=>match g with|true=>(a.eval x).cells[j]?|false=>if j=0 then some (a.eval x)else none
  have XT:∀(j:Nat)(b:LA),as[j]?=some b→v∉b.AG∧∃u,gg j=some u∧AP s W b u:=by
   intro j b hb;refine⟨fun TW=>VS (gN.2 ⟨b,gP hb,TW⟩),?_⟩;cases g with
   |true=>obtain⟨cs,Ve,_,Tp⟩:=h1;obtain⟨u,hu,UD⟩:=Tp j b hb;exact⟨u,by simp only[gg,Ve];exact hu,UD⟩
   |false=>
    cases as with
    |nil=>exact h1.elim
    |cons b' bs=>cases bs with
     |cons=>exact h1.elim
     |nil=>cases j with
      |zero=>simp at hb;subst hb;exact⟨a.eval x,by simp[gg],h1⟩
      |succ j=>simp at hb
  obtain⟨bs,us,os,hl,hlen,Vw,UU,Vt,UT,Vh,VV⟩:=Eb (v:=v) h XT hl;split at hl
  ·have hl:_=ws:=hl
   have UH:g=false→(a.eval x).cells = #[a.eval x]:=by
    intro hg;subst hg;cases as with
    |nil=>exact h1.elim
    |cons b' Zi=>cases Zi with
     |cons=>exact h1.elim
     |nil=>
      match bs,hlen,VV with
      | [b],_,VV=>obtain⟨u,hu,ht⟩:=VV 0 b rfl;simp[gg]at hu;subst hu;exact Ej ht.1
   have Ve:=Iv h1 UH
   have hgc:∀j u,gg j=some u→(a.eval x).cells[j]?=some u:=by
    intro j u hj;cases g with
    |true=>exact hj
    |false=>
     grind
   obtain⟨W',UY,TY⟩:=h.Hu hv (us:=us) (hd d UG) (bs:=bs) (cs:=(a.eval x).cells) (T:=t) (os:=os) (by omega)
    (fun j b hb=>by grind) UT (fun j hj=>Vh j (by omega))
   rw[←hl];refine BV h UG ?_ UY TY;simp[execOp,ho,Instr.box,newVar,newRow]
  ·exact hl.elim
 ·exact hl.elim
end
end Go.Ev
namespace Go.Ev
def B5:List Value→Nat→Array Value→Array Value
 | [],_,arr=>arr
 |v::r,o,arr=>B5 r (o+1) (arr.setIfInBounds o v)
theorem Am:∀(vs:List Value)(o:Nat)(arr:Array Value),(B5 vs o arr).size=arr.size
 | [],_,_=>rfl
 |v::r,o,arr=>by rw[B5,Am r];simp
theorem CR:∀(vs:List Value)(o:Nat)(arr:Array Value),o+vs.length≤arr.size→∀k,(B5 vs o arr)[k]?=if o≤k∧k<o+vs.length then vs[k-o]? else arr[k]?
 | [],o,arr,h,k=>by rw[B5,gT (by simp)]
 |v::r,o,arr,h,k=>by simp only[iU]at h;rw[B5,CR r (o+1) _ (by simp;omega) k,h9];grind
structure M4(w w':World)(b:Nat)(Un:Array Value)(T:TypeId)(fr:Nat×Nat):Prop where
 here:w'.heap[b]?=some (.cells Un T fr)
 CG:∀c,c≠b→w'.heap[c]?=w.heap[c]?
 size:w'.heap.size=w.heap.size
 rest:w'.os=w.os∧w'.tape=w.tape∧w'.output=w.output
theorem Fz(b:Nat){T:TypeId}{fr:Nat×Nat}:∀(vs:List Value)(o:Nat)(w:World)(arr:Array Value),w.heap[b]?=some (.cells arr T fr)→M4 w (w.setCells b o vs) b (B5 vs o arr) T fr
 | [],o,w,arr,h=>⟨h,fun _ _=>rfl,rfl,rfl,rfl,rfl⟩
 |v::r,o,w,arr,h=>by
  have h1:(w.setCell ⟨b,o,none⟩ v).heap[b]?=some (.cells (arr.setIfInBounds o v) T fr):=by rw[setCell_eq_setRow w b o arr T fr v h];exact setRow_heap w b arr _ T fr h
  have ih:=Fz b r (o+1) _ _ h1;refine⟨ih.here,fun c hc=>(ih.CG c hc).trans ?_,ih.size.trans ?_,ih.rest⟩
  ·rw[setCell_eq_setRow w b o arr T fr v h];exact setRow_other w b c _ hc
  ·rw[setCell_eq_setRow w b o arr T fr v h];exact setRow_size w b _
theorem DT{P:Program}{w:World}{b o:Nat}{arr:Array Value}{T:TypeId}{fr:Nat×Nat}(vs:List Value)(h:w.heap[b]?=some (.cells arr T fr))(hb:∀j,j<arr.size→¬(fr.1≤j∧j<fr.2))(hl:o+vs.length≤arr.size)(h1:∀v∈vs,v.oneCell'=true):
  ∃w',(storeCells ⟨b,o,none⟩ vs).run P w=.ok () w'∧M4 w w' b (B5 vs o arr) T fr:=by
 refine⟨_,run_storeCells_cells b o vs 0 w ?_ ?_ h1,?_⟩
 ·intro j hj;simp only[World.cell?,h];simp;omega
 ·intro j hj;have:=hb (o+0+j) (by omega);obtain⟨lo,hi⟩:=fr;simp only[World.frozen?,h];grind
 ·exact Fz b vs o w arr h
theorem L.Df:∀(l:L) {d:Nat} {w:World} {fz:Nat→Prop} {v:Value} {x:l.D} {o:List Nat},l.rd d w fz v x o→v.oneCell'=true
 | .int _,_,_,_,_,_,_,h=>by rw[h.1];rfl
 | .bool,_,_,_,_,_,_,h=>by rw[h.1];rfl
 | .str,_,_,_,_,_,_,h=>by rw[h.1];rfl
 | .sl _ e,_,_,_,_,_,_,h=>by obtain⟨A,c,hv,_⟩:=h;rw[hv];rfl
theorem Ls.Kx:∀(e:Ls) {d:Nat} {w:World} {fz:Nat→Prop} {g:Nat→Option Value} {x:e.D} {o:List Nat},e.rd d w fz g x o→∀j,j<e.n→∃v,g j=some v∧v.oneCell'=true
 | .nil,_,_,_,_,_,_,h,j,hj=>by simp[Ls.n]at hj
 | .one l,_,_,_,_,_,_,h,j,hj=>by simp only[Ls.rd]at h;obtain⟨v,hg,h⟩:=h;simp[Ls.n]at hj;subst hj;exact⟨v,hg,L.Df l h⟩
 | .cons l ls,_,_,_,_,_,_,h,j,hj=>by
  simp only[Ls.rd]at h;obtain⟨v,o1,o2,hg,h1,h2,_⟩:=h;cases j with
  |zero=>exact⟨v,hg,L.Df l h1⟩
  |succ j=>exact Ls.Kx ls h2 j (by simp[Ls.n]at hj;omega)
theorem Ls.BD:∀(e:Ls) {d:Nat} {w:World} {fz:Nat→Prop} {g g':Nat→Option Value} {x:e.D} {o:List Nat},e.rd d w fz g x o→(∀j,j<e.n→g' j=g j)→e.rd d w fz g' x o
 | .nil,_,_,_,_,_,_,_,h,_=>h
 | .one l,_,_,_,_,_,_,_,h,hg=>by simp only[Ls.rd]at h ⊢;obtain⟨v,h0,h⟩:=h;exact⟨v,(hg 0 (by simp[Ls.n])).trans h0,h⟩
 | .cons l ls,_,_,_,_,_,_,_,h,hg=>by
  simp only[Ls.rd]at h ⊢;obtain⟨v,o1,o2,h0,h1,h2,ho⟩:=h;exact⟨v,o1,o2,(hg 0 (by simp[Ls.n])).trans h0,h1,Ls.BD ls h2 fun j hj=>hg (j+1) (by simp[Ls.n];omega),ho⟩
theorem L.AZ:∀(l:L) {d d':Nat} {w w':World} {fz TZ:Nat→Prop} {v:Value} {x:l.D} {o:List Nat},Bp l=false→l.rd d w fz v x o→l.rd d' w' TZ v x o∧o=[]
 | .int _,_,_,_,_,_,_,_,_,_,_,h=>⟨h,h.2⟩
 | .bool,_,_,_,_,_,_,_,_,_,_,h=>⟨h,h.2⟩
 | .str,_,_,_,_,_,_,_,_,_,_,h=>⟨h,h.2⟩
 | .sl _ e,_,_,_,_,_,_,_,_,_,hs,h=>by simp[Bp]at hs
theorem Ls.AZ:∀(e:Ls) {d d':Nat} {w w':World} {fz TZ:Nat→Prop} {g:Nat→Option Value} {x:e.D} {o:List Nat},Bo e=true→e.rd d w fz g x o→e.rd d' w' TZ g x o∧o=[]
 | .nil,_,_,_,_,_,_,_,_,_,_,h=>⟨h,h⟩
 | .one l,_,_,_,_,_,_,_,_,_,hs,h=>by simp only[Ls.rd]at h ⊢;obtain⟨v,h0,h⟩:=h;simp[Bo]at hs;obtain⟨a,b⟩:=L.AZ l hs h;exact⟨⟨v,h0,a⟩,b⟩
 | .cons l ls,_,_,_,_,_,_,_,_,_,hs,h=>by simp only[Ls.rd]at h ⊢;obtain⟨v,o1,o2,h0,h1,h2,ho⟩:=h;simp[Bo]at hs;obtain⟨a,b⟩:=L.AZ l hs.1 h1;obtain⟨a',b'⟩:=Ls.AZ ls hs.2 h2;exact⟨⟨v,o1,o2,h0,a,a',ho⟩,by grind⟩
def Bx(e:Ls)(d:Nat)(w:World)(fz:Nat→Prop)(g:Nat→Option Value)(xs:List e.D)(os:Nat→List Nat):Prop:=
 ∀i (h:i<xs.length),e.rd d w fz (fun j=>g (i*e.n+j)) xs[i] (os i)
section
variable {e:Ls}{d:Nat}{w w':World}{fz TZ:Nat→Prop}{g g':Nat→Option Value}{xs ys:List e.D}{os UP:Nat→List Nat}
theorem KX{i n j m:Nat}(hi:i<m)(hj:j<n):i*n+j<m*n:=by have:(i+1)*n≤m*n:=gy n hi;grind
theorem Bx.cell(h:Bx e d w fz g xs os)(k:Nat)(hk:k<xs.length*e.n):∃v,g k=some v∧v.oneCell'=true:=by
 have hn:0<e.n:=by
             rcases Nat.eq_zero_or_pos e.n with h0|h0;· rw[h0]at hk;simp at hk
             ·exact h0
 have hi:k / e.n<xs.length:=Nat.div_lt_of_lt_mul (by rwa[Nat.mul_comm]at hk);obtain⟨v,hv,h1⟩:=Ls.Kx e (h _ hi) (k%e.n) (Nat.mod_lt _ hn);have:k / e.n*e.n+k%e.n=k:=Nat.div_add_mod' _ _;grind
theorem Bx.congr(h:Bx e d w fz g xs os)(hg:∀k,k<xs.length*e.n→g' k=g k):Bx e d w fz g' xs os:=
 fun i hi=>Ls.BD e (h i hi) fun j hj=>hg _ (KX hi hj)
theorem Bx.frame(h:Bx e d w fz g xs os)(hf:∀b,(∃i,i<xs.length∧b∈os i)∨fz b→w'.heap[b]?=w.heap[b]?)(hz:∀b,fz b→TZ b):Bx e d w' TZ g xs os:=
 fun i hi=>Ls.AI e (h i hi) (fun b hb=>hf b (hb.imp (fun hb=>⟨i,hi,hb⟩) id)) hz
theorem Bx.flat(hf:Bo e=true)(h:Bx e d w fz g xs os)(d':Nat)(w':World)(TZ:Nat→Prop):Bx e d' w' TZ g xs fun _=>[]:=fun i hi=>by obtain⟨a,b⟩:=Ls.AZ e hf (h i hi) (d':=d') (w':=w') (TZ:=TZ);grind
theorem Bx.append(h1:Bx e d w fz g xs os)(h2:Bx e d w fz (fun k=>g (xs.length*e.n+k)) ys UP):Bx e d w fz g (xs++ys) fun i=>if i<xs.length then os i else UP (i-xs.length):=by
 intro i hi;by_cases h:i<xs.length
 ·simp only[gS h];rw[List.getElem_append_left h];exact h1 i h
 ·simp only[gT h];rw[List.getElem_append_right (iB h)];have:=h2 (i-xs.length) (by grind);refine Ls.BD e this fun j hj=>?_;show g (i*e.n+j)=g (xs.length*e.n+((i-xs.length)*e.n+j));congr 1;have:i*e.n=xs.length*e.n+(i-xs.length)*e.n:=by rw[←gw];congr 1;omega
  omega
theorem E5{ad:Addr}{arr:Array Value}{T:TypeId}{fr:Nat×Nat}{c:Nat}(hh:w.heap[ad.block]?=some (.cells arr T fr))(hs:ad.spot=none)(hb:∀j,j<arr.size→¬(fr.1≤j∧j<fr.2))
  (hc:ad.off+c*e.n≤arr.size) (hl:xs.length≤c) (Tr:Bx e 2 w fz (fun k=>arr[ad.off+k]?) xs os):
  AD e 2 w fz (.slice (some ad) xs.length c) xs (ad.block::(List.range xs.length).flatMap os):=
 ⟨some ad,c,rfl,hl,.inr ⟨fun k=>arr[ad.off+k]?,os,⟨hs,arr,T,fr,hh,hc,fun _=>hb,fun j=>rfl⟩,Tr,rfl⟩⟩
theorem AD.KK{v:Value}{o:List Nat}(h:AD e d w fz v xs o):∃A c,v=.slice A xs.length c∧xs.length≤c∧(A=none→c=0∧o=[])∧
  ∀ad,A=some ad→(0<c∨0<d)→∃arr T fr os,ad.spot=none∧w.heap[ad.block]?=some (.cells arr T fr)∧ad.off+c*e.n≤arr.size∧(0<d→∀j,j<arr.size→¬(fr.1≤j∧j<fr.2))∧
   Bx e (dec d) w fz (fun k=>arr[ad.off+k]?) xs os∧(0<d→o=ad.block::(List.range xs.length).flatMap os)∧(d=0→fz ad.block∧∀i,i<xs.length→os i=[]):=by
 obtain⟨A,c,hv,hc,h⟩:=h;refine⟨A,c,hv,hc,?_,?_⟩
 ·grind
 ·intro ad hA WC;subst hA;rcases h with h|⟨g,os,⟨hs,arr,T,fr,hh,hn,hb,hg⟩,Tr,ho⟩
  ·obtain⟨h1,h2,_⟩:=h;have h1:¬0<d:=by simpa using h1
   omega
  refine⟨arr,T,fr,os,hs,hh,hn,fun hd=>hb (by simpa using hd),?_,?_,?_⟩
  ·intro i hi;refine Ls.BD e (Tr i hi) fun j _=>(hg _).symm
  all_goals grind
def BS(g:Nat→Option Value)(m:Nat):List Value:=(List.range m).map fun j=>(g j).getD Go.undef
theorem AL(g:Nat→Option Value)(m:Nat):(BS g m).length=m:=by simp[BS]
theorem Bc{m:Nat}(h:∀k,k<m→∃v,g k=some v∧v.oneCell'=true)(k:Nat)(hk:k<m):(BS g m)[k]?=g k:=by obtain⟨v,hv,_⟩:=h k hk;simp[BS,hk,hv]
theorem FG{m:Nat}(h:∀k,k<m→∃v,g k=some v∧v.oneCell'=true):∀v∈BS g m,v.oneCell'=true:=by intro v hv;obtain⟨k,hk,rfl⟩:=hR.1 hv;grind
end
theorem L.F5:∀(l:L) {d:Nat} {w:World} {fz:Nat→Prop},l.rd d w fz (B7 l) (K9 l) []
 | .int _,_,_,_=>⟨rfl,rfl⟩
 | .bool,_,_,_=>⟨rfl,rfl⟩
 | .str,_,_,_=>⟨rfl,rfl⟩
 | .sl _ e,_,_,_=>Bj
theorem Ls.F5:∀(e:Ls) {d:Nat} {w:World} {fz:Nat→Prop} {g:Nat→Option Value},(∀j,j<e.n→g j=(e.kinds.map B7)[j]?)→e.rd d w fz g (FV e) []
 | .nil,_,_,_,_,_=>rfl
 | .one l,_,_,_,_,hg=>by simp only[Ls.rd];exact⟨B7 l,(hg 0 (by simp[Ls.n])).trans rfl,L.F5 l⟩
 | .cons l ls,_,_,_,_,hg=>by
  simp only[Ls.rd];exact⟨B7 l,[],[],(hg 0 (by simp[Ls.n])).trans rfl,L.F5 l,Ls.F5 ls fun j hj=>(hg (j+1) (by simp[Ls.n];omega)).trans (by simp[Ls.kinds]),rfl⟩
end Go.Ev
