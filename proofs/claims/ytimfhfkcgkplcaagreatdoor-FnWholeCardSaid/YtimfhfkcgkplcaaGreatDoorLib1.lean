/- Evaluator. Conditions: none. -/
import Derived.Calls
import Derived.Orders
import Derived.Below
import Derived.Sort.Defs
import Derived.Laws.Rows
import Derived.Laws.Small
import Derived.Laws.StructEq
import Derived.Laws.Concat
import Derived.Laws.IdiomCopy
import Derived.Deep.MidRow
import Derived.Tactics
import Derived.WalkKit
import Derived.Laws.Cover3
import Derived.Laws.MakeOwn
import Derived.Laws.Append
set_option linter.all false
namespace Go.Ev
theorem ADj{p:Prop}(h:p:=by simpa using h2):p:=h
theorem ADi{p:Prop}(h:p:=by simpa using hl):p:=h
theorem ADh{p:Prop}(h:p:=by simpa using h1):p:=h
theorem ADg{p:Prop}(h:p:=by simpa using he):p:=h
theorem ADf{p:Prop}(h:p:=by simpa using hy):p:=h
theorem ADe{p:Prop}(h:p:=by have:=h.sep.size;omega):p:=h
theorem ADd{p:Prop}(h:p:=by simp at hl):p:=h
theorem ADc{p:Prop}(h:p:=by simpa using hc):p:=h
theorem ADb{p:Prop}(h:p:=by simp at hj):p:=h
theorem ADa{p:Prop}(h:p:=by simp at hp):p:=h
theorem ADZ{p:Prop}(h:p:=by simpa using hlen):p:=h
theorem ADY{p:Prop}(h:p:=by assumption):p:=h
theorem ADX{p:Prop}(h:p:=by simp at hlen):p:=h
theorem ADW{p:Prop}(h:p:=by simpa using hj):p:=h
theorem ADV{p:Prop}(h:p:=by simpa using hm):p:=h
theorem ADS{p:Prop}(h:p:=by clear hn hB;omega):p:=h
theorem ADR{p:Prop}(h:p:=by simpa using hi):p:=h
theorem ADQ{p:Prop}(h:p:=by simpa using h):p:=h
theorem ADP{p:Prop}(h:p:=by decide):p:=h
theorem ADO{p:Prop}(h:p:=by simp at h):p:=h
theorem ADJ{p:Prop}(h:p:=by simp;omega):p:=h
theorem ADI{p:Prop}(h:p:=by clear hn;omega):p:=h
theorem OF{p:Prop}(h:p:=by simp):p:=h
theorem No{p:Prop}(h:p:=by grind):p:=h
theorem J{p:Prop}(h:p:=by omega):p:=h
abbrev By:=List Int
abbrev Is:=List Nat
abbrev ADD:=List UInt8
abbrev ADM:=List Value
abbrev ADT:=List Bool
theorem AAI:type_of% @List.getElem?_eq_getElem:=@List.getElem?_eq_getElem
theorem AAJ:type_of% @Bool.and_eq_true:=@Bool.and_eq_true
theorem AAK:type_of% @List.getElem?_eq_some_iff:=@List.getElem?_eq_some_iff
theorem AAL:type_of% @List.mem_flatMap:=@List.mem_flatMap
theorem AAM:type_of% @List.mem_cons_of_mem:=@List.mem_cons_of_mem
theorem AAN:type_of% @List.mem_of_getElem?:=@List.mem_of_getElem?
theorem AAO:type_of% @List.eq_nil_of_length_eq_zero:=@List.eq_nil_of_length_eq_zero
theorem AAP:type_of% @if_pos:=@if_pos
theorem AAQ:type_of% @if_neg:=@if_neg
theorem AAR:type_of% @List.mem_append_right:=@List.mem_append_right
theorem AAS:type_of% @List.nodup_nil:=@List.nodup_nil
theorem AAT:type_of% @beq_iff_eq:=@beq_iff_eq
theorem AAU:type_of% @List.mem_append_left:=@List.mem_append_left
theorem AAV:type_of% @Bool.not_eq_true':=@Bool.not_eq_true'
theorem AAW:type_of% @List.all_eq_true:=@List.all_eq_true
theorem AAX:type_of% @List.mem_range:=@List.mem_range
theorem AAY:type_of% @List.nodup_append:=@List.nodup_append
theorem AAZ:type_of% @List.getElem?_map:=@List.getElem?_map
theorem AAa:type_of% @Nat.zero_add:=@Nat.zero_add
theorem AAb:type_of% @Nat.le_refl:=@Nat.le_refl
theorem AAc:type_of% @List.nodup_cons:=@List.nodup_cons
theorem AAd:type_of% @Bool.or_eq_true:=@Bool.or_eq_true
theorem AAe:type_of% @decide_eq_true_eq:=@decide_eq_true_eq
theorem AAf:type_of% @List.mem_cons:=@List.mem_cons
theorem AAg:type_of% @Array.getElem?_eq_getElem:=@Array.getElem?_eq_getElem
theorem AAh:type_of% @List.flatten_cons:=@List.flatten_cons
theorem AAi:type_of% @Array.getD_eq_getD_getElem?:=@Array.getD_eq_getD_getElem?
theorem AAj:type_of% @Bool.or_eq_false_iff:=@Bool.or_eq_false_iff
theorem AAk:type_of% @List.mem_cons_self:=@List.mem_cons_self
theorem AAl:type_of% @Classical.byContradiction:=@Classical.byContradiction
theorem AAm:type_of% @List.flatMap_cons:=@List.flatMap_cons
theorem AAn:type_of% @decide_eq_false_iff_not:=@decide_eq_false_iff_not
theorem AAo:type_of% @Nat.mul_le_mul_right:=@Nat.mul_le_mul_right
theorem AAp:type_of% @Nat.add_mul:=@Nat.add_mul
theorem AAq:type_of% @Nat.lt_or_ge:=@Nat.lt_or_ge
theorem AAr:type_of% @List.getElem?_of_mem:=@List.getElem?_of_mem
theorem AAs:type_of% @List.mem_map:=@List.mem_map
theorem AAt:type_of% @Array.getElem?_append_left:=@Array.getElem?_append_left
theorem AAu:type_of% @of_decide_eq_true:=@of_decide_eq_true
theorem AAv:type_of% @List.nil_append:=@List.nil_append
theorem AAw:type_of% @Array.getElem?_setIfInBounds:=@Array.getElem?_setIfInBounds
theorem AAx:type_of% @Nat.add_zero:=@Nat.add_zero
theorem AAy:type_of% @Nat.le_of_not_lt:=@Nat.le_of_not_lt
theorem AAz:type_of% @Array.getElem?_eq_some_iff:=@Array.getElem?_eq_some_iff
theorem AA0:type_of% @Option.map_some:=@Option.map_some
theorem AA1:type_of% @List.append_nil:=@List.append_nil
theorem AA2:type_of% @Nat.le_trans:=@Nat.le_trans
theorem AA3:type_of% @List.getElem?_cons_succ:=@List.getElem?_cons_succ
theorem AA4:type_of% @List.drop_left:=@List.drop_left
theorem AA5:type_of% @List.any_eq_true:=@List.any_eq_true
theorem AA6:type_of% @Nat.lt_of_lt_of_le:=@Nat.lt_of_lt_of_le
theorem AA7:type_of% @Option.getD_some:=@Option.getD_some
theorem AA8:type_of% @List.cons_append:=@List.cons_append
theorem AA9:type_of% @List.getElem?_append_left:=@List.getElem?_append_left
theorem ABA:type_of% @List.length_append:=@List.length_append
theorem ABB:type_of% @Option.bind_eq_some_iff:=@Option.bind_eq_some_iff
theorem ABC:type_of% @Classical.not_not:=@Classical.not_not
theorem ABD:type_of% @List.length_cons:=@List.length_cons
theorem ABE:type_of% @List.map_cons:=@List.map_cons
theorem ABF:type_of% @Array.toArray_toList:=@Array.toArray_toList
theorem ABG:type_of% @List.mem_append:=@List.mem_append
theorem ABH:type_of% @Nat.lt_or_gt_of_ne:=@Nat.lt_or_gt_of_ne
theorem ABI:type_of% @List.mem_singleton:=@List.mem_singleton
theorem ABJ:type_of% @List.getElem?_append_right:=@List.getElem?_append_right
theorem ABK:type_of% @Bool.false_eq_true:=@Bool.false_eq_true
theorem ABL:type_of% @List.pairwise_iff_getElem:=@List.pairwise_iff_getElem
theorem ABM:type_of% @Nat.one_mul:=@Nat.one_mul
theorem ABN:type_of% @List.size_toArray:=@List.size_toArray
theorem ABO:type_of% @Array.size_append:=@Array.size_append
theorem ABP:type_of% @Array.toList_map:=@Array.toList_map
mutual
inductive L where
 |int (k:IntKind)
 |bool
 |str
 |sl (t:TypeId) (e:Ls)
inductive Ls where
 |nil
 |one (l:L)
 |cons (l:L) (ls:Ls)
end
mutual
def L.D:L->Type
 | .int _=>Int
 | .bool=>Bool
 | .str=>ADD
 | .sl _ e=>List e.D
def Ls.D:Ls->Type
 | .nil=>Unit
 | .one l=>l.D
 | .cons l ls=>l.D×ls.D
end
def Ls.n:Ls->Nat
 | .nil=>0
 | .one _=>1
 | .cons _ ls=>ls.n+1
def IntKind.code:IntKind->Nat
 | .i8=>0 | .i16=>1 | .i32=>2 | .i64=>3 | .u8=>4 | .u16=>5 | .u32=>6 | .u64=>7
theorem IntKind.EA{a b:IntKind}(h:IntKind.code a=IntKind.code b):a=b:=by cases a<;>cases b<;>first|rfl|cases h
mutual
def L.eq?:(a b:L)->Bool
 | .int j,.int k=>IntKind.code j==IntKind.code k
 | .bool,.bool=>true
 | .str,.str=>true
 | .sl t e,.sl u f=>t==u&&Ls.eq? e f
 |_,_=>false
def Ls.eq?:(a b:Ls)->Bool
 | .nil,.nil=>true
 | .one a,.one b=>L.eq? a b
 | .cons a as,.cons b bs=>L.eq? a b&&Ls.eq? as bs
 |_,_=>false
end
mutual
theorem L.Dd:∀ {a b:L},L.eq? a b=true->a=b
 | .int _,.int _,h=>by simp[L.eq?]at h;rw[IntKind.EA h]
 | .bool,.bool,_=>rfl
 | .str,.str,_=>rfl
 | .sl t e,.sl u f,h=>by simp[L.eq?]at h;rw[h.1,Ls.Dd h.2]
 | .int _,.bool,h | .int _,.str,h | .int _,.sl ..,h | .bool,.int _,h | .bool,.str,h | .bool,.sl ..,h | .str,.int _,h | .str,.bool,h | .str,.sl ..,h | .sl ..,.int _,h | .sl ..,.bool,h | .sl ..,.str,h=>by simp[L.eq?]at h
theorem Ls.Dd:∀ {a b:Ls},Ls.eq? a b=true->a=b
 | .nil,.nil,_=>rfl
 | .one _,.one _,h=>by simp[Ls.eq?]at h;rw[L.Dd h]
 | .cons _ _,.cons _ _,h=>by simp[Ls.eq?]at h;rw[L.Dd h.1,Ls.Dd h.2]
 | .nil,.one _,h | .nil,.cons ..,h | .one _,.nil,h | .one _,.cons ..,h | .cons ..,.nil,h | .cons ..,.one _,h=>by simp[Ls.eq?]at h
end
structure Lv where
 l:L
 x:l.D
def L.cast{a:L}(b:L)(x:a.D):Option b.D:=if h:L.eq? a b=true then some (L.Dd h▸x)else none
def Ls.cast{a:Ls}(b:Ls)(x:a.D):Option b.D:=if h:Ls.eq? a b=true then some (Ls.Dd h▸x)else none
theorem L.AH{a b:L}{x:a.D}{y:b.D}(h:L.cast b x=some y):∃e:a=b,e▸x=y:=by
 unfold L.cast at h;split at h
 ·rename_i e;exact⟨L.Dd e,by injection h⟩
 ·cases h
theorem Ls.AH{a b:Ls}{x:a.D}{y:b.D}(h:Ls.cast b x=some y):∃e:a=b,e▸x=y:=by
 unfold Ls.cast at h;split at h
 ·rename_i e;exact⟨Ls.Dd e,by injection h⟩
 ·cases h
def pack:(ls:Ls)->List Lv->Option ls.D
 | .nil=>λvs=>match vs with
  | []=>some ()
  |_::_=>none
 | .one l=>λvs=>match vs with
  | []=>none
  |v::vs=>match vs with
   | []=>L.cast l v.x
   |_::_=>none
 | .cons l ls=>λvs=>match vs with
  | []=>none
  |v::vs=>match L.cast l v.x with
   |none=>none
   |some x=>match pack ls vs with
    |none=>none
    |some xs=>some (x,xs)
def unpack:(ls:Ls)->ls.D->List Lv
 | .nil,_=>[]
 | .one l,x=>[⟨l,x⟩]
 | .cons l ls,x=>⟨l,x.1⟩::unpack ls x.2
def Ls.kinds:Ls->List L
 | .nil=>[]
 | .one l=>[l]
 | .cons l ls=>l::ls.kinds
theorem CT:∀(ls:Ls)(x:ls.D),(unpack ls x).length=ls.n
 | .nil,_=>rfl
 | .one _,_=>rfl
 | .cons _ ls,x=>by simp[unpack,Ls.n,CT ls x.2]
theorem Ay:∀(ls:Ls)(vs:List Lv)(x:ls.D),pack ls vs=some x->unpack ls x=vs
 | .nil,[],_,_=>rfl
 | .nil,_::_,_,h=>by simp[pack]at h
 | .one l,[],_,h=>by simp[pack]at h
 | .one l,[v],x,h=>by
  simp only[pack]at h;obtain⟨l',y⟩:=v;obtain⟨e,he⟩:=L.AH h
  try dsimp only at e he
  subst e;subst he;rfl
 | .one l,_::_::_,_,h=>by simp[pack]at h
 | .cons l ls,[],_,h=>by simp[pack]at h
 | .cons l ls,v::vs,x,h=>by
  obtain⟨l',y⟩:=v;simp only[pack]at h;split at h
  ·cases h
  ·rename_i a ha;split at h
   ·cases h
   ·rename_i b hb;obtain⟨e,he⟩:=L.AH ha
    try dsimp only at e he
    subst e;subst he;injection h with h;subst h
    simp[unpack,Ay ls vs _ hb]
def Row(w:World)(a:Addr)(n:Nat)(bare:Bool)(g:Nat->Option Value):Prop:=
 a.spot=none/\∃arr T fr,w.heap[a.block]?=some (.cells arr T fr)/\a.off+n<=arr.size/\(bare=true->∀j,j<arr.size->¬(fr.1<=j/\j<fr.2))/\∀j,g j=arr[a.off+j]?
def B0{α:Type}(n:Nat)(R:(Nat->Option Value)->α->Is->Prop)(own:Bool)(w:World)(fz:Nat->Prop)(v:Value)(xs:List α)(o:Is):Prop:=
 ∃(A:Option Addr) (c:Nat),v=.slice A xs.length c/\xs.length<=c/\
  match A with
  |none=>c=0/\o=[]
  |some a=>(own=false/\c=0/\o=[])\/∃(g:Nat->Option Value) (os:Nat->Is),Row w a (c*n) own g/\(∀i (h:i<xs.length),R (λj=>g (i*n+j)) xs[i] (os i))/\
    match own with
    |true=>o=a.block::(List.range xs.length).flatMap os
    |false=>fz a.block/\o=[]/\∀i,i<xs.length->os i=[]
def dec:Nat->Nat
 |0=>0
 |1=>0
 |d+2=>d+2
mutual
def L.rd:(l:L)->Nat->World->(Nat->Prop)->Value->l.D->Is->Prop
 | .int k,_,_,_,v,x,o=>v=.int k x/\o=[]
 | .bool,_,_,_,v,x,o=>v=.bool x/\o=[]
 | .str,_,_,_,v,x,o=>v=.string ⟨x.toArray⟩/\o=[]
 | .sl _ e,d,w,fz,v,x,o=>B0 e.n (λg y o=>e.rd (dec d) w fz g y o) (decide (0<d)) w fz v x o
def Ls.rd:(ls:Ls)->Nat->World->(Nat->Prop)->(Nat->Option Value)->ls.D->Is->Prop
 | .nil,_,_,_,_,_,o=>o=[]
 | .one l,d,w,fz,g,x,o=>∃v,g 0=some v/\l.rd d w fz v x o
 | .cons l ls,d,w,fz,g,x,o=>∃v o1 o2,g 0=some v/\l.rd d w fz v x.1 o1/\ls.rd d w fz (λj=>g (j+1)) x.2 o2/\o=o1++o2
end
theorem L.Hu{t:TypeId}{e:Ls}{d:Nat}{w:World}{fz:Nat->Prop}{v:Value}{x:(L.sl t e).D}{o:Is}:
  (L.sl t e).rd d w fz v x o↔B0 (α:=e.D) e.n (λg y o=>e.rd (dec d) w fz g y o) (decide (0<d)) w fz v x o:=Iff.rfl
end Go.Ev
namespace Go.Ev
theorem Row.frame{w w':World}{a:Addr}{n:Nat}{bare:Bool}{g:Nat->Option Value}(h:Row w a n bare g)(e:w'.heap[a.block]?=w.heap[a.block]?):Row w' a n bare g:=by obtain⟨hs,arr,T,fr,hh,hn,hb,hg⟩:=h;exact⟨hs,arr,T,fr,e.trans hh,hn,hb,hg⟩
theorem Row.lt{w:World}{a:Addr}{n:Nat}{bare:Bool}{g:Nat->Option Value}(h:Row w a n bare g):a.block<w.heap.size:=by obtain⟨hs,arr,T,fr,hh,_⟩:=h;exact(AAz.1 hh).1
section
variable {α:Type}{n:Nat}{R R':(Nat->Option Value)->α->Is->Prop}{own:Bool}{w w':World}{fz uQ:Nat->Prop}{v:Value}{xs:List α}{o:Is}
theorem B0.imp(h:B0 n R own w fz v xs o)(hf:∀b,b∈o\/fz b->w'.heap[b]?=w.heap[b]?)(hz:∀b,fz b->uQ b)
  (hr:∀g x oi,(∀b∈oi,b∈o)->R g x oi->R' g x oi):B0 n R' own w' uQ v xs o:=by
 obtain⟨A,c,hv,hc,h⟩:=h;refine⟨A,c,hv,hc,?_⟩;cases A with
 |none=>exact h
 |some a=>
  rcases h with h|⟨g,os,uX,uk,ho⟩
  ·exact .inl h
  refine .inr ?_;cases own with
  |true=>
   refine⟨g,os,uX.frame (hf _ (.inl (by rw[ho];simp))),λi hi=>hr _ _ _ ?_ (uk i hi),ho⟩;intro b hb;rw[ho];exact AAM _ (AAL.2 ⟨i,AAX.2 hi,hb⟩)
  |false=>
   refine⟨g,os,uX.frame (hf _ (.inr ho.1)),λi hi=>hr _ _ _ ?_ (uk i hi),hz _ ho.1,ho.2⟩;intro b hb;rw[ho.2.2 i hi]at hb;cases hb
theorem B0.freeze(h:B0 n R own w fz v xs o)(hz:∀b,fz b\/b∈o->uQ b)(hr:∀g x oi,(∀b∈oi,b∈o)->R g x oi->R' g x []):B0 n R' false w uQ v xs []:=by
 obtain⟨A,c,hv,hc,h⟩:=h;refine⟨A,c,hv,hc,?_⟩;cases A with
 |none=>exact⟨h.1,rfl⟩
 |some a=>
  rcases h with h|⟨g,os,uX,uk,ho⟩
  ·exact .inl ⟨rfl,h.2.1,rfl⟩
  obtain⟨hs,arr,T,fr,hh,hn,hb,hg⟩:=uX;refine .inr ⟨g,λ_=>[],⟨hs,arr,T,fr,hh,hn,λh=>ADO,hg⟩,λi hi=>hr _ _ _ ?_ (uk i hi),hz _ ?_,rfl,λ_ _=>rfl⟩
  ·cases own with
   |true=>intro b hb;rw[ho];exact AAM _ (AAL.2 ⟨i,AAX.2 hi,hb⟩)
   |false=>intro b hb;rw[ho.2.2 i hi]at hb;cases hb
  ·cases own with
   |true=>right;rw[ho];simp
   |false=>exact .inl ho.1
theorem B0.zero(h:B0 n R false w fz v xs o):o=[]:=by
 obtain⟨A,c,hv,hc,h⟩:=h;cases A with
 |none=>exact h.2
 |some a=>
  rcases h with h|⟨g,os,uX,uk,ho⟩
  ·exact h.2.2
  ·exact ho.2.1
theorem B0.dep(h:B0 n R own w fz v xs o)(hr:∀g x oi,R g x oi->∀b∈oi,b<w.heap.size):∀b∈o,b<w.heap.size:=by
 obtain⟨A,c,hv,hc,h⟩:=h;cases A with
 |none=>rw[h.2];simp
 |some a=>
  rcases h with h|⟨g,os,uX,uk,ho⟩
  ·rw[h.2.2];simp
  cases own with
  |false=>rw[ho.2.1];simp
  |true=>
   intro b hb;rw[ho]at hb;rcases AAf.1 hb with rfl|hb
   ·exact uX.lt
   ·obtain⟨i,hi,hb⟩:=AAL.1 hb;exact hr _ _ _ (uk i (AAX.1 hi)) b hb
end
mutual
theorem L.AN:∀(l:L) {d:Nat} {w w':World} {fz uQ:Nat->Prop} {v:Value} {x:l.D} {o:Is},
  l.rd d w fz v x o->(∀b,b∈o\/fz b->w'.heap[b]?=w.heap[b]?)->(∀b,fz b->uQ b)->l.rd d w' uQ v x o
 | .int _,_,_,_,_,_,_,_,_,h,_,_=>h
 | .bool,_,_,_,_,_,_,_,_,h,_,_=>h
 | .str,_,_,_,_,_,_,_,_,h,_,_=>h
 | .sl _ e,d,w,w',fz,uQ,v,x,o,h,hf,hz=>by rw[L.Hu]at h ⊢;exact B0.imp h hf hz λg y oi ho hr=>Ls.AN e hr (λb hb=>hf b (hb.imp (ho b) id)) hz
theorem Ls.AN:∀(ls:Ls) {d:Nat} {w w':World} {fz uQ:Nat->Prop} {g:Nat->Option Value} {x:ls.D} {o:Is},
  ls.rd d w fz g x o->(∀b,b∈o\/fz b->w'.heap[b]?=w.heap[b]?)->(∀b,fz b->uQ b)->ls.rd d w' uQ g x o
 | .nil,_,_,_,_,_,_,_,_,h,_,_=>h
 | .one l,d,w,w',fz,uQ,g,x,o,h,hf,hz=>by simp only[Ls.rd]at h ⊢;obtain⟨v,hg,h⟩:=h;exact⟨v,hg,L.AN l h hf hz⟩
 | .cons l ls,d,w,w',fz,uQ,g,x,o,h,hf,hz=>by simp only[Ls.rd]at h ⊢;obtain⟨v,o1,o2,hg,h1,h2,rfl⟩:=h;exact⟨v,o1,o2,hg,L.AN l h1 (λb hb=>hf b (hb.imp (AAU _) id)) hz,Ls.AN ls h2 (λb hb=>hf b (hb.imp (AAR _) id)) hz,rfl⟩
end
mutual
theorem L.Cq:∀(l:L) {d:Nat} {w:World} {fz uQ:Nat->Prop} {v:Value} {x:l.D} {o:Is},
  l.rd d w fz v x o->(∀b,fz b\/b∈o->uQ b)->l.rd 0 w uQ v x []
 | .int _,_,_,_,_,_,_,_,h,_=>by simp only[L.rd]at h ⊢;exact⟨h.1,trivial⟩
 | .bool,_,_,_,_,_,_,_,h,_=>by simp only[L.rd]at h ⊢;exact⟨h.1,trivial⟩
 | .str,_,_,_,_,_,_,_,h,_=>by simp only[L.rd]at h ⊢;exact⟨h.1,trivial⟩
 | .sl _ e,d,w,fz,uQ,v,x,o,h,hz=>by rw[L.Hu]at h ⊢;exact B0.freeze h hz λg y oi ho hr=>Ls.Cq e hr λb hb=>hz b (hb.imp id (ho b))
theorem Ls.Cq:∀(ls:Ls) {d:Nat} {w:World} {fz uQ:Nat->Prop} {g:Nat->Option Value} {x:ls.D} {o:Is},
  ls.rd d w fz g x o->(∀b,fz b\/b∈o->uQ b)->ls.rd 0 w uQ g x []
 | .nil,_,_,_,_,_,_,_,_,_=>rfl
 | .one l,d,w,fz,uQ,g,x,o,h,hz=>by simp only[Ls.rd]at h ⊢;obtain⟨v,hg,h⟩:=h;exact⟨v,hg,L.Cq l h hz⟩
 | .cons l ls,d,w,fz,uQ,g,x,o,h,hz=>by simp only[Ls.rd]at h ⊢;obtain⟨v,o1,o2,hg,h1,h2,rfl⟩:=h;exact⟨v,[],[],hg,L.Cq l h1 (λb hb=>hz b (hb.imp id (AAU _))),Ls.Cq ls h2 (λb hb=>hz b (hb.imp id (AAR _))),rfl⟩
end
mutual
theorem L.DF:∀(l:L) {w:World} {fz:Nat->Prop} {v:Value} {x:l.D} {o:Is},l.rd 0 w fz v x o->o=[]
 | .int _,_,_,_,_,_,h=>h.2
 | .bool,_,_,_,_,_,h=>h.2
 | .str,_,_,_,_,_,h=>h.2
 | .sl _ e,w,fz,v,x,o,h=>by rw[L.Hu]at h;exact B0.zero h
theorem Ls.DF:∀(ls:Ls) {w:World} {fz:Nat->Prop} {g:Nat->Option Value} {x:ls.D} {o:Is},ls.rd 0 w fz g x o->o=[]
 | .nil,_,_,_,_,_,h=>h
 | .one l,w,fz,g,x,o,h=>by simp only[Ls.rd]at h;obtain⟨v,hg,h⟩:=h;exact L.DF l h
 | .cons l ls,w,fz,g,x,o,h=>by simp only[Ls.rd]at h;obtain⟨v,o1,o2,hg,h1,h2,rfl⟩:=h;rw[L.DF l h1,Ls.DF ls h2];rfl
end
mutual
theorem L.F8:∀(l:L) {d:Nat} {w:World} {fz:Nat->Prop} {v:Value} {x:l.D} {o:Is},l.rd d w fz v x o->∀b∈o,b<w.heap.size
 | .int _,_,_,_,_,_,_,h=>by simp only[L.rd]at h;rw[h.2];simp
 | .bool,_,_,_,_,_,_,h=>by simp only[L.rd]at h;rw[h.2];simp
 | .str,_,_,_,_,_,_,h=>by simp only[L.rd]at h;rw[h.2];simp
 | .sl _ e,d,w,fz,v,x,o,h=>by rw[L.Hu]at h;exact B0.dep h λg y oi hr=>Ls.F8 e hr
theorem Ls.F8:∀(ls:Ls) {d:Nat} {w:World} {fz:Nat->Prop} {g:Nat->Option Value} {x:ls.D} {o:Is},ls.rd d w fz g x o->∀b∈o,b<w.heap.size
 | .nil,_,_,_,_,_,_,h=>by simp only[Ls.rd]at h;rw[h];simp
 | .one l,d,w,fz,g,x,o,h=>by simp only[Ls.rd]at h;obtain⟨v,hg,h⟩:=h;exact L.F8 l h
 | .cons l ls,d,w,fz,g,x,o,h=>by
  simp only[Ls.rd]at h;obtain⟨v,o1,o2,hg,h1,h2,rfl⟩:=h;intro b hb;rcases ABG.1 hb with hb|hb
  ·exact L.F8 l h1 b hb
  ·exact Ls.F8 ls h2 b hb
end
def AE(e:Ls)(d:Nat)(w:World)(fz:Nat->Prop)(v:Value)(xs:List e.D)(o:Is):Prop:=
 B0 e.n (λg y o=>e.rd (dec d) w fz g y o) (decide (0<d)) w fz v xs o
theorem L.N4{t:TypeId}{e:Ls}{d:Nat}{w:World}{fz:Nat->Prop}{v:Value}{x:(L.sl t e).D}{o:Is}:
  (L.sl t e).rd d w fz v x o↔AE e d w fz v x o:=Iff.rfl
section
variable {e:Ls}{d:Nat}{w w':World}{fz uQ:Nat->Prop}{v:Value}{xs:List e.D}{o:Is}
theorem AE.frame(h:AE e d w fz v xs o)(hf:∀b,b∈o\/fz b->w'.heap[b]?=w.heap[b]?)(hz:∀b,fz b->uQ b):AE e d w' uQ v xs o:=L.AN (.sl 0 e) h hf hz
theorem AE.freeze(h:AE e d w fz v xs o)(hz:∀b,fz b\/b∈o->uQ b):AE e 0 w uQ v xs []:=L.Cq (.sl 0 e) h hz
theorem AE.zero(h:AE e 0 w fz v xs o):o=[]:=L.DF (.sl 0 e) h
theorem AE.dep(h:AE e d w fz v xs o):∀b∈o,b<w.heap.size:=L.F8 (.sl 0 e) h
end
end Go.Ev
namespace Go.Ev
structure Loc where
 r:Nat
 j:Nat
 AB:Nat
 gen:Nat
 p:List (Nat×Nat)
inductive LA where
 |bad
 |undef
 |CA
 |I8
 |sc (l:L) (x:l.D)
 |ref (c:Loc)
 |Dy (c:Loc) (lo hi:Nat)
 |ptr (r j AB:Nat)
 |Ba (c:Loc)
 |Ds (e:Ls) (x:e.D) (off:Nat)
 |fn (f:FuncId)
 |Iz (t:TypeId) (c:Loc)
 |D2 (g:FuncId) (ps qs:List (Nat×Nat))
 |arr (AB gen:Nat) (t:TypeId) (e:Ls) (xs:List e.D) (d:Nat)
inductive AV where
 |v (agg:Bool) (ls:List LA)
 |Da (vs:List (Bool×List LA))
 |bx (ls:List LA)
structure Bz where
 box:Bool
 AB:Nat
 ls:List LA
structure St where
 sl:List AV
 ro:List Bz
 Bd:Nat
def nth{α:Type}(d:α):List α->Nat->α
 | [],_=>d
 |x::_,0=>x
 |_::xs,n+1=>nth d xs n
def DL{α:Type}:List α->Nat->α->List α
 | [],_,_=>[]
 |_::xs,0,y=>y::xs
 |x::xs,n+1,y=>x::DL xs n y
def isNil{α:Type}:List α->Bool
 | []=>true
 |_::_=>false
def has(ms:Is)(t:Nat):Bool:=match ms with
 | []=>false
 |m::ms=>m==t||has ms t
def dead:Bz:=⟨false,0,[]⟩
def St.slot(s:St)(t:Nat):AV:=nth (.v false [.bad]) s.sl t
def St.root(s:St)(r:Nat):Bz:=nth dead s.ro r
def St.leaf(s:St)(r j:Nat):LA:=nth .bad (s.root r).ls j
inductive Wr where
 |slot (t:Nat) (a:AV)
 |root (r:Nat) (x:Bz)
 |leaf (r j:Nat) (a:LA)
def St.AG(s:St):Wr->St
 | .slot t a=>{ s with sl:=DL s.sl t a }
 | .root r x=>{ s with ro:=DL s.ro r x }
 | .leaf r j a=>{ s with ro:=DL s.ro r { s.root r with ls:=DL (s.root r).ls j a } }
def St.app(s:St):List Wr->St
 | []=>s
 |w::ws=>(s.AG w).app ws
inductive Step(β:Type) where
 |none
 |go (s:β)
 |Mm {α:Type} (m:Option α) (f:α->Step β)
 |iff (b:Bool) (x y:Step β)
def Step.run{β R:Type}(k:β->Option R):Step β->Option R
 | .none=>Option.none
 | .go s=>k s
 | .Mm m f=>m.bind λx=>(f x).run k
 | .iff b x y=>bif b then x.run k else y.run k
def Step.leads{β:Type}(t:β):Step β->Prop
 | .none=>False
 | .go s=>s=t
 | .Mm m f=>∃x,m=some x/\(f x).leads t
 | .iff b x y=>match b with
  |true=>x.leads t
  |false=>y.leads t
theorem Step.Cr{β R:Type}{k:β->Option R}{r:R}:∀(s:Step β),s.run k=some r->∃t,s.leads t/\k t=some r
 | .none,h=>by simp[Step.run]at h
 | .go s,h=>⟨s,rfl,h⟩
 | .Mm m f,h=>by
  simp only[Step.run]at h;cases m with
  |none=>simp at h
  |some x=>obtain⟨t,a,b⟩:=Step.Cr (f x) h;exact⟨t,⟨x,rfl,a⟩,b⟩
 | .iff b x y,h=>by
  simp only[Step.run]at h;cases b with
  |true=>obtain⟨t,a,b⟩:=Step.Cr x h;exact⟨t,a,b⟩
  |false=>obtain⟨t,a,b⟩:=Step.Cr y h;exact⟨t,a,b⟩
variable {β:Type}
structure Ty where
 agg:Bool
 ls:Ls
 fs:List (Nat×TypeId)
 eq:Bool
def Hm{α:Type}:List α->Nat->Option α
 | [],_=>none
 |x::_,0=>some x
 |_::xs,n+1=>Hm xs n
def Ej:List L->Ls
 | []=>.nil
 | [l]=>.one l
 |l::m::r=>.cons l (Ej (m::r))
inductive PM where
 |val (agg:Bool) (ls:List L)
 |box (ls:List (L×Nat))
 |row (agg:Bool) (ls:List (L×Nat))
 |fn (f:FuncId)
def PM.ins:PM->List L
 | .val _ ls=>ls
 | .box ls=>ls.map (·.1)
 | .row _ ls=>ls.map (·.1)
 | .fn _=>[]
def PM.outs:PM->List (L×Nat)
 | .val _ _=>[]
 | .box ls=>ls
 | .row _ ls=>ls
 | .fn _=>[]
structure Sm where
 ps:List PM
 rs:List (Bool×List (L×Nat))
def Sm.ins(s:Sm):Ls:=Ej (s.ps.flatMap PM.ins)
def Sm.Gg(s:Sm):List (L×Nat):=s.rs.flatMap (·.2)++s.ps.flatMap PM.outs
def Sm.outs(s:Sm):Ls:=Ej (s.Gg.map (·.1))
def Sm.mk?(s:Sm):Bool:=match s.rs with
 | [(false,_::_::_)]=>true
 |_=>false
def PM.isVal:PM->Bool
 | .val _ _=>true
 |_=>false
def Sm.plain(s:Sm):Bool:=s.ps.all PM.isVal&&s.Gg.all λp=>p.2==0
structure Ln where
 s:Sm
 f:s.ins.D->Option s.outs.D
inductive KC where
 |box (ls:List L)
 |D2 (g:FuncId) (bs:List (List L))
 |row
def KC.kinds:KC->List L
 | .box ls=>ls
 | .D2 _ bs=>bs.flatten
 | .row=>[]
structure OC where
 t:TypeId
 Iv:List KC
 lt:(Ej (Iv.flatMap KC.kinds)).D->Int->Int->Option Bool
structure Env where
 fn:FuncId->Option Ln
 PC:FuncId->FuncId->Option OC
 O0:TypeId->Bool
structure Cx where
 ty:TypeId->Option Ty
 env:Env
 lock:Nat->Bool
 Eu:Nat->Bool
 KU:Nat->Bool
def I4:(e:Ls)->Nat->e.D->((t:TypeId)->(f:Ls)->List f.D->Step β)->Step β
 | .nil,_,_,_=>.none
 | .one l,0,x,k=>match l,x with
  | .sl t f,xs=>k t f xs
  |_,_=>.none
 | .one _,_+1,_,_=>.none
 | .cons l ls,0,x,k=>match l,x with
  | .sl t f,xs=>k t f xs.1
  |_,_=>.none
 | .cons _ ls,j+1,x,k=>I4 ls j x.2 k
def OT(k:(t:TypeId)->(e:Ls)->List e.D->Nat->Step β):(p:List (Nat×Nat))->(t:TypeId)->(e:Ls)->List e.D->Nat->Step β
 | [],t,e,xs,d=>k t e xs d
 |(i,j)::p,_,e,xs,d=>.Mm (xs[i]?) λx=>I4 e j x λt f ys=>OT k p t f ys (dec d)
def St.content(s:St)(c:Loc)(k:(t:TypeId)->(e:Ls)->List e.D->Nat->Step β):Step β:=match s.leaf c.r c.j with
 | .arr AB gen t e xs d=>if AB==c.AB&&(isNil c.p||gen==c.gen)then OT k c.p t e xs d else .none
 |_=>.none
def Iy{α:Type}(xs:List α)(i:Int):Option α:=if 0<=i then xs[i.toNat]? else none
def Oi{α:Type}(xs:List α)(i:Int):Bool:=decide (0<=i)&&decide (i<xs.length)
def sub{α:Type}(xs:List α)(lo hi:Nat):List α:=(xs.drop lo).take (hi-lo)
def St.datum(s:St)(l:L)(a:LA)(k:l.D->Step β):Step β:=match a with
 | .sc m x=>match L.cast l (a:=m) x with
  |some y=>k y
  |none=>.none
 | .CA=>match l,k with
  | .sl _ _,k=>k []
  |_,_=>.none
 | .ref c=>s.content c λt e xs _=>match L.cast l (a:=.sl t e) xs with
  |some y=>k y
  |none=>.none
 | .Dy c lo hi=>s.content c λt e xs _=>match L.cast l (a:=.sl t e) (sub xs lo hi)with
  |some y=>k y
  |none=>.none
 |_=>.none
def St.data(s:St):List L->List LA->(List Lv->Step β)->Step β
 | [],[],k=>k []
 |l::ls,a::as,k=>s.datum l a λx=>s.data ls as λvs=>k (⟨l,x⟩::vs)
 |_,_,_=>.none
def Bh:(e:Ls)->Nat->List Lv->Option (e.D->e.D)
 | .nil=>λ_ _=>none
 | .one l=>λoff vs=>match off,vs with
  |0,[v]=>match L.cast l v.x with
   |some y=>some λ_=>y
   |none=>none
  |_,_=>none
 | .cons l ls=>λoff vs=>match off with
  |0=>match vs with
   | []=>none
   | [v]=>match L.cast l v.x with
    |some y=>some λx=>(y,x.2)
    |none=>none
   |v::u::vs=>match L.cast l v.x,Bh ls 0 (u::vs)with
    |some y,some f=>some λx=>(y,f x.2)
    |_,_=>none
  |off+1=>match Bh ls off vs with
   |some f=>some λx=>(x.1,f x.2)
   |none=>none
def EH:(e:Ls)->Nat->((t:TypeId)->(f:Ls)->Option (List f.D->List f.D))->Option (e.D->e.D)
 | .nil=>λ_ _=>none
 | .one l=>λj g=>match j with
  |0=>match l with
   | .sl t f=>g t f
   |_=>none
  |_+1=>none
 | .cons l ls=>λj g=>match j with
  |0=>match l with
   | .sl t f=>match g t f with
    |some h=>some λx=>(h x.1,x.2)
    |none=>none
   |_=>none
  |j+1=>match EH ls j g with
   |some h=>some λx=>(x.1,h x.2)
   |none=>none
def I6(vs:List Lv):(p:List (Nat×Nat))->(e:Ls)->Option (List e.D->List e.D)
 | [],_=>none
 |(i,j)::p,e=>match p with
  | []=>match(if j==0&&vs.length==e.n then pack e vs else none)with
   |some y=>some λxs=>DL xs i y
   |none=>match Bh e j vs with
    |some f=>some λxs=>xs.modify i f
    |none=>none
  |_::_=>match EH e j λ_ f=>I6 vs p f with
   |some h=>some λxs=>xs.modify i h
   |none=>none
def Jq(g:(t:TypeId)->(e:Ls)->Option (List e.D->List e.D)):(p:List (Nat×Nat))->(t:TypeId)->(e:Ls)->Option (List e.D->List e.D)
 | [],t,e=>g t e
 |(i,j)::p,_,e=>match EH e j λt f=>Jq g p t f with
  |some h=>some λxs=>xs.modify i h
  |none=>none
def N3(x:Lv)(t:TypeId)(e:Ls):Option (List e.D->List e.D):=match L.cast (a:=x.l) (.sl t e) x.x with
 |some y=>some λ_=>y
 |none=>none
def ofConst:Value->LA
 | .int k n=>.sc (.int k) (show Int from n)
 | .bool b=>.sc .bool (show Bool from b)
 | .string s=>.sc .str (show ADD from s.data.toList)
 | .slice none 0 0=>.CA
 | .pointer none=>.I8
 |_=>.bad
def St.Ar(s:St):Operand->AV
 | .tmp t=>s.slot t
 | .const (.agg cs)=>.v true (cs.toList.map ofConst)
 | .const v=>.v false [ofConst v]
 | .func f=>.v false [.fn f]
 | .global _=>.v false [.bad]
def AV.one?:AV->LA
 | .v false [a]=>a
 |_=>.bad
def St.Af(s:St)(x:Operand):LA:=(s.Ar x).one?
def Bg:L->Bool
 | .sl _ _=>true
 |_=>false
def B1:Ls->Bool
 | .nil=>true
 | .one l => !Bg l
 | .cons l ls => !Bg l&&B1 ls
def KB(v:Nat):L->LA
 | .int k=>.sc (.int k) (show Int from 0)
 | .bool=>.sc .bool (show Bool from false)
 | .str=>.sc .str (show ADD from [])
 | .sl t e=>.arr v v t e [] 2
def K1:(l:L)->l.D
 | .int _=>(0:Int)
 | .bool=>false
 | .str=>([]:ADD)
 | .sl _ e=>([]:List e.D)
def FG:(ls:Ls)->ls.D
 | .nil=>()
 | .one l=>K1 l
 | .cons l ls=>(K1 l,FG ls)
def St.take(cx:Cx)(s:St)(v:Nat)(a:LA)(l:L)(k:LA->List (Nat×Nat)->Step β):Step β:=match a with
 | .sc m x=>if L.eq? m l then k (.sc m x) []else .none
 | .CA=>match l with
  | .sl t e=>k (.arr v v t e [] 2) []
  |_=>.none
 | .ref c=>match s.leaf c.r c.j with
  | .arr AB _ t e xs d=>match d with
   |0=>s.content c λt e ys _=>if L.eq? l (.sl t e)then k (.sc (.sl t e) ys) []else .none
   |d+1=>if AB==c.AB&&isNil c.p && !cx.KU c.r&&L.eq? l (.sl t e)then k (.arr v v t e xs (d+1)) [(c.r,c.j)]else .none
  |_=>.none
 | .Dy c lo hi=>match s.leaf c.r c.j with
  | .arr AB _ t e xs d=>if AB==c.AB&&isNil c.p && !cx.KU c.r&&L.eq? l (.sl t e)then k (.arr v v t e (sub xs lo hi) d) [(c.r,c.j)]else .none
  |_=>.none
 | .ptr r j AB=>if(s.root r).box&&(s.root r).AB==AB then k (.ptr r j AB) []else .none
 | .fn f=>k (.fn f) []
 |_=>.none
def St.Fp(cx:Cx)(s:St)(v:Nat):List L->List LA->(List LA->List (Nat×Nat)->Step β)->Step β
 | [],[],k=>k [] []
 |l::ls,a::as,k=>s.take cx v a l λb us=>s.Fp cx v ls as λbs vs=>if us.all λu => !vs.contains u then k (b::bs) (us++vs)else .none
 |_,_,_=>.none
def gone(us:List (Nat×Nat)):List Wr:=us.map λu=>.leaf u.1 u.2 .bad
end Go.Ev
namespace Go.Ev
variable {β:Type}
def one(a:LA):AV:=.v false [a]
def ID(k:IntKind)(n:Int):AV:=one (.sc (.int k) (show Int from n))
def H3(b:Bool):AV:=one (.sc .bool (show Bool from b))
def Oo(s:ADD):AV:=one (.sc .str (show ADD from s))
def isZero:Operand->Bool
 | .const (.int _ n)=>n==0
 |_=>true
def OO(k:IntKind)(x y:Int):Int:=k.wrap (BitVec.ofInt k.bits x &&& BitVec.ofInt k.bits y).toNat
def PB(k:IntKind)(x y:Int):Int:=k.wrap (BitVec.ofInt k.bits x ||| BitVec.ofInt k.bits y).toNat
def Od(k:IntKind)(x y:Int):Int:=k.wrap (BitVec.ofInt k.bits x ^^^ BitVec.ofInt k.bits y).toNat
def N7(k:IntKind)(x y:Int):Int:=k.wrap (x*2 ^ (min y.toNat k.bits))
def N8(k:IntKind)(x y:Int):Int:=x.fdiv (2 ^ (min y.toNat k.bits))
def Lz(op:BinOp)(y:Operand)(i:IntKind)(a b:Int)(k:AV->Step β):Step β:=match op with
 | .quo=>if isZero y then .iff (b==0) .none (k (ID i (i.wrap (Int.tdiv a b))))else k (ID i (i.wrap (Int.tdiv a b)))
 | .rem=>if isZero y then .iff (b==0) .none (k (ID i (Int.tmod a b)))else k (ID i (Int.tmod a b))
 | .add=>k (ID i (i.wrap (a+b)))
 | .sub=>k (ID i (i.wrap (a-b)))
 | .mul=>k (ID i (i.wrap (a*b)))
 | .eql=>k (H3 (a==b))
 | .neq=>k (H3 (a != b))
 | .lss=>k (H3 (decide (a<b)))
 | .leq=>k (H3 (decide (a<=b)))
 | .gtr=>k (H3 (decide (a>b)))
 | .geq=>k (H3 (decide (a>=b)))
 | .and=>k (ID i (OO i a b))
 | .or=>k (ID i (PB i a b))
 | .xor=>k (ID i (Od i a b))
 | .shl=>.iff (decide (0<=b)) (k (ID i (N7 i a b))) .none
 | .shr=>.iff (decide (0<=b)) (k (ID i (N8 i a b))) .none
 |_=>.none
def Ni(op:BinOp)(a b:Bool)(k:AV->Step β):Step β:=match op with
 | .eql=>k (H3 (a==b))
 | .neq=>k (H3 (a != b))
 |_=>.none
def Nj(op:BinOp)(a b:ADD)(k:AV->Step β):Step β:=match op with
 | .eql=>k (H3 (a==b))
 | .neq=>k (H3 (!(a==b)))
 | .add=>.iff (decide (a.length+b.length<=4611686018427387904)) (k (Oo (a++b))) .none
 |_=>.none
def Gi(cx:Cx)(t:TypeId)(l:L):Bool:=match cx.ty t with
 |some ty => !ty.agg&&Ls.eq? ty.ls (.one l)
 |none=>false
def isRow(cx:Cx)(t:TypeId)(e:Ls):Bool:=match cx.ty t with
 |some ty => !ty.agg&&match ty.ls with
  | .one (.sl _ f)=>Ls.eq? f e
  |_=>false
 |none=>false
def Gq:BinOp->Bool
 | .shl=>true
 | .shr=>true
 |_=>false
def binop(isb:Bool)(op:BinOp)(y:Operand)(a b:LA)(k:AV->Step β):Step β:=match a,b with
 | .sc l a,.sc m b=>match l,a,m,b with
  | .int i,a,.int j,b=>if IntKind.code i==IntKind.code j||Gq op then Lz op y i a b k else .none
  | .bool,a,.bool,b=>if isb then Ni op a b k else .none
  | .str,a,.str,b=>Nj op a b k
  |_,_,_,_=>.none
 |_,_=>.none
def N6(l:L)(a b:LA):Option Bool:=match l with
 | .int k=>match a,b with
  | .sc (.int i) x,.sc (.int j) y=>if IntKind.code i==IntKind.code k&&IntKind.code j==IntKind.code k then some ((show Int from x)==(show Int from y))else none
  |_,_=>none
 | .bool=>match a,b with
  | .sc .bool x,.sc .bool y=>some ((show Bool from x)==(show Bool from y))
  |_,_=>none
 | .str=>match a,b with
  | .sc .str x,.sc .str y=>some ((show ADD from x)==(show ADD from y))
  |_,_=>none
 | .sl _ _=>none
def FL:List L->List LA->List LA->Option Bool
 | [],[],[]=>some true
 |l::ls,a::as,b::bs=>match N6 l a b,FL ls as bs with
  |some p,some q=>some (p&&q)
  |_,_=>none
 |_,_,_=>none
def Lr(cx:Cx)(op:BinOp)(tx:TypeId)(as bs:List LA)(k:AV->Step β):Step β:=match cx.ty tx with
 |some ty=>if ty.eq then match FL ty.ls.kinds as bs with
   |some q=>match op with
    | .eql=>k (H3 q)
    | .neq=>k (H3 (!q))
    |_=>.none
   |none=>.none
  else .none
 |none=>.none
def MK(cx:Cx)(op:BinOp)(tx:TypeId)(e:Ls)(xs:List e.D)(k:AV->Step β):Step β:=match op with
 | .neq=>if isRow cx tx e then .iff (isNil xs) .none (k (H3 true))else .none
 |_=>.none
def Nv(a:Int):Int:=0-a
def M8(a b:Int):Int:=bif decide (b<a)then b else a
def M7(a b:Int):Int:=bif decide (b>a)then b else a
def seen(r j:Nat)(a:LA):LA:=match a with
 | .arr AB _ _ _ _ _=>.ref ⟨r,j,AB,AB,[]⟩
 |b=>b
def As(r:Nat):Nat->List LA->List LA
 |_,[]=>[]
 |j,a::as=>seen r j a::As r (j+1) as
def H4(r j:Nat)(a:LA):LA:=match a with
 | .arr AB gen t e xs d=>match d with
  |0=>.sc (.sl t e) xs
  |_+1=>.ref ⟨r,j,AB,AB,[]⟩
 |b=>b
def BD(r:Nat):Nat->List LA->List LA
 |_,[]=>[]
 |j,a::as=>H4 r j a::BD r (j+1) as
def Be(c:Loc)(i:Nat)(d:Nat):Nat->List Lv->List LA
 |_,[]=>[]
 |off,v::vs=>(if Bg v.l&&decide (0<d)then LA.ref { c with p:=c.p++[(i,off)] }else .sc v.l v.x)::Be c i d (off+1) vs
def Ai:List (Nat×Nat)->Option (List (Nat×Nat)×Nat×Nat)
 | []=>none
 | [x]=>some ([],x.1,x.2)
 |x::y::r=>match Ai (y::r)with
  |some (q,i,off)=>some (x::q,i,off)
  |none=>none
def St.Jj(s:St)(r j:Nat):Nat:=match s.leaf r j with
 | .arr _ gen _ _ _ _=>gen
 |_=>0
def St.C4(s:St)(a:LA)(n:Nat)(k:List LA->Step β):Step β:=match a with
 | .ptr r j AB=>if(s.root r).box&&(s.root r).AB==AB&&decide (j+n<=(s.root r).ls.length)then k (BD r j (((s.root r).ls.drop j).take n))else .none
 | .Ds e x off=>k ((((unpack e x).drop off).take n).map λv=>.sc v.l v.x)
 | .Ba c=>match Ai c.p with
  |none=>.none
  |some (q,i,off)=>s.content { c with p:=q } λt e xs d=>.Mm (xs[i]?) λx=>k (Be { c with p:=q,gen:=s.Jj c.r c.j } i (dec d) off (((unpack e x).drop off).take n))
 |_=>.none
def St.E7(s:St)(a:AV)(n:Nat)(k:List LA->Step β):Step β:=match a with
 | .bx as=>if decide (n<=as.length)then k (as.take n)else .none
 |a=>s.C4 a.one? n k
def MB(s:St)(as:List LA):Bool:=as.any λa=>match a with
 | .ref c=>c.AB==1 && !(s.root c.r).box
 |_=>false
def St.alive(s:St):LA->Bool
 | .ptr r j AB=>(s.root r).box&&(s.root r).AB==AB
 | .Ba c=>match s.leaf c.r c.j with
  | .arr AB gen _ _ _ _=>AB==c.AB&&(decide (c.p.length<=1)||gen==c.gen)
  |_=>false
 | .Ds _ _ _=>true
 |_=>false
def St.setAt(s:St)(g:Nat)(c:Loc)(h:(e:Ls)->Option (List e.D->List e.D)):Option (List Wr):=match s.leaf c.r c.j with
 | .arr AB gen t e xs d=>if AB==c.AB&&(isNil c.p||gen==c.gen)then match h e with
   |some f=>some [.leaf c.r c.j (.arr AB g t e (f xs) d)]
   |none=>none
  else none
 |_=>none
def St.J3(s:St)(g:Nat)(c:Loc)(vs:List Lv):Option (List Wr):=match s.leaf c.r c.j with
 | .arr AB gen t e xs d=>if AB==c.AB&&(decide (c.p.length<=1)||gen==c.gen)&&decide (0<d)&&(decide (c.p.length<=1)||d==2)then match I6 vs c.p e with
   |some f=>some [.leaf c.r c.j (.arr AB g t e (f xs) d)]
   |none=>none
  else none
 |_=>none
def A3(r:Nat):Nat->List LA->List Wr
 |_,[]=>[]
 |j,a::as=>.leaf r j a::A3 r (j+1) as
def St.GC(cx:Cx)(s:St)(v:Nat)(a:LA)(ls:List L)(as:List LA)(k:List Wr->Step β):Step β:=match a with
 | .ptr r j AB=>if(s.root r).box&&(s.root r).AB==AB&&decide (j+ls.length<=(s.root r).ls.length)then s.Fp cx v ls as λbs us=>k (gone us++A3 r j bs)else .none
 | .Ba c=>if ls.all λl => !Bg l then s.data ls as λvs=>match s.J3 v c vs with
   |some ws=>k ws
   |none=>.none
  else match c.p with
   | [_]=>s.Fp cx v ls as λbs us=>if us.all λu => !(u.1==c.r&&u.2==c.j)then match bs.mapM λb=>match b with
      | .arr _ _ t e xs 2=>some (⟨.sl t e,xs⟩:Lv)
      | .sc l x=>if Bg l then none else some ⟨l,x⟩
      |_=>none with
     |some vs=>match s.leaf c.r c.j with
      | .arr AB _ t e xs 2=>if AB==c.AB then match I6 vs c.p e with
        |some f=>k (gone us++[.leaf c.r c.j (.arr AB v t e (f xs) 2)])
        |none=>.none
       else .none
      |_=>.none
     |none=>.none
    else .none
   |_=>.none
 |_=>.none
def A9:LA->LA
 | .arr AB gen t e xs _=>.arr AB gen t e xs 0
 |a=>a
def M3:LA->Bool
 | .arr _ _ _ _ _ (_+1)=>false
 |_=>true
def St.Bp(s:St)(r:Nat):Bool:=(s.root r).ls.all M3
def C0(s:St)(r:Nat):List Wr:=if s.Bp r then []else A3 r 0 ((s.root r).ls.map A9)
def Ao(cx:Cx)(s:St):Is->Option (List Wr)
 | []=>some []
 |r::rs=>if cx.KU r then none else match Ao cx s rs with
  |some ws=>some (C0 s r++ws)
  |none=>none
def Hk:List LA->Is
 | []=>[]
 | .ref c::as=>if isNil c.p then Hk as else c.r::Hk as
 |_::as=>Hk as
def MJ(q:LA)(as:List LA):Is:=match q with
 | .ptr _ _ _=>Hk as
 |_=>[]
def GB(cx:Cx)(v:Nat)(s:St)(dst:Option Tmp)(q:LA)(ls:List L)(as:List LA)(fs:List Wr):Step (List Wr):=s.GC cx v q ls as λws=>match dst with
 |none=>.go (fs++ws)
 |some _=>.none
def Nu(a:LA)(k:Int->Step β):Step β:=match a with
 | .sc l x=>match l,x with
  | .str,x=>k (List.length (α:=UInt8) x:Int)
  |_,_=>.none
 |_=>.none
def lenOf(s:St)(a:LA)(k:Int->Step β):Step β:=match a with
 | .sc l x=>match l,x with
  | .sl _ e,x=>k (List.length (α:=e.D) x:Int)
  |_,_=>.none
 | .CA=>k 0
 | .ref c=>s.content c λt e xs _=>k (xs.length:Int)
 | .Dy c lo hi=>s.content c λt e xs _=>k ((sub xs lo hi).length:Int)
 |_=>.none
def asInt(a:LA)(k:Int->Step β):Step β:=match a with
 | .sc l n=>match l,n with
  | .int _,n=>k n
  |_,_=>.none
 |_=>.none
def DP(s:St)(x:Option Operand)(d:Int)(k:Int->Step β):Step β:=match x with
 |none=>k d
 |some x=>asInt (s.Af x) k
def ownRow(d v:Nat)(t:TypeId)(e:Ls)(xs:List e.D):List Wr:=[.root d ⟨false,v,[.arr v v t e xs 2]⟩,.slot d (one (.ref ⟨d,0,v,v,[]⟩))]
def F7(d v:Nat)(ls:List LA):List Wr:=[.root d ⟨true,v,ls⟩,.slot d (one (.ptr d 0 v))]
def EI(cx:Cx)(s:St)(a:LA)(t:TypeId)(e:Ls)(k:List e.D->List (Nat×Nat)->Step β):Step β:=
 if B1 e then s.datum (.sl t e) a λys=>k ys []else match a with
  | .ref c=>match s.leaf c.r c.j with
   | .arr AB _ t' e' xs d=>if AB==c.AB&&isNil c.p && !cx.KU c.r&&d==2 then match L.cast (a:=.sl t' e') (.sl t e) xs with
     |some ys=>k ys [(c.r,c.j)]
     |none=>.none
    else .none
   |_=>.none
  |_=>.none
def E8:Nat:=68719476736
def Cv(cx:Cx)(s:St)(d v:Nat)(t:TypeId)(e:Ls)(a b:LA)(k:List Wr->Step β):Step β:=match a with
 | .CA=>EI cx s b t e λys us=>.iff (decide (ys.length<=E8)) (k (gone us++ownRow d v t e ys)) .none
 | .ref c=>match s.leaf c.r c.j with
  | .arr AB _ t' e' xs dd=>if AB==c.AB&&isNil c.p && !cx.KU c.r&&dd==2 then match L.cast (a:=.sl t' e') (.sl t e) xs with
    |some xs=>EI cx s b t e λys us=>if us.contains (c.r,c.j)then .none else .iff (decide (List.length (α:=e.D) xs+ys.length<=E8)) (k (gone ((c.r,c.j)::us)++ownRow d v t e (List.append (α:=e.D) xs ys))) .none
    |none=>.none
   else .none
  |_=>.none
 | .Dy c lo hi=>match s.leaf c.r c.j with
  | .arr AB _ t' e' xs dd=>if AB==c.AB&&isNil c.p && !cx.KU c.r&&dd==2&&B1 e then match L.cast (a:=.sl t' e') (.sl t e) xs with
    |some xs=>EI cx s b t e λys us=>if us.contains (c.r,c.j)then .none else .iff (decide ((sub (α:=e.D) xs lo hi).length+ys.length<=E8)) (k (gone ((c.r,c.j)::us)++ownRow d v t e (sub (α:=e.D) xs lo hi++ys))) .none
    |none=>.none
   else .none
  |_=>.none
 |_=>.none
def EP:List LA->Nat->List LA->List LA
 |ls,_,[]=>ls
 |ls,j,a::as=>EP (DL ls j a) (j+1) as
def St.sure(s:St):LA->Bool
 | .sc _ _=>true
 | .CA=>true
 | .I8=>true
 | .Ds _ _ _=>true
 | .fn _=>true
 | .ptr r j AB=>(s.root r).box&&(s.root r).AB==AB
 | .ref c=>match s.leaf c.r c.j with
  | .arr AB gen _ _ _ _=>AB==c.AB&&(isNil c.p||gen==c.gen)
  |_=>false
 | .Dy c _ _=>match s.leaf c.r c.j with
  | .arr AB gen _ _ _ _=>AB==c.AB&&(isNil c.p||gen==c.gen)
  |_=>false
 | .Ba c=>s.alive (.Ba c)
 |_=>false
def HU(cx:Cx)(s:St)(fs:List (Nat×TypeId)):List (Nat×Operand)->List LA->Option (List LA)
 | [],ls=>some ls
 |(i,x)::ps,ls=>match s.Ar x,Hm fs i with
  | .v g as,some (off,t)=>match cx.ty t with
   |some tf=>if as.length==tf.ls.n&&decide (off+tf.ls.n<=ls.length)&&(g||as.all s.sure)then HU cx s fs ps (EP ls off as)else none
   |none=>none
  |_,_=>none
def zeroOf(l:L):LA:=match l with
 | .sl _ _=>.CA
 |l=>.sc l (K1 l)
def K0(p:Bool)(v:Nat)(l:L):LA:=match p with
 |true=>zeroOf l
 |false=>KB v l
def CR(cx:Cx)(s:St)(v:Nat)(e:Ls):List (Nat×Operand)->Nat->(List e.D->List (Nat×Nat)->Step β)->Step β
 | [],_,k=>k [] []
 |(i,x)::ps,n,k=>if i==n then match s.Ar x with
   | .v _ as=>(if B1 e then s.data e.kinds as λvs=>match pack e vs with
     |some y=>CR cx s v e ps (n+1) λys us=>k (y::ys) us
     |none=>.none
    else s.Fp cx v e.kinds as λbs vs=>match bs.mapM λb=>match b with
      | .arr _ _ t e xs 2=>some (⟨.sl t e,xs⟩:Lv)
      | .sc l x=>if Bg l then none else some ⟨l,x⟩
      |_=>none with
     |some ws=>match pack e ws with
      |some y=>CR cx s v e ps (n+1) λys us=>if vs.all λu => !us.contains u then k (y::ys) (vs++us)else .none
      |none=>.none
     |none=>.none)
   |_=>.none
  else .none
def EC:List (L×Nat)->List LA->Bool
 | [],[]=>true
 |(l,m)::ls,a::as=>(match a with
  | .arr _ _ _ _ _ d=>d==m||(m==3&&d==2)
  | .sc _ _ => !Bg l||m==0
  |_=>false)&&EC ls as
 |_,_=>false
abbrev Tg:=Nat×Option Nat
abbrev ADU:=List Tg
def Tg.DR(a b:Tg):Bool:=a.1==b.1&&match a.2,b.2 with
 |some i,some j=>i==j
 |_,_=>true
def FW(rs:ADU)(a:Tg):Bool:=rs.any λb=>Tg.DR b a
def JI(s:St)(l:L)(d:Nat)(a:LA)(k:Lv->ADU->Step β):Step β:=match l with
 | .sl t e=>match a with
  | .ref c=>if d != 4&&(match s.leaf c.r c.j with
    | .arr _ _ _ _ _ dd=>dd==d&&(isNil c.p||d==2)
    |_=>false)then s.datum (.sl t e) (.ref c) λx=>k ⟨.sl t e,x⟩ [(c.r,some c.j)]else .none
  | .CA=>if d==4 then k ⟨.sl t e,([]:List e.D)⟩ []else .none
  |_=>.none
 |l=>s.datum l a λx=>k ⟨l,x⟩ []
def Eb(s:St):List (L×Nat)->List LA->(List Lv->ADU->Step β)->Step β
 | [],[],k=>k [] []
 |(l,d)::ls,a::as,k=>JI s l d a λx us=>Eb s ls as λy rs=>if us.any (FW rs)then .none else k (x::y) (us++rs)
 |_,_,_=>.none
def Ak(s:St):List PM->List AV->(List Lv->ADU->Step β)->Step β
 | [],[],k=>k [] []
 | .val g ls::ps,.v g' as::vs,k=>if g==g' then s.data ls as λx=>Ak s ps vs λy rs=>k (x++y) rs else .none
 | .box ls::ps,.v false [.ptr r 0 AB]::vs,k=>
  if(s.root r).box&&(s.root r).AB==AB&&EC ls (s.root r).ls then
   s.data (ls.map (·.1)) (As r 0 (s.root r).ls) λx=>Ak s ps vs λy rs=>if FW rs (r,none)then .none else k (x++y) ((r,none)::rs)
  else .none
 | .row g ls::ps,.v g' as::vs,k=>if g==g' then Eb s ls as λx us=>Ak s ps vs λy rs=>if us.any (FW rs)then .none else k (x++y) (us++rs)else .none
 | .fn f::ps,.v false [.fn g]::vs,k=>if f==g then Ak s ps vs k else .none
 |_,_,_=>.none
def LA.roots:LA->Is
 | .ref c=>[c.r]
 | .Dy c _ _=>[c.r]
 | .Ba c=>[c.r]
 | .ptr r _ _=>[r]
 | .Iz _ c=>[c.r]
 | .D2 _ ps qs=>ps.map (·.1)++qs.map (·.1)
 |_=>[]
def AV.roots:AV->Is
 | .v _ as=>as.flatMap LA.roots
 | .Da vs=>vs.flatMap λv=>v.2.flatMap LA.roots
 | .bx as=>as.flatMap LA.roots
def Ae:List PM->List AV->Is
 | .val _ _::ps,v::vs=>v.roots++Ae ps vs
 |_::ps,_::vs=>Ae ps vs
 |_,_=>[]
def JW(d v:Nat):List (L×Nat)->List Lv->Nat->Option (List LA×List LA×List Lv)
 | [],vs,_=>some ([],[],vs)
 |(l,m)::ls,vs,j=>match vs with
  | []=>none
  |⟨l',x⟩::vs=>match JW d v ls vs (j+1)with
    |some (as,rs,left)=>match l',x with
     | .sl t e,xs=>match m with
      |0=>some (.sc (.sl t e) xs::as,.bad::rs,left)
      |m+1=>some (.ref ⟨d,j,v,v,[]⟩::as,.arr v v t e xs (m+1)::rs,left)
     |l',x=>some (.sc l' x::as,.bad::rs,left)
    |none=>none
def Dl(d v:Nat):List (Bool×List (L×Nat))->List Lv->Nat->Option (List (Bool×List LA)×List LA×List Lv)
 | [],vs,_=>some ([],[],vs)
 |(g,ls)::rs,vs,j=>match JW d v ls vs j with
  |some (as,own,vs)=>match Dl d v rs vs (j+ls.length)with
   |some (bs,own',vs)=>some ((g,as)::bs,own++own',vs)
   |none=>none
  |none=>none
def BJ(v m:Nat)(x:Lv):LA:=match x with
 |⟨.sl t e,xs⟩=>match m with
  |0=>.sc (.sl t e) xs
  |m+1=>.arr v v t e xs (m+1)
 |⟨l,x⟩=>.sc l x
def AX(v:Nat):List (L×Nat)->List Lv->List LA
 |(_,m)::ls,x::xs=>BJ v m x::AX v ls xs
 |_,_=>[]
def CZ(a:LA)(v m:Nat)(x:Lv):LA:=match(bif m==3 then a else .bad)with
 | .arr AB _ t e _ d=>bif d==2 then(match L.cast (.sl t e) (a:=x.l) x.x with
  |some y=>.arr AB v t e y d
  |none=>BJ v m x)else BJ v m x
 |_=>BJ v m x
def AU(s:St)(r v:Nat):Nat->List (L×Nat)->List Lv->List LA
 |j,(_,m)::ls,x::xs=>CZ (s.leaf r j) v m x::AU s r v (j+1) ls xs
 |_,_,_=>[]
def putRow(s:St)(v:Nat):List (L×Nat)->List LA->List Lv->Option (List Wr)
 | [],[],_=>some []
 |(l,d)::ls,a::as,x::vs=>match putRow s v ls as vs with
  |some ws=>match l with
   | .sl _ _=>if d==4 then some ws else match a with
    | .ref c=>match s.leaf c.r c.j with
     | .arr AB _ t0 e0 xs0 d0=>match Jq (N3 x) c.p t0 e0 with
      |some f=>some (.leaf c.r c.j (.arr AB v t0 e0 (f xs0) d0)::ws)
      |none=>none
     |_=>none
    |_=>none
   |_=>some ws
  |none=>none
 |_,_,_=>none
def AT(s:St)(v:Nat):List PM->List AV->List Lv->Option (List Wr)
 | [],[],[]=>some []
 | .val _ _::ps,_::as,vs=>AT s v ps as vs
 | .fn _::ps,_::as,vs=>AT s v ps as vs
 | .box ls::ps,.v false [.ptr r 0 AB]::as,vs=>match AT s v ps as (vs.drop ls.length)with
  |some ws=>some (A3 r 0 (AU s r v 0 ls vs)++ws)
  |none=>none
 | .row _ ls::ps,.v _ bs::as,vs=>match putRow s v ls bs vs,AT s v ps as (vs.drop ls.length)with
  |some us,some ws=>some (us++ws)
  |_,_=>none
 |_,_,_=>none
def OR:L->Bool
 | .sl _ e=>B1 e
 |_=>true
def fresh(ls:List (L×Nat)):Bool:=ls.all λp => !Bg p.1||p.2==2||p.2==3||(p.2==1&&OR p.1)
def OX(lt:Int->Int->Option Bool)(x y:Int):Bool:=match lt x y with
 |some b=>b
 |none=>false
def Mg(lt:Int->Int->Option Bool)(xs:By):Option By:=
 bif decide (xs.length<=1)then some xs else bif decide (xs.length<=20)&&xs.all λx=>xs.all λy=>(lt x y).isSome then some (Go.Sort.insertionSort (OX lt) xs.toArray 0 xs.length).toList else none
def NX:LA->Bool
 | .arr _ _ _ _ _ _=>true
 | .sc _ _=>true
 |_=>false
def DA(s:St)(not:Nat):List (List L)->List (Nat×Nat)->(List Lv->Step β)->Step β
 | [],[],k=>k []
 |ls::bs,(r,AB)::ps,k=>if(s.root r).box&&(s.root r).AB==AB&&r != not&&(s.root r).ls.length==ls.length&&(s.root r).ls.all NX then
   s.data ls (As r 0 (s.root r).ls) λx=>DA s not bs ps λy=>k (x++y)
  else .none
 |_,_,_=>.none
def Bk(s:St)(c:Loc)(qs:List (Nat×Nat)):List KC->List (Nat×Nat)->(List Lv->Step β)->Step β
 | [],[],k=>k []
 | .box ls::cs,p::ps,k=>DA s c.r [ls] [p] λx=>Bk s c qs cs ps λy=>k (x++y)
 | .D2 g bs::cs,(r,AB)::ps,k=>match(s.root r).ls with
  | [.D2 g' zU _]=>if(s.root r).box&&(s.root r).AB==AB&&r != c.r&&g==g'&&zU.all λq=>qs.contains q then DA s c.r bs zU λx=>Bk s c qs cs ps λy=>k (x++y)else .none
  |_=>.none
 | .row::cs,(r,AB)::ps,k=>if(s.root r).box&&(s.root r).AB==AB&&r==c.r&&c.j==0&&(s.root r).ls.length==1 then Bk s c qs cs ps k else .none
 |_,_,_=>.none
def Dg(cx:Cx)(s:St)(d v:Nat)(f:FuncId)(vs:List AV)(k:List Wr->Step β):Step β:=match vs with
 | [.v false [.Iz t c],.v false [.D2 g ps qs]]=>match cx.env.PC f g with
  |some σ=>match s.leaf c.r c.j with
   | .arr AB _ t0 (.one (.int .i64)) xs 2=>if AB==c.AB&&isNil c.p && !cx.KU c.r&&t==σ.t then Bk s c qs σ.Iv ps λx=>match pack (Ej (σ.Iv.flatMap KC.kinds)) x with
     |some y=>.Mm (Mg (σ.lt y) (show By from xs)) λzs=>k [.leaf c.r c.j (.arr AB v t0 (.one (.int .i64)) (show By from zs) 2),.slot d (.Da [])]
     |none=>.none
    else .none
   |_=>.none
  |none=>.none
 |_=>.none
def DT(s:St):List AV->Option (List (Nat×Nat))
 | []=>some []
 | .v false [.ptr r 0 AB]::vs=>if(s.root r).box&&(s.root r).AB==AB then match DT s vs with
   |some ps=>some ((r,AB)::ps)
   |none=>none
  else none
 |_::_=>none
def behind(s:St):List (Nat×Nat)->List (Nat×Nat)
 | []=>[]
 |(r,_)::ps=>(match(s.root r).ls with
  | [.D2 _ qs _]=>qs
  |_=>[])++behind s ps
def Kb(bs:List (Bool×List LA)):AV:=match bs with
 | [(g,as)]=>.v g as
 |bs=>.Da bs
def call(cx:Cx)(s:St)(d v:Nat)(f:FuncId)(vs:List AV)(k:List Wr->Step β):Step β:=match cx.env.fn f with
 |none=>Dg cx s d v f vs k
 |some g=>if g.s.mk? then Ak s g.s.ps vs λx _=>if g.s.plain&&isNil (Ae g.s.ps vs)then match pack g.s.ins x with
   |none=>.none
   |some y=>.Mm (g.f y) λz=>k (F7 d v (AX v g.s.Gg (unpack g.s.outs z)))
  else .none
  else Ak s g.s.ps vs λx ws=>if(Ae g.s.ps vs).all λr => !FW ws (r,none)then match pack g.s.ins x with
   |none=>.none
   |some y=>.Mm (g.f y) λz=>match Dl d v g.s.rs (unpack g.s.outs z) 0 with
    |none=>.none
    |some (bs,own,left)=>match AT s v g.s.ps vs left,(if fresh g.s.Gg then some []else Ao cx s (Ae g.s.ps vs))with
     |some ws,some fs=>k (fs++ws++[.root d ⟨false,v,own⟩,.slot d (Kb bs)])
     |_,_=>.none
  else .none
def H7(cx:Cx)(s:St)(t:TypeId)(q:LA)(p:AV)(dst:Option Tmp):Step (List Wr):=match p with
 | .v false [.D2 g ps qs]=>if cx.env.O0 t then match q with
  | .ptr r j AB=>match dst with
   |none=>if(s.root r).box&&(s.root r).AB==AB&&decide (j+1<=(s.root r).ls.length)then .go [.leaf r j (.D2 g ps qs)]else .none
   |some _=>.none
  |_=>.none
 else .none
 |_=>.none
def Hg:AV->Bool
 | .v false [.CA]=>true
 |_=>false
def bytesOf(xs:By):ADD:=xs.map λn=>UInt8.ofNat n.toNat
def Ci(b:ADD):By:=b.map λc=>(c.toNat:Int)
def Ky(cx:Cx)(v:Nat)(dst:Option Tmp)(t0:TypeId)(y:LA):Step (List Wr):=match y,dst with
 | .sc .str b,some d=>if Gi cx t0 (.int .u8)then .go (ownRow d v t0 (.one (.int .u8)) (Ci b))else .none
 |_,_=>.none
def AA(cx:Cx)(v:Nat)(o:Oper)(s:St):Step (List Wr):=
 let out (a:AV):Step (List Wr):=match o.dst with
  |some d=>.go [.slot d a]
  |none=>.go []
 match o.op with
 | .move x=>if Hg (s.Ar x)then match cx.ty o.type,o.dst with
   |some ty,some d=>if ty.agg then .none else match ty.ls with
    | .one (.sl t e)=>.go (ownRow d v t e [])
    |_=>.none
   |_,_=>.none
  else out (s.Ar x)
 | .assign x=>match o.dst with
  |none=>.none
  |some d=>match s.Af x with
   | .sc l x=>.go [.slot d (one (.sc l x))]
   | .ptr r j AB=>.go [.slot d (one (.ptr r j AB))]
   | .fn f=>.go [.slot d (one (.fn f))]
   | .I8=>.go [.slot d (one .I8)]
   | .Ba c=>.go [.slot d (one (.Ba c))]
   | .Ds e x off=>.go [.slot d (one (.Ds e x off))]
   |a=>if cx.KU d then .none else match cx.ty o.type with
    |some ty=>match ty.ls with
     | .one l=>s.take cx v a l λb us=>match b with
      | .arr _ _ t e xs dd=>.go (gone us++[.root d ⟨false,v,[.arr v v t e xs dd]⟩,.slot d (one (.ref ⟨d,0,v,v,[]⟩))])
      |_=>.none
     |_=>.none
    |none=>.none
 | .pick c a b=>match s.Af c with
  | .sc .bool t=>.iff t (out (s.Ar a)) (out (s.Ar b))
  |_=>.none
 | .alloc t=>match cx.ty t,o.dst with
  |some ty,some d=>.go (F7 d v (ty.ls.kinds.map (K0 (cx.KU d) v)))
  |none,some d=>if cx.env.O0 t then .go (F7 d v [.bad])else .none
  |_,_=>.none
 | .box t x=>match cx.ty t,o.dst,s.Ar x with
  |some ty,some d,.v g as=>if g&&MB s as then .go [.slot d (.bx as)]else s.Fp cx v ty.ls.kinds as λbs us=>if us.all λu => !(u.1==d)then .go (gone us++F7 d v bs)else .none
  |_,_,_=>.none
 | .build t parts=>match cx.ty t with
  |some ty=>match(if ty.agg then HU cx s ty.fs parts.toList (ty.ls.kinds.map zeroOf)else none)with
   |some ls=>out (.v true ls)
   |none=>.none
  |none=>.none
 | .buildSlice t len parts=>match cx.ty t,o.dst with
  |some ty,some d=>if ty.agg then .none else match ty.ls with
   | .one (.sl t e)=>if len==parts.size&&decide (len*e.n<=16777216)then CR cx s v e parts.toList 0 (λys us=>if us.all λu => !(u.1==d)then .go (gone us++ownRow d v t e ys)else .none)else .none
   |_=>.none
  |_,_=>.none
 | .load t x=>match cx.ty t with
  |some ty=>s.E7 (s.Ar x) ty.ls.n λas=>if as.length==ty.ls.n then out (.v ty.agg as)else .none
  |none=>.none
 | .store t x y=>match cx.ty t,s.Ar y with
  |some ty,.v _ as=>match MJ (s.Af x) as with
   | []=>GB cx v s o.dst (s.Af x) ty.ls.kinds as []
   |r::rs=>match Ao cx s (r::rs)with
    |some fs=>GB cx v (s.app fs) o.dst (s.Af x) ty.ls.kinds as fs
    |none=>.none
  |none,p=>H7 cx s t (s.Af x) p o.dst
  |_,_=>.none
 | .makeInterface t x=>match cx.ty t,s.Af x with
  |some ty,.ref c=>if ty.agg then .none else match ty.ls with
   | .one (.sl _ _)=>out (one (.Iz t c))
   |_=>.none
  |_,_=>.none
 | .makeFunc (.func g) first captured=>if first.size==0 then match DT s (captured.toList.map s.Ar)with
   |some ps=>out (one (.D2 g ps (behind s ps)))
   |none=>.none
  else .none
 | .nilCheck x=>match s.Ar x with
  | .bx as=>out (.bx as)
  |a=>if s.alive a.one? then out (one a.one?)else .none
 | .binOp op tx x y _=>match s.Ar x,s.Ar y with
  | .v true as,.v true bs=>Lr cx op tx as bs λa=>out a
  | .v false [.sc (.sl t e) xs],.v false [.CA]=>MK cx op tx e xs λa=>out a
  |p,q=>binop (Gi cx tx .bool) op y p.one? q.one? λa=>out a
 | .unOp op _ x=>match op,s.Af x with
  | .not,.sc .bool b=>out (H3 (!b))
  | .neg,.sc (.int k) n=>out (ID k (k.wrap (Nv n)))
  |_,_=>.none
 | .convert a b x=>match cx.ty a,cx.ty b,s.Af x with
  |some ta,some ty,.sc (.int _) n=>if ty.agg then .none else match ty.ls with
   | .one (.int k)=>out (ID k (k.wrap n))
   |_=>.none
  |some ta,some ty,y=>if ta.agg||ty.agg then .none else match ta.ls,ty.ls with
   | .one (.sl t0 (.one (.int .u8))),.one .str=>if Gi cx t0 (.int .u8)then s.datum (.sl t0 (.one (.int .u8))) y λxs=>out (Oo (bytesOf xs))else .none
   | .one .str,.one (.sl t0 (.one (.int .u8)))=>Ky cx v o.dst t0 y
   |_,_=>.none
  |_,_,_=>.none
 | .makeSlice t l c=>match cx.ty t,o.dst with
  |some ty,some d=>if ty.agg then .none else match ty.ls with
   | .one (.sl t e)=>asInt (s.Af l) λn=>asInt (s.Af c) λm=>
     .iff (decide (0<=n)&&decide (n<=(E8:Int))&&decide (m=n)) (.go (ownRow d v t e (List.replicate n.toNat (FG e)))) .none
   |_=>.none
  |_,_=>.none
 | .slice ti x lo hi none=>match s.Af x with
  | .sc .str b=>if Gi cx ti .str then DP s lo 0 λl=>DP s hi (List.length (α:=UInt8) b:Int) λh=>
    .iff (decide (0<=l)&&decide (l<=h)&&decide (h<=(List.length (α:=UInt8) b:Int))) (out (Oo (sub (α:=UInt8) b l.toNat h.toNat))) .none
   else .none
  | .sc (.sl t e) b=>if isRow cx ti e then DP s lo 0 λl=>DP s hi (List.length (α:=e.D) b:Int) λh=>
    .iff (decide (0<=l)&&decide (l<=h)&&decide (h<=(List.length (α:=e.D) b:Int))) (out (one (.sc (.sl t e) (sub (α:=e.D) b l.toNat h.toNat)))) .none
   else .none
  | .ref c=>s.content c λt e xs _=>if isRow cx ti e then DP s lo 0 λl=>DP s hi (xs.length:Int) λh=>
    .iff (decide (0<=l)&&decide (l<=h)&&decide (h<=(xs.length:Int))) (out (one (.Dy c l.toNat h.toNat))) .none
   else .none
  |_=>.none
 | .fieldAddr t x f=>match cx.ty t with
  |some ty=>match(if ty.agg then Hm ty.fs f else none)with
   |some (fo,ft)=>match cx.ty ft with
    |some tf=>if tf.ls.n==0 then .none else match s.Ar x with
     | .bx as=>out (.bx (as.drop fo))
     |a=>if !s.alive a.one? then .none else match a.one? with
     | .ptr r j AB=>out (one (.ptr r (j+fo) AB))
     | .Ds e y j=>out (one (.Ds e y (j+fo)))
     | .Ba c=>match Ai c.p with
      |some (q,i,off)=>out (one (.Ba { c with p:=q++[(i,off+fo)] }))
      |none=>.none
     |_=>.none
    |none=>.none
   |none=>.none
  |none=>.none
 | .field t x f=>match cx.ty t,s.Ar x with
  |some ty,.v true as=>match(if ty.agg then Hm ty.fs f else none)with
   |some (fo,ft)=>match cx.ty ft with
    |some tf=>if decide (fo+tf.ls.n<=as.length)then out (.v tf.agg ((as.drop fo).take tf.ls.n))else .none
    |none=>.none
   |none=>.none
  |_,_=>.none
 | .indexAddr ti x i=>asInt (s.Af i) λn=>match s.Af x with
  | .sc (.sl t e) xs=>if isRow cx ti e then .Mm (Iy (α:=e.D) xs n) λy=>out (one (.Ds e y 0))else .none
  | .ref c=>s.content c λt e xs _=>if isRow cx ti e then .iff (Oi xs n) (out (one (.Ba { c with p:=c.p++[(n.toNat,0)] }))) .none else .none
  | .Dy c lo hi=>s.content c λt e xs _=>if isRow cx ti e then .iff (Oi (sub xs lo hi) n) (out (one (.Ba { c with p:=c.p++[(lo+n.toNat,0)] }))) .none else .none
  |_=>.none
 | .index ti x i=>asInt (s.Af i) λn=>match s.Af x with
  | .sc .str b=>if Gi cx ti .str then .Mm (Iy (α:=UInt8) b n) λy=>out (ID .u8 (y.toNat:Int))else .none
  |_=>.none
 | .extract x i=>match s.Ar x with
  | .Da vs=>match Hm vs i with
   |some (g,as)=>out (.v g as)
   |none=>.none
  |_=>.none
 | .call c=>match c.callee with
  | .builtin .len=>match c.args.toList,c.argTypes.toList with
   | [x],[t]=>match cx.ty t with
    |some ty=>if ty.agg then .none else match ty.ls with
     | .one .str=>Nu (s.Af x) λn=>out (ID .i64 n)
     | .one (.sl _ _)=>lenOf s (s.Af x) λn=>out (ID .i64 n)
     |_=>.none
    |none=>.none
   |_,_=>.none
  | .builtin .append=>match c.args.toList,c.argTypes.toList,cx.ty o.type,o.dst with
   | [x,y],[t1,t2],some ty,some d=>match ty.ls with
    | .one (.sl t e)=>if t1==t2&&isRow cx t1 e then Cv cx s d v t e (s.Af x) (s.Af y) λws=>.go ws else .none
    |_=>.none
   |_,_,_,_=>.none
  | .builtin .min=>match c.args.toList with
   | [x,y]=>match s.Af x,s.Af y with
    | .sc (.int k) a,.sc (.int j) b=>out (ID k (M8 a b))
    |_,_=>.none
   |_=>.none
  | .builtin .max=>match c.args.toList with
   | [x,y]=>match s.Af x,s.Af y with
    | .sc (.int k) a,.sc (.int j) b=>out (ID k (M7 a b))
    |_,_=>.none
   |_=>.none
  | .value f=>match s.Af f,o.dst with
   | .fn f,some d=>call cx s d v f (c.args.toList.map s.Ar) λws=>.go ws
   |_,_=>.none
  |_=>.none
 |_=>.none
end Go.Ev
namespace Go.Ev
variable {β:Type}
def number{α:Type}:Nat->List α->List (Nat×α)
 |_,[]=>[]
 |n,x::xs=>(n,x)::number (n+1) xs
inductive VP where
 |slot (s:Nat) (l:L)
 |own (s:Nat) (t:TypeId) (e:Ls) (d:Nat) (k:Bool)
 |box (r:Nat) (ls:List (Option (L×Nat)))
def VP.kinds:VP->List L
 | .slot _ l=>[l]
 | .own _ t e _ _=>[.sl t e]
 | .box _ ls=>ls.filterMap λx=>x.map (·.1)
def VP.roots:VP->Is
 | .slot _ _=>[]
 | .own s _ _ _ _=>[s]
 | .box r _=>[r]
def VP.AM:VP->Is
 | .slot s _=>[s]
 | .own s _ _ _ _=>[s]
 | .box _ _=>[]
def C6(ps:List VP):Ls:=Ej (ps.flatMap VP.kinds)
def Df(s:St):List (Option (L×Nat))->List LA->(List Lv->Step β)->Step β
 | [],[],k=>k []
 |none::ls,_::as,k=>Df s ls as k
 |some (l,d)::ls,a::as,k=>match a with
  | .arr AB _ t e xs d'=>if(d==0||d==d')&&(!(d==3)||AB==1)then match L.cast (a:=.sl t e) l xs with
    |some y=>Df s ls as λvs=>k (⟨l,y⟩::vs)
    |none=>.none
   else .none
  |a=>match d with
   |0=>s.datum l a λy=>Df s ls as λvs=>k (⟨l,y⟩::vs)
   |_+1=>match l with
    | .sl _ _=>.none
    |l=>s.datum l a λy=>Df s ls as λvs=>k (⟨l,y⟩::vs)
 |_,_,_=>.none
def St.still(s:St)(l:L)(a:LA):Bool:=match l with
 | .sl _ _=>match a with
  | .sc _ _=>true
  | .CA=>true
  | .ref c=>match s.leaf c.r c.j with
   | .arr _ _ _ _ _ 0=>true
   |_=>false
  | .Dy c _ _=>match s.leaf c.r c.j with
   | .arr _ _ _ _ _ 0=>true
   |_=>false
  |_=>false
 |_=>true
def Jy(s:St)(v:VP)(k:List Lv->Step β):Step β:=match v with
 | .slot t l=>if s.still l (s.slot t).one? then s.datum l (s.slot t).one? λx=>k [⟨l,x⟩]else .none
 | .own t ty e d k0=>match s.slot t,s.root t with
  | .v false [.ref c],⟨false,_,[.arr AB _ t' e' xs d']⟩=>if c.r==t&&c.j==0&&isNil c.p&&AB==c.AB&&d==d'&&(!k0||AB==1)then match L.cast (a:=.sl t' e') (.sl ty e) xs with
    |some y=>k [⟨.sl ty e,y⟩]
    |none=>.none
   else .none
  |_,_=>.none
 | .box r ls=>if(s.root r).box then Df s ls (s.root r).ls k else .none
def Km(s:St):List VP->(List Lv->Step β)->Step β
 | [],k=>k []
 |v::vs,k=>Jy s v λx=>Km s vs λy=>k (x++y)
def Al(ps:List VP)(s:St):Option (C6 ps).D:=(Km s ps .go).run (pack (C6 ps))
def FB(v:Nat)(k:Bool):Nat:=match k with
 |true=>1
 |false=>v
def Bx(v d:Nat)(k:Bool)(x:Lv):LA:=match BJ v d x with
 | .arr _ g t e xs d=>.arr (FB v k) g t e xs d
 |a=>a
def AO(v:Nat):List (Option (L×Nat))->List Lv->List LA
 | [],_=>[]
 |none::ls,vs=>.bad::AO v ls vs
 |some (l,d)::ls,x::vs=>Bx v d (d==3) x::AO v ls vs
 |some _::ls,[]=>.bad::AO v ls []
def Bn(v:Nat)(s:St):List VP->List Lv->List Wr
 | [],_=>[]
 | .slot t _::ps,x::vs=>.slot t (one (.sc x.l x.x))::Bn v s ps vs
 | .own t ty e d k::ps,x::vs=>.root t ⟨false,v,[Bx v d k x]⟩::.slot t (one (.ref ⟨t,0,FB v k,v,[]⟩))::Bn v s ps vs
 | .box r ls::ps,vs=>.root r ⟨true,(s.root r).AB,AO v ls vs⟩::Bn v s ps (vs.drop (ls.filterMap id).length)
 |_,[]=>[]
def LA.clean(ms ch:Nat->Bool)(a:LA):LA:=match a with
 | .ref c=>if ch c.r then .bad else .ref c
 | .Dy c lo hi=>if ch c.r then .bad else .Dy c lo hi
 | .Ba c=>if ch c.r then .bad else .Ba c
 | .ptr r j AB=>if ms r then .bad else .ptr r j AB
 | .Iz t c=>if ch c.r then .bad else .Iz t c
 | .D2 g ps qs=>if ps.any λp=>ms p.1 then .bad else .D2 g ps qs
 |a=>a
def AV.clean(ms ch:Nat->Bool):AV->AV
 | .v g as=>.v g (as.map (LA.clean ms ch))
 | .Da _=>one .bad
 | .bx _=>one .bad
def KO{α γ:Type}(f:Nat->α->γ):Nat->List α->List γ
 |_,[]=>[]
 |n,x::xs=>f n x::KO f (n+1) xs
def base(ms:Is)(ps:List VP)(s:St):St:=
 {sl:=KO (λt x=>if has ms t then one .bad else x.clean (λr=>has ms r||has (ps.flatMap VP.AM) r) λr=>has ms r||has (ps.flatMap VP.roots) r) 0 s.sl
  ro:=KO (λr x=>if has ms r then dead else x) 0 s.ro
  Bd:=s.Bd+1 }
def Bm(ms:Is)(ps:List VP)(s:St)(x:(C6 ps).D):St:=(base ms ps s).app (Bn s.Bd s ps (unpack (C6 ps) x))
def Cx.in(cx:Cx)(ms:Is)(ps:List VP):Cx:=
 { cx with lock:=λr=>cx.lock r || !(has ms r||has (ps.flatMap VP.roots) r),Eu:=λt=>cx.Eu t || !(has ms t||has (ps.flatMap VP.AM) t) }
def distinct:Is->Bool
 | []=>true
 |x::xs => !has xs x&&distinct xs
def Cc(cx:Cx)(ms:Is)(ps:List VP):Bool:=distinct (ps.flatMap VP.roots)&&distinct (ps.flatMap VP.AM)&&ps.all λp=>match p with
 | .slot s _ => !cx.Eu s
 | .own s _ _ _ _ => !cx.lock s && !cx.Eu s && !cx.KU s
 | .box r _ => !has ms r && !cx.lock r && !has (ps.flatMap VP.AM) r
structure An where
 O1:Nat->Option (List VP)
 blk:Nat->Option (List VP×Bool)
 PJ:Nat->Option (List VP×Bool)
 pre:Nat->Is
def Gf:List (Nat×Oper)->Is
 | []=>[]
 |(_,o)::r=>match o.dst with
  |some d=>d::Gf r
  |none=>Gf r
def B2:Code->Is
 | .region _ ops _=>Gf (number 0 ops.toList)
 | .seq a b=>B2 a++B2 b
 | .cond _ a b=>B2 a++B2 b
 | .block _ c=>B2 c
 | .loop c=>B2 c
 |_=>[]
def F0:Code->Nat
 | .region id _ _=>id
 | .seq a _=>F0 a
 | .block _ c=>F0 c
 | .loop c=>F0 c
 |_=>0
def Nt:Code->Nat
 | .seq a _=>3*F0 a+3
 | .block id _=>3*id+4
 | .cond _ x y=>3*(match F0 x with
  |0=>F0 y
  |n+1=>n+1)+5
 |_=>0
def mask(t:Nat):Nat:=2 ^ t
def JF(r:Nat):Nat:=2 ^ (4*r+1)
def KK(r:Nat):Nat:=2 ^ (4*r+3)
def AV.mask(a:AV):Nat:=a.roots.foldr (λr m=>Nat.lor (JF r) (Nat.lor (KK r) m)) 0
def BM(ops:Array Oper)(o:Oper):Nat:=match o.guard with
 |some (g,_)=>match(ops[g]?).bind (·.dst)with
  |some t=>2 ^ (2*t)
  |none=>0
 |none=>0
def Ax(ops:Array Oper)(o:Oper)(s:St):Nat:=match o.op with
 | .move (.tmp t)=>Nat.lor (2 ^ (2*t)) (BM ops o)
 | .extract (.tmp t) _=>Nat.lor (2 ^ (2*t)) (BM ops o)
 | .field _ (.tmp t) _=>Nat.lor (2 ^ (2*t)) (BM ops o)
 | .load _ (.tmp t)=>Nat.lor (2 ^ (2*t)) (Nat.lor (match s.slot t with
  | .v _ [.ptr r _ _]=>JF r
  |a=>a.mask) (BM ops o))
 | .fieldAddr _ (.tmp t) _=>Nat.lor (2 ^ (2*t)) (Nat.lor (match s.slot t with
  | .v _ [.ptr r _ _]=>JF r
  |a=>a.mask) (BM ops o))
 |_=>o.op.operands.toList.foldr (λx m=>match x with
  | .tmp t=>Nat.lor (2 ^ (2*t)) (Nat.lor (s.slot t).mask m)
  |_=>m) (BM ops o)
def Wr.mask:Wr->Nat
 | .slot t _=>2 ^ (2*t)
 | .root r _=>Nat.lor (JF r) (KK r)
 | .leaf r _ _=>Nat.lor (JF r) (KK r)
def AD(ws:List Wr):Nat:=ws.foldr (λw m=>Nat.lor w.mask m) 0
def bit(m i:Nat):Bool:=m.testBit i
def Eh:List Oper->Is->Is
 | [],acc=>acc
 |o::r,acc=>Eh r (acc++[o.after.toList.foldr (λe m=>if Region.binds .any e then Nat.lor (2 ^ e.on) (Nat.lor (nth 0 acc e.on) m)else m) 0])
def indep(b rm wm:Nat):Nat->List (Nat×Nat)->Bool
 |_,[]=>true
 |j,(r,w)::lg=>(bit b j||(Nat.land w (Nat.lor rm wm)==0&&Nat.land r wm==0))&&indep b rm wm (j+1) lg
def LA.AF:LA->Is
 | .ref c=>[c.AB,c.gen]
 | .Dy c _ _=>[c.AB,c.gen]
 | .Ba c=>[c.AB,c.gen]
 | .ptr _ _ AB=>[AB]
 | .Iz _ c=>[c.AB,c.gen]
 | .D2 _ ps _=>ps.map (·.2)
 | .arr AB gen _ _ _ _=>[AB,gen]
 |_=>[]
def AV.AF:AV->Is
 | .v _ as=>as.flatMap LA.AF
 | .Da vs=>vs.flatMap λv=>v.2.flatMap LA.AF
 | .bx as=>as.flatMap LA.AF
def Bz.AF(r:Bz):Is:=r.AB::r.ls.flatMap LA.AF
def Wr.AF:Wr->Is
 | .slot _ a=>a.AF
 | .root _ x=>x.AF
 | .leaf _ _ a=>a.AF
def LA.Cg:LA->Bool
 | .ref _=>false
 | .Dy _ _ _=>false
 | .Ba _=>false
 | .Iz _ _=>false
 |_=>true
def Wr.ok(cx:Cx)(dst:Option Nat):Wr->Bool
 | .slot t _=>match dst with
  |some d=>t==d
  |none=>false
 | .root r x => !cx.lock r&&x.ls.all LA.Cg&&match dst with
  |some d=>r==d
  |none=>false
 | .leaf r _ a => !cx.lock r&&a.Cg
def JA(cx:Cx)(dst:Option Nat)(v0 v b:Nat)(ws:List Wr):Bool:=
 ws.all λw=>w.ok cx dst&&w.AF.all λn=>decide (n<v0)||n==v||(decide (v0<=n)&&bit b (n-v0))
def Cj(dst:Option Nat):List Wr:=match dst with
 |some d=>[.slot d (one .undef)]
 |none=>[]
structure Rg where
 ops:Array Oper
 v0:Nat
 draw:Bool
def EE{R:Type}(cx:Cx)(g:Rg):List (Nat×Oper)->Is->List (Nat×Nat)->St->(St->Option R)->Option R
 | [],_,_,s,k=>k s
 |(i,o)::r,bs,lg,s,k=>
  let b:=nth 0 bs i
  let rm:=Ax g.ops o s
  let exec (s:St):Option R:=(AA cx (g.v0+i) o s).run λws=>
   if JA cx o.dst g.v0 (g.v0+i) b ws&&(!g.draw||indep b rm (AD ws) 0 lg)then EE cx g r bs (lg++[(rm,AD ws)]) (s.app ws) k else none
  let skip (s:St):Option R:=if !g.draw||indep b rm (AD (Cj o.dst)) 0 lg then EE cx g r bs (lg++[(rm,AD (Cj o.dst))]) (s.app (Cj o.dst)) k else none
  match o.guard with
  |none=>exec s
  |some (j,want)=>match(g.ops[j]?).bind (·.dst)with
   |none=>none
   |some t=>match s.slot t with
    | .v false [.undef]=>skip s
    | .v false [.sc .bool c]=>match want with
     |true=>bif c then exec (s.AG (.slot t (H3 true)))else skip (s.AG (.slot t (H3 false)))
     |false=>bif c then skip (s.AG (.slot t (H3 true)))else exec (s.AG (.slot t (H3 false)))
    |_=>none
def I3(os:List Oper):List VP:=match os.getLast? with
 |some o=>match o.dst with
  |some d=>[.slot d .bool]
  |none=>[]
 |none=>[]
def EX{R:Type}(cx:Cx)(an:An)(id:Nat)(ops:Array Oper)(draw:Bool)(s:St)(k:St->Option R):Option R:=
 let os:=number 0 ops.toList
 let g:Rg:=⟨ops,s.Bd,draw⟩
 let bs:=Eh ops.toList []
 if ops.toList.all λo=>match o.guard with
  |none=>true
  |some _=>false
 then EE cx g os bs [] s λs'=>k { s' with Bd:=s.Bd+ops.size }
 else
  let ps:=match an.O1 id with
   |some p=>p
   |none=>I3 ops.toList
  let ms:=Gf os
  if Cc cx ms ps then(EE (cx.in ms ps) g os bs [] s (Al ps)).bind λx=>k (Bm ms ps s x)else none
def HQ{R:Type}(cx:Cx)(an:An)(id:Nat)(ops:Array Oper)(draw:Bool)(s:St)(k:St->Option R):Option R:=match an.pre id with
 | []=>EX cx an id ops draw s k
 |r::rs=>if(r::rs).all λr => !cx.lock r then match Ao cx s (r::rs)with
   |some fs=>EX cx an id ops draw (s.app fs) k
   |none=>none
  else none
def iter{α γ:Type}:Nat->(α->Option (α⊕γ))->α->Option γ
 |0,_,_=>none
 |n+1,f,x=>(f x).bind λy=>match y with
  | .inl x=>iter n f x
  | .inr z=>some z
def ev(an:An)(n:Nat){RD:Type}(rp:St->Option RD):Code->{R:Type}->Cx->St->(St->Option R)->(Nat->St->Option R)->(RD->Option R)->Option R
 | .skip,_,cx,s,kn,kx,kr=>kn s
 | .region id ops draw,_,cx,s,kn,kx,kr=>HQ cx an id ops draw s kn
 | .seq a b,_,cx,s,kn,kx,kr=>match an.PJ (Nt a)with
  |none=>ev an n rp a cx s (λs=>ev an n rp b cx s kn kx kr) kx kr
  |some (ps,rets)=>
   let ms:=B2 a
   if Cc cx ms ps then match rets with
    |false=>(ev an n rp a (R:=(C6 ps).D) (cx.in ms ps) s (Al ps) (λ_ _=>none) (λ_=>none)).bind λx=>ev an n rp b cx (Bm ms ps s x) kn kx kr
    |true=>(ev an n rp a (R:=(C6 ps).D⊕RD) (cx.in ms ps) s (λs=>(Al ps s).bind λx=>some (.inl x)) (λ_ _=>none) (λr=>some (.inr r))).bind λq=>match q with
     | .inl x=>ev an n rp b cx (Bm ms ps s x) kn kx kr
     | .inr r=>kr r
   else none
 | .cond c x y,_,cx,s,kn,kx,kr=>match s.Af c with
  | .sc .bool b=>bif b then ev an n rp x cx s kn kx kr else ev an n rp y cx s kn kx kr
  |_=>none
 | .block id c,_,cx,s,kn,kx,kr=>match an.blk id with
  |none=>ev an n rp c cx s kn (λi s=>if i==id then kn s else kx i s) kr
  |some (ps,rets)=>match c with
   | .loop c=>
    let ms:=B2 c
    if Cc cx ms ps then match rets with
     |false=>(Al ps s).bind λx0=>(iter (α:=(C6 ps).D) (γ:=(C6 ps).D) n (λx=>ev an n rp c (cx.in ms ps) (Bm ms ps s x)
        (λs=>(Al ps s).bind λx=>some (.inl x)) (λi s=>if i==id then(Al ps s).bind λx=>some (.inr x)else none) (λ_=>none)) x0).bind λx=>
       kn (Bm ms ps s x)
     |true=>(Al ps s).bind λx0=>(iter (α:=(C6 ps).D) (γ:=(C6 ps).D⊕RD) n (λx=>ev an n rp c (cx.in ms ps) (Bm ms ps s x)
        (λs=>(Al ps s).bind λx=>some (.inl x)) (λi s=>if i==id then(Al ps s).bind λx=>some (.inr (.inl x))else none) (λr=>some (.inr (.inr r)))) x0).bind λq=>match q with
       | .inl x=>kn (Bm ms ps s x)
       | .inr r=>kr r
    else none
   |_=>none
 | .exit id,_,cx,s,kn,kx,kr=>kx id s
 | .ret,_,cx,s,kn,kx,kr=>(rp s).bind kr
 |_,_,_,_,_,_,_=>none
def Dr:Nat->List Oper->Bool
 |_,[]=>true
 |i,o::r=>o.after.toList.all (λe => !Region.binds .any e||decide (e.on<i))&&Dr (i+1) r
def codeOk(n:Nat):Code->Bool
 | .region _ ops _=>Dr 0 ops.toList&&ops.toList.all λo=>match o.dst with
  |some d=>decide (d<n)
  |none=>true
 | .seq a b=>codeOk n a&&codeOk n b
 | .cond _ a b=>codeOk n a&&codeOk n b
 | .block _ c=>codeOk n c
 | .loop c=>codeOk n c
 |_=>true
def A4(i:Nat):Nat->List (L×Nat)->List Lv->List LA
 |j,(l,d)::ls,x::vs=>(match l with
  | .sl _ _=>if d==4 then LA.CA else LA.ref ⟨i,j,1,1,[]⟩
  |_=>.sc x.l x.x)::A4 i (j+1) ls vs
 |_,_,_=>[]
def C3:Nat->List PM->List Lv->Option (List Wr)
 |_,[],[]=>some []
 |_,[],_::_=>none
 |i,.val g ls::ps,vs=>match C3 (i+1) ps (vs.drop ls.length)with
  |some ws=>some (.slot i (.v g ((vs.take ls.length).map λx=>.sc x.l x.x))::ws)
  |none=>none
 |i,.box ls::ps,vs=>match C3 (i+1) ps (vs.drop ls.length)with
  |some ws=>some (.root i ⟨true,1,AX 1 ls vs⟩::.slot i (one (.ptr i 0 1))::ws)
  |none=>none
 |i,.row g ls::ps,vs=>match C3 (i+1) ps (vs.drop ls.length)with
  |some ws=>some (.root i ⟨false,1,AX 1 ls vs⟩::.slot i (.v g (A4 i 0 ls vs))::ws)
  |none=>none
 |i,.fn f::ps,vs=>match C3 (i+1) ps vs with
  |some ws=>some (.slot i (one (.fn f))::ws)
  |none=>none
def blank(n:Nat):St:={sl:=List.replicate n (one .bad),ro:=List.replicate n dead,Bd:=2 }
def FN(s:St)(us:List (Nat×Nat))(l:L)(m:Nat)(a:LA)(k:Lv->List (Nat×Nat)->Step β):Step β:=match l with
 | .sl t e=>match m with
  |0=>if s.still (.sl t e) a then s.datum (.sl t e) a λx=>k ⟨.sl t e,x⟩ us else .none
  |m+1=>match a with
   | .CA=>k ⟨.sl t e,([]:List e.D)⟩ us
   | .ref c=>match s.leaf c.r c.j with
    | .arr AB _ t' e' xs d=>if AB==c.AB&&isNil c.p&&d==m+1 && !us.contains (c.r,c.j)then match L.cast (a:=.sl t' e') (.sl t e) xs with
      |some y=>k ⟨.sl t e,y⟩ ((c.r,c.j)::us)
      |none=>.none
     else .none
    |_=>.none
   | .Dy c lo hi=>match s.leaf c.r c.j with
    | .arr AB _ t' e' xs d=>if AB==c.AB&&isNil c.p&&d==m+1 && !us.contains (c.r,c.j)then match L.cast (a:=.sl t' e') (.sl t e) (sub xs lo hi)with
      |some y=>k ⟨.sl t e,y⟩ ((c.r,c.j)::us)
      |none=>.none
     else .none
    |_=>.none
   |_=>.none
 |l=>s.datum l a λx=>k ⟨l,x⟩ us
def CJ(s:St):List (L×Nat)->List LA->List (Nat×Nat)->(List Lv->List (Nat×Nat)->Step β)->Step β
 | [],[],us,k=>k [] us
 |(l,m)::ls,a::as,us,k=>FN s us l m a λx us=>CJ s ls as us λxs us=>k (x::xs) us
 |_,_,_,_=>.none
def Dm(ty:TypeId->Option Ty)(s:St):List (Bool×List (L×Nat))->List ResultVar->List (Nat×Nat)->(List Lv->List (Nat×Nat)->Step β)->Step β
 | [],[],us,k=>k [] us
 |(g,ls)::rs,.tmp t::vs,us,k=>match s.slot t with
  | .v g' as=>if g==g' then CJ s ls as us λxs us=>Dm ty s rs vs us λys us=>k (xs++ys) us else .none
  |_=>.none
 |(g,ls)::rs,.cell t T::vs,us,k=>match ty T,s.slot t with
  |some y,.v false [.ptr r 0 AB]=>if y.agg==g&&y.ls.n==ls.length then s.C4 (.ptr r 0 AB) ls.length λas=>if as.length==ls.length then CJ s ls as us λxs us=>Dm ty s rs vs us λys us=>k (xs++ys) us else .none else .none
  |_,_=>.none
 |_,_,_,_=>.none
def EV(s:St)(i:Nat):Nat->List (L×Nat)->List Lv->List (Nat×Nat)->(List Lv->List (Nat×Nat)->Step β)->Step β
 |_,[],_,us,k=>k [] us
 |_,_::_,[],_,_=>.none
 |j,(l,d)::ls,x::vs,us,k=>match l with
  | .sl t e=>FN s us (.sl t e) d (match s.leaf i j with
    | .arr 1 gen _ _ _ _=>.ref ⟨i,j,1,gen,[]⟩
    |_=>.bad) λy us=>EV s i (j+1) ls vs us λys us=>k (y::ys) us
  |_=>EV s i (j+1) ls vs us λys us=>k (x::ys) us
def I2(s:St)(i:Nat):Nat->List (L×Nat)->Bool
 |_,[]=>true
 |j,(_,m)::ls=>(bif m==3 then(match s.leaf i j with
  | .arr AB _ _ _ _ _=>AB==1
  |_=>false)else true)&&I2 s i (j+1) ls
def Cw(s:St):Nat->List PM->List Lv->List (Nat×Nat)->(List Lv->Step β)->Step β
 |_,[],_,_,k=>k []
 |i,.box ls::ps,vs,us,k=>if(s.root i).box&&(s.root i).AB==1&&(s.root i).ls.length==ls.length&&I2 s i 0 ls then s.C4 (.ptr i 0 1) ls.length λas=>CJ s ls as us λxs us=>Cw s (i+1) ps (vs.drop ls.length) us λys=>k (xs++ys)else .none
 |i,.row _ ls::ps,vs,us,k=>EV s i 0 ls vs us λxs us=>Cw s (i+1) ps (vs.drop ls.length) us λys=>k (xs++ys)
 |i,.val _ ls::ps,vs,us,k=>Cw s (i+1) ps (vs.drop ls.length) us k
 |i,.fn _::ps,vs,us,k=>Cw s (i+1) ps vs us k
def DE:List L->List LA->Option (List Lv)
 | [],[]=>some []
 |l::ls,.sc m x::as=>match L.cast l (a:=m) x,DE ls as with
  |some y,some vs=>some (⟨l,y⟩::vs)
  |_,_=>none
 |_,_=>none
def NY(sm:Sm)(rv:List ResultVar)(s:St):Option sm.outs.D:=match rv with
 | [.tmp t]=>match s.slot t with
  | .v false [.ptr r 0 AB]=>if sm.plain&&(s.root r).box&&(s.root r).AB==AB then match DE (sm.Gg.map (·.1)) (s.root r).ls with
    |some vs=>pack sm.outs vs
    |none=>none
   else none
  |_=>none
 |_=>none
def KQ(s:St):List (L×Nat)->List LA->Is
 |(l,m)::ls,a::as=>(if Bg l&&m==0 && !s.still l a then match a with
   | .ref c=>[c.r]
   | .Dy c _ _=>[c.r]
   |_=>[]
  else [])++KQ s ls as
 |_,_=>[]
def MZ(s:St):List (Bool×List (L×Nat))->List ResultVar->Is
 |(_,ls)::rs,.tmp t::vs=>(match s.slot t with
  | .v _ as=>KQ s ls as
  |_=>[])++MZ s rs vs
 |(_,ls)::rs,.cell t _::vs=>(match s.slot t with
  | .v false [.ptr r 0 _]=>KQ s ls (As r 0 (s.root r).ls)
  |_=>[])++MZ s rs vs
 |_,_=>[]
def Hx(ty:TypeId->Option Ty)(sm:Sm)(rv:List ResultVar)(vs:List Lv)(s:St):Option sm.outs.D:=
 (Dm ty s sm.rs rv [] λxs us=>Cw s 0 sm.ps vs us λys=>.go (xs++ys)).run (pack sm.outs)
def PH:Cx:={ty:=λ_=>none,env:=⟨λ_=>none,λ_ _=>none,λ_=>false⟩,lock:=λ_=>false,Eu:=λ_=>false,KU:=λ_=>false }
def DG(ty:TypeId->Option Ty)(sm:Sm)(rv:List ResultVar)(vs:List Lv)(s:St):Option sm.outs.D:=if sm.mk? then NY sm rv s else
 match Ao PH s (MZ s sm.rs rv)with
 |some fs=>Hx ty sm rv vs (s.app fs)
 |none=>none
def L1(ty:TypeId->Option Ty)(env:Env)(an:An)(n:Nat)(fn:Func)(sm:Sm)(x:sm.ins.D):Option sm.outs.D:=
 match fn.body,C3 0 sm.ps (unpack sm.ins x)with
 |some c,some ws=>if !codeOk fn.ntmps c then none else ev an n (DG ty sm fn.results.toList (unpack sm.ins x)) c {ty:=ty,env:=env,lock:=λ_=>false,Eu:=λ_=>false,KU:=has (an.pre 1000000) } ((blank fn.ntmps).app ws) (DG ty sm fn.results.toList (unpack sm.ins x)) (λ_ _=>none) some
 |_,_=>none
end Go.Ev
namespace Go.Ev
theorem Ad{α:Type}(d:α):∀(l:List α)(n:Nat),nth d l n=(l[n]?).getD d
 | [],n=>by simp[nth]
 |x::xs,0=>by simp[nth]
 |x::xs,n+1=>by simp[nth,Ad d xs n]
theorem CG{α:Type}:∀(l:List α)(n:Nat)(y:α),(DL l n y).length=l.length
 | [],_,_=>rfl
 |_::xs,0,_=>rfl
 |_::xs,n+1,y=>by simp[DL,CG xs n y]
theorem CH{α:Type}:∀(l:List α)(n:Nat)(y:α),DL l n y=l.set n y
 | [],_,_=>rfl
 |_::xs,0,_=>rfl
 |x::xs,n+1,y=>by simp[DL,CH xs n y]
theorem BW{α:Type}(d:α)(l:List α)(n m:Nat)(y:α):nth d (DL l n y) m=if n=m/\n<l.length then y else nth d l m:=by rw[Ad,Ad,CH,List.getElem?_set];grind
theorem Au{α:Type}(d:α){l:List α}{n:Nat}(h:l.length<=n):nth d l n=d:=by rw[Ad];grind
structure Ck where
 base:Nat
 io:Nat->Prop
 fa:Nat->Prop
 w0:World
 OD:Nat->Nat->Option Value
 O8:Nat->Nat
 NO:List (String×Array Value)
def at_(a:Addr)(k:Nat):Addr:=⟨a.block,a.off+k,none⟩
def JL(w:World):List (Nat×Nat)->Ls->Value->Ls->Value->Prop
 | [],e,h,e',v=>e'=e/\v=h
 |(i,j)::p,e,h,e',v=>∃a len c t f h',h=.slice (some a) len c/\a.spot=none/\i<len/\e.kinds[j]?=some (.sl t f)/\w.cell? (at_ a (i*e.n+j))=some h'/\JL w p f h' e' v
inductive Key where
 |blk (r:Nat)
 |lf (r j:Nat)
 |fl (k:Nat)
 deriving DecidableEq
structure Wd where
 w:World
 fz:Nat->Prop
 cv:Nat->Nat->Option Value
 bk:Nat->Nat
 om:Key->Is
def AR(s:St)(W:Wd):LA->Value->Prop
 | .bad,_=>True
 | .undef,v=>v=Go.undef
 | .CA,v=>v=.slice none 0 0
 | .I8,v=>v=.pointer none
 | .sc l x,v=>l.rd 0 W.w W.fz v x []
 | .ref c,v=>∀gen t e xs d,s.leaf c.r c.j=.arr c.AB gen t e xs d->(c.p=[]\/gen=c.gen)->∃h e',W.cv c.r c.j=some h/\JL W.w c.p e h e' v
 | .Dy c lo hi,v=>∀gen t e xs d,s.leaf c.r c.j=.arr c.AB gen t e xs d->(c.p=[]\/gen=c.gen)->∃h e' A n k,W.cv c.r c.j=some h/\JL W.w c.p e h e' (.slice A n k)/\
   lo<=hi/\hi<=n/\v=.slice (if k=lo then A else A.map (·.add (lo*e'.n))) (hi-lo) (k-lo)
 | .ptr r j AB,v=>(s.root r).box=true->(s.root r).AB=AB->v=.pointer (some ⟨W.bk r,j,none⟩)
 | .Ba c,v=>∀gen t e xs d,s.leaf c.r c.j=.arr c.AB gen t e xs d->(c.p.length<=1\/gen=c.gen)->∃q i off h e' a n k,Ai c.p=some (q,i,off)/\W.cv c.r c.j=some h/\
   JL W.w q e h e' (.slice (some a) n k)/\a.spot=none/\i<n/\v=.pointer (some (at_ a (i*e'.n+off)))
 | .Ds e x off,v=>∃(a:Addr) (g:Nat->Option Value) (arr:Array Value) (T:TypeId) (fr:Nat×Nat),v=.pointer (some (at_ a off))/\W.fz a.block/\W.w.heap[a.block]?=some (.cells arr T fr)/\
   (∀j,g j=arr[a.off+j]?)/\e.rd 0 W.w W.fz g x []
 | .fn f,v=>v=.func (.func f) #[] #[]
 | .Iz t c,v=>∃u,v=.iface t u/\∀gen t e xs d,s.leaf c.r c.j=.arr c.AB gen t e xs d->(c.p=[]\/gen=c.gen)->∃h e',W.cv c.r c.j=some h/\JL W.w c.p e h e' u
 | .D2 g ps _,v=>∃bs:Is,v=.func (.func g) #[] (bs.map λb=>Value.pointer (some ⟨b,0,none⟩)).toArray/\bs.length=ps.length/\∀(k:Nat)(p:Nat×Nat)(b:Nat),ps[k]?=some p->bs[k]?=some b->(s.root p.1).box=true->(s.root p.1).AB=p.2->b=W.bk p.1
 | .arr ..,_=>False
def Ey(s:St)(W:Wd)(g:Bool)(as:List LA)(v:Value):Prop:=match g with
 |false=>match as with
  | [a]=>AR s W a v
  |_=>False
 |true=>∃cs:Array Value,v=.agg cs/\cs.size=as.length/\∀(j:Nat)(a:LA),as[j]?=some a->∃u,cs[j]?=some u/\AR s W a u
def BO(s:St)(W:Wd):AV->Value->Prop
 | .v g as,v=>Ey s W g as v
 | .Da vs,v=>∃us:Array Value,v=.tuple us/\us.size=vs.length/\∀(j:Nat)(p:Bool×List LA),vs[j]?=some p->∃u,us[j]?=some u/\Ey s W p.1 p.2 u
 | .bx as,v=>∃(b off:Nat) (arr:Array Value) (T:TypeId) (fr:Nat×Nat),v=.pointer (some ⟨b,off,none⟩)/\W.fz b/\W.w.heap[b]?=some (.cells arr T fr)/\(∀j,j<arr.size->¬(fr.1<=j/\j<fr.2))/\∀(j:Nat)(a:LA),as[j]?=some a->∃u,arr[off+j]?=some u/\AR s W a u
def Aa(s:St)(W:Wd)(a:LA)(v?:Option Value)(o:Is):Prop:=match a with
 | .arr _ _ t e xs d=>∃v,v?=some v/\AE e d W.w W.fz v xs o
 |a=>o=[]/\∀v,v?=some v->AR s W a v
def D5(s:St)(W:Wd)(r:Nat)(x:Bz):Prop:=
 (∀j,Aa s W (nth .bad x.ls j) (W.cv r j) (W.om (.lf r j)))/\
 (if x.box then W.om (.blk r)=[W.bk r]/\∃arr T fr,W.w.heap[W.bk r]?=some (.cells arr T fr)/\(∀j,j<arr.size->¬(fr.1<=j/\j<fr.2))/\arr.size=x.ls.length/\∀j,W.cv r j=arr[j]?
  else W.om (.blk r)=[])
structure Sep(E:Ck)(W:Wd):Prop where
 nodup:∀k,(W.om k).Nodup
 A7:∀k k',k≠k'->∀b∈W.om k,b∉W.om k'
 own:∀k,∀b∈W.om k,¬W.fz b/\b<W.w.heap.size/\(E.base<=b\/E.io b)
 fz:∀b,W.fz b->b<W.w.heap.size/\(E.fa b\/E.base<=b\/E.io b)
 frame:∀b,b<E.base->¬E.io b->W.w.heap[b]?=E.w0.heap[b]?
 size:E.base<=W.w.heap.size
 rest:W.w.os=E.w0.os/\W.w.tape=E.w0.tape/\W.w.output=E.w0.output
structure AW(E:Ck)(s:St)(tm:Array Value)(W:Wd):Prop where
 DS:s.sl.length=tm.size
 Bb:s.ro.length=tm.size
 AM:∀t,BO s W (s.slot t) (tm.getD t Go.undef)
 roots:∀r,D5 s W r (s.root r)
 sep:Sep E W
 init:(∀(r j gen:Nat)(t:TypeId)(e:Ls)(xs:List e.D)(d:Nat),s.leaf r j=.arr 1 gen t e xs d->W.cv r j=E.OD r j)/\∀r,(s.root r).box=true->(s.root r).AB=1->W.bk r=E.O8 r
theorem Ls.JG:∀(e:Ls)(j:Nat) {d:Nat} {w:World} {fz:Nat->Prop} {g:Nat->Option Value} {x:e.D} {o:Is} {t:TypeId} {f:Ls},
  e.rd d w fz g x o->e.kinds[j]?=some (.sl t f)->∃(h:Value) (ys:List f.D) (o':Is),g j=some h/\AE f d w fz h ys o'/\∀b∈o',b∈o
 | .nil,j,_,_,_,_,_,_,_,_,_,hk=>by simp[Ls.kinds]at hk
 | .one l,j,d,w,fz,g,x,o,t,f,h,hk=>by
  simp only[Ls.rd]at h;obtain⟨v,hg,h⟩:=h;cases j with
  |zero=>simp[Ls.kinds]at hk;subst hk;exact⟨v,x,o,hg,h,λb hb=>hb⟩
  |succ j=>simp[Ls.kinds]at hk
 | .cons l ls,j,d,w,fz,g,x,o,t,f,h,hk=>by
  simp only[Ls.rd]at h;obtain⟨v,o1,o2,hg,h1,h2,rfl⟩:=h;cases j with
  |zero=>simp[Ls.kinds]at hk;subst hk;exact⟨v,x.1,o1,hg,h1,λb hb=>AAU _ hb⟩
  |succ j=>
   simp only[Ls.kinds,AA3]at hk;obtain⟨h',ys,o',a,b,c⟩:=Ls.JG ls j h2 hk;grind
theorem Row.cell{w:World}{a:Addr}{n:Nat}{own:Bool}{g:Nat->Option Value}(h:Row w a n own g)(j:Nat):w.cell? (at_ a j)=g j:=by obtain⟨hs,arr,T,fr,hh,hn,hb,hg⟩:=h;simp[World.cell?,at_,hh,hg]
theorem MI{w:World}:∀(p:List (Nat×Nat)) {e:Ls} {d:Nat} {fz:Nat->Prop} {h:Value} {xs:List e.D} {o:Is} {e':Ls} {v:Value},
  AE e d w fz h xs o->JL w p e h e' v->∃(d':Nat) (ys:List e'.D) (o':Is),AE e' d' w fz v ys o'/\∀b∈o',b∈o
 | [],e,d,fz,h,xs,o,e',v,hr,hn=>by obtain⟨rfl,rfl⟩:=hn;grind
 |(i,j)::p,e,d,fz,h,xs,o,e',v,hr,hn=>by
  obtain⟨a,len,c,t',f,h',rfl,hs,hi,hk,hc,hn⟩:=hn;obtain⟨A,c',hv,hle,hr⟩:=hr;injection hv with hA hl vL
  subst hA;have vw:i<xs.length:=hl▸hi;rcases hr with hr|⟨g,os,uX,uk,ho⟩
  ·have:=hr.2.1;omega
  obtain⟨h2,ys,o',hg,uW,vS⟩:=Ls.JG e j (uk i vw) hk
  have:h2=h':=by have:=uX.cell (i*e.n+j);rw[this,hg]at hc;exact Option.some.inj hc
  subst this;obtain⟨d2,zs,o2,hz,yE⟩:=MI p uW hn;grind
theorem BN{w w':World}:∀(p:List (Nat×Nat)) {e:Ls} {d:Nat} {fz:Nat->Prop} {h:Value} {xs:List e.D} {o:Is} {e':Ls} {v:Value},
  AE e d w fz h xs o->JL w p e h e' v->(∀b,b∈o\/fz b->w'.heap[b]?=w.heap[b]?)->JL w' p e h e' v
 | [],e,d,fz,h,xs,o,e',v,hr,hn,hf=>hn
 |(i,j)::p,e,d,fz,h,xs,o,e',v,hr,hn,hf=>by
  obtain⟨a,len,c,t',f,h',rfl,hs,hi,hk,hc,hn⟩:=hn;obtain⟨A,c',hv,hle,hr⟩:=hr;injection hv with hA hl vL
  subst hA;have vw:i<xs.length:=hl▸hi;rcases hr with hr|⟨g,os,uX,uk,ho⟩
  ·have:=hr.2.1;omega
  obtain⟨h2,ys,o',hg,uW,vS⟩:=Ls.JG e j (uk i vw) hk
  have uj:a.block∈o\/fz a.block:=by
   revert ho
   cases decide (0<d)with
   |true=>intro ho;left;rw[ho];simp
   |false=>intro ho;exact .inr ho.1
  have:h2=h':=by have:=uX.cell (i*e.n+j);rw[this,hg]at hc;exact Option.some.inj hc
  subst this;refine⟨a,len,c,t',f,h2,rfl,hs,hi,hk,?_,BN p uW hn λb hb=>hf b ?_⟩
  ·rw[(uX.frame (hf _ uj)).cell,hg]
  grind
section
variable {E:Ck}{s s':St}{tm:Array Value}{W:Wd}{w':World}
theorem D5.row{r:Nat}(h:D5 s W r (s.root r)){j AB gen:Nat}{t:TypeId}{e:Ls}{xs:List e.D}{d:Nat}(hl:s.leaf r j=.arr AB gen t e xs d):
  ∃v,W.cv r j=some v/\AE e d W.w W.fz v xs (W.om (.lf r j)):=by
 have:=h.1 j;unfold St.leaf at hl;rw[hl]at this;exact this
def Still(W:Wd)(w':World):Prop:=∀b,(W.fz b\/∃k,b∈W.om k)->w'.heap[b]?=W.w.heap[b]?
theorem AR.world(hr:∀r,D5 s W r (s.root r))(hf:Still W w'){a:LA}{v:Value}(h:AR s W a v):AR s { W with w:=w' } a v:=by
 cases a with
 |bad=>trivial
 |undef=>exact h
 |CA=>exact h
 |I8=>exact h
 |sc l x=>exact L.AN l h (λb hb=>hf b (hb.elim (λhb=>by cases hb) .inl)) λb hb=>hb
 |ref c=>
  intro gen t e xs d hl hp;obtain⟨h',e',hc,hn⟩:=h gen t e xs d hl hp;obtain⟨u,hu,uW⟩:=(hr c.r).row hl;have:u=h':=Option.some.inj (hu.symm.trans hc);subst this;exact⟨u,e',hc,BN _ uW hn λb hb=>hf b (hb.elim (λhb=>.inr ⟨_,hb⟩) .inl)⟩
 |Dy c lo hi=>
  intro gen t e xs d hl hp;obtain⟨h',e',A,n,k,hc,hn,rest⟩:=h gen t e xs d hl hp;obtain⟨u,hu,uW⟩:=(hr c.r).row hl;have:u=h':=Option.some.inj (hu.symm.trans hc);subst this;exact⟨u,e',A,n,k,hc,BN _ uW hn λb hb=>hf b (hb.elim (λhb=>.inr ⟨_,hb⟩) .inl),rest⟩
 |ptr r j AB=>exact h
 |Ba c=>
  intro gen t e xs d hl hp;obtain⟨q,i,off,h',e',a,n,k,hs,hc,hn,rest⟩:=h gen t e xs d hl hp;obtain⟨u,hu,uW⟩:=(hr c.r).row hl;have:u=h':=Option.some.inj (hu.symm.trans hc);subst this;exact⟨q,i,off,u,e',a,n,k,hs,hc,BN _ uW hn λb hb=>hf b (hb.elim (λhb=>.inr ⟨_,hb⟩) .inl),rest⟩
 |Ds e x off=>
  obtain⟨a,g,arr,T,fr,hv,hz,hh,hg,uW⟩:=h;exact⟨a,g,arr,T,fr,hv,hz,(hf _ (.inl hz)).trans hh,hg,Ls.AN e uW (λb hb=>hf b (hb.elim (λhb=>by cases hb) .inl)) λb hb=>hb⟩
 |fn f=>exact h
 |Iz t c=>
  obtain⟨u,hv,h⟩:=h;refine⟨u,hv,λgen t e xs d hl hp=>?_⟩;obtain⟨h',e',hc,hn⟩:=h gen t e xs d hl hp;obtain⟨u',hu,uW⟩:=(hr c.r).row hl;have:u'=h':=Option.some.inj (hu.symm.trans hc);subst this;exact⟨u',e',hc,BN _ uW hn λb hb=>hf b (hb.elim (λhb=>.inr ⟨_,hb⟩) .inl)⟩
 |D2 g ps qs=>exact h
 |arr=>exact h
theorem Ey.map{s s':St}{W W':Wd}(f:∀a v,AR s W a v->AR s' W' a v){g:Bool}{as:List LA}{v:Value}(h:Ey s W g as v):Ey s' W' g as v:=by unfold Ey at *;grind
theorem BO.map{s s':St}{W W':Wd}(hz:∀b,W.fz b->W'.fz b/\W'.w.heap[b]?=W.w.heap[b]?)(f:∀a v,AR s W a v->AR s' W' a v){a:AV}{v:Value}(h:BO s W a v):BO s' W' a v:=by
 cases a with
 |v g as=>exact Ey.map f h
 |Da vs=>
  obtain⟨us,hv,hs,h⟩:=h;exact⟨us,hv,hs,λj p hp=>let ⟨u,hu,hl⟩:=h j p hp;⟨u,hu,Ey.map f hl⟩⟩
 |bx as=>
  obtain⟨b,off,arr,T,fr,hv,h1,h2,h3,h⟩:=h;exact⟨b,off,arr,T,fr,hv,(hz b h1).1,(hz b h1).2.trans h2,h3,λj a ha=>let ⟨u,hu,hl⟩:=h j a ha;⟨u,hu,f _ _ hl⟩⟩
theorem Aa.map{s s':St}{W W':Wd}(f:∀a v,AR s W a v->AR s' W' a v){a:LA}{v?:Option Value}{o:Is}
  (g:∀(e:Ls)(d:Nat)(xs:List e.D)(v:Value),AE e d W.w W.fz v xs o->AE e d W'.w W'.fz v xs o) (h:Aa s W a v? o):Aa s' W' a v? o:=by
 unfold Aa at *;grind
theorem AW.world(h:AW E s tm W)(hf:Still W w')(hb:∀b,b<E.base->¬E.io b->w'.heap[b]?=W.w.heap[b]?)(hs:W.w.heap.size<=w'.heap.size)(ho:w'.os=W.w.os/\w'.tape=W.w.tape/\w'.output=W.w.output):AW E s tm { W with w:=w' } where
 DS:=h.DS
 Bb:=h.Bb
 AM t:=BO.map (W:=W) (W':={ W with w:=w' }) (λb hb=>⟨hb,hf b (.inl hb)⟩) (λ_ _=>AR.world h.roots hf) (h.AM t)
 roots r:=by
  obtain⟨h1,h2⟩:=h.roots r;refine⟨λj=>(h1 j).map (λ_ _=>AR.world h.roots hf) λe d xs v uW=>uW.frame (λb hb=>hf b (hb.elim (λhb=>.inr ⟨_,hb⟩) .inl)) λb hb=>hb,?_⟩;split
  ·rename_i xD;rw[AAP xD]at h2;obtain⟨ho,arr,T,fr,hh,rest⟩:=h2;exact⟨ho,arr,T,fr,(hf _ (.inr ⟨.blk r,by rw[ho];simp⟩)).trans hh,rest⟩
  grind
 sep:={
  nodup:=h.sep.nodup
  A7:=h.sep.A7
  own:=λk b hb=>let ⟨a,c,d⟩:=h.sep.own k b hb;⟨a,AA6 c hs,d⟩
  fz:=λb uZ=>let ⟨a,c⟩:=h.sep.fz b uZ;⟨AA6 a hs,c⟩
  frame:=λb wH w6=>(hb b wH w6).trans (h.sep.frame b wH w6)
  size:=AA2 h.sep.size hs
  rest:=⟨ho.1.trans h.sep.rest.1,ho.2.1.trans h.sep.rest.2.1,ho.2.2.trans h.sep.rest.2.2⟩ }
 init:=h.init
theorem AW.J7(h:AW E s tm W)(hf:∀b,b<W.w.heap.size->w'.heap[b]?=W.w.heap[b]?):Still W w':=by
 intro b hb;rcases hb with hb|⟨k,hb⟩
 ·exact hf b (h.sep.fz b hb).1
 ·exact hf b (h.sep.own k b hb).2.1
end
end Go.Ev
namespace Go.Ev
def LA.B6:LA->Bool
 | .arr _ _ _ _ _ _=>true
 |_=>false
def Aj(s:St)(v:Nat):Prop:=(∀t,v∉(s.slot t).AF)/\(∀r j,(s.leaf r j).B6=true\/v∉(s.leaf r j).AF)/\1<v
structure Eg(v:Nat)(s s':St)(W W':Wd):Prop where
 fz:∀b,W.fz b->W'.fz b
 Lj:∀b,W.fz b->W'.w.heap[b]?=W.w.heap[b]?
 leaf:∀r j AB gen t e xs d,s'.leaf r j=.arr AB gen t e xs d->AB≠v->W'.cv r j=W.cv r j/\
  ∃gen0 t0 xs0 d0,s.leaf r j=.arr AB gen0 t0 e xs0 d0/\(gen≠v->gen=gen0/\∀p h e' u,W.cv r j=some h->JL W.w p e h e' u->JL W'.w p e h e' u)
 box:∀r,(s'.root r).box=true->(s'.root r).AB≠v->(s.root r).box=true/\(s.root r).AB=(s'.root r).AB/\W'.bk r=W.bk r
section
variable {v:Nat}{E:Ck}{s s':St}{tm tm':Array Value}{W W':Wd}
theorem CS:∀ {p q:List (Nat×Nat)} {i off:Nat},Ai p=some (q,i,off)->p=q++[(i,off)]
 | [],_,_,_,h=>by simp[Ai]at h
 | [x],q,i,off,h=>by simp[Ai]at h;grind
 |x::y::r,q,i,off,h=>by
  simp only[Ai]at h;split at h
  ·rename_i q' i' off' hq;injection h with h
   injection h with h1 h2
   injection h2 with h2 h3
   subst h1;subst h2;subst h3;rw[CS hq];rfl
  ·cases h
theorem AR.Dh(h:Eg v s s' W W'){a:LA}{u:Value}(hv:v∉a.AF)(ha:AR s W a u):AR s' W' a u:=by
 cases a with
 |bad=>trivial
 |undef=>exact ha
 |CA=>exact ha
 |I8=>exact ha
 |sc l x=>exact L.AN l ha (λb hb=>h.Lj b (hb.elim (λhb=>by cases hb) id)) h.fz
 |ref c=>
  intro gen t e xs d hl hp;have uV:c.AB≠v/\c.gen≠v:=by simp[LA.AF]at hv;exact⟨λe=>hv.1 e.symm,λe=>hv.2 e.symm⟩
  obtain⟨hc,gen0,t0,xs0,d0,vq,hg⟩:=h.leaf _ _ _ _ _ _ _ _ hl uV.1;by_cases hn:c.p=[]
  ·obtain⟨h',e',vL,yZ⟩:=ha _ _ _ _ _ vq (.inl hn);rw[hn]at yZ;exact⟨h',e',hc.trans vL,by rw[hn];exact yZ⟩
  ·have vW:gen=c.gen:=hp.resolve_left hn;obtain⟨rfl,wv⟩:=hg (by rw[vW];exact uV.2);obtain⟨h',e',vL,yZ⟩:=ha _ _ _ _ _ vq (.inr vW);grind
 |Dy c lo hi=>
  intro gen t e xs d hl hp;have uV:c.AB≠v/\c.gen≠v:=by simp[LA.AF]at hv;exact⟨λe=>hv.1 e.symm,λe=>hv.2 e.symm⟩
  obtain⟨hc,gen0,t0,xs0,d0,vq,hg⟩:=h.leaf _ _ _ _ _ _ _ _ hl uV.1;by_cases hn:c.p=[]
  ·obtain⟨h',e',A,n,k,vL,yZ,rest⟩:=ha _ _ _ _ _ vq (.inl hn);rw[hn]at yZ;exact⟨h',e',A,n,k,hc.trans vL,by rw[hn];exact yZ,rest⟩
  ·have vW:gen=c.gen:=hp.resolve_left hn;obtain⟨rfl,wv⟩:=hg (by rw[vW];exact uV.2);obtain⟨h',e',A,n,k,vL,yZ,rest⟩:=ha _ _ _ _ _ vq (.inr vW);grind
 |ptr r j AB=>
  intro hb uT;have uV:AB≠v:=by simp[LA.AF]at hv;exactλe=>hv e.symm
  obtain⟨b1,b2,b3⟩:=h.box r hb J;rw[b3];exact ha b1 (b2.trans uT)
 |Ba c=>
  intro gen t e xs d hl hp;have uV:c.AB≠v/\c.gen≠v:=by simp[LA.AF]at hv;exact⟨λe=>hv.1 e.symm,λe=>hv.2 e.symm⟩
  obtain⟨hc,gen0,t0,xs0,d0,vq,hg⟩:=h.leaf _ _ _ _ _ _ _ _ hl uV.1;by_cases hn:c.p.length<=1
  ·obtain⟨q,i,off,h',e',a,n,k,hs,vL,yZ,rest⟩:=ha _ _ _ _ _ vq (.inl hn)
   have hq:q=[]:=by have h1:=CS hs;rw[h1,ABA]at hn;simpa using hn
   subst hq;exact⟨[],i,off,h',e',a,n,k,hs,hc.trans vL,yZ,rest⟩
  ·have vW:gen=c.gen:=hp.resolve_left hn;obtain⟨rfl,wv⟩:=hg (by rw[vW];exact uV.2);obtain⟨q,i,off,h',e',a,n,k,hs,vL,yZ,rest⟩:=ha _ _ _ _ _ vq (.inr vW);grind
 |Ds e x off=>
  obtain⟨a,g,arr,T,fr,wY,hz,hh,hg,uW⟩:=ha;exact⟨a,g,arr,T,fr,wY,h.fz _ hz,(h.Lj _ hz).trans hh,hg,Ls.AN e uW (λb hb=>h.Lj b (hb.elim (λhb=>by cases hb) id)) h.fz⟩
 |fn f=>exact ha
 |Iz tt c=>
  obtain⟨u',wY,ha⟩:=ha;refine⟨u',wY,λgen t e xs d hl hp=>?_⟩;have uV:c.AB≠v/\c.gen≠v:=by simp[LA.AF]at hv;exact⟨λe=>hv.1 e.symm,λe=>hv.2 e.symm⟩
  obtain⟨hc,gen0,t0,xs0,d0,vq,hg⟩:=h.leaf _ _ _ _ _ _ _ _ hl uV.1;by_cases hn:c.p=[]
  ·obtain⟨h',e',vL,yZ⟩:=ha _ _ _ _ _ vq (.inl hn);rw[hn]at yZ;exact⟨h',e',hc.trans vL,by rw[hn];exact yZ⟩
  grind
 |D2 g ps qs=>
  obtain⟨bs,hu,hlen,hk⟩:=ha;refine⟨bs,hu,hlen,λk p b hp hb h1 h2=>?_⟩;have uV:p.2≠v:=λe=>hv (by simp only[LA.AF];exact AAs.2 ⟨p,AAN hp,e⟩);obtain⟨b1,b2,b3⟩:=h.box p.1 h1 (by rw[h2];exact uV);grind
 |arr=>exact ha
theorem Ey.Dh(h:Eg v s s' W W'){g:Bool}{as:List LA}{u:Value}(hv:∀a∈as,v∉a.AF)(ha:Ey s W g as u):Ey s' W' g as u:=by
 unfold Ey at *;cases g with
 |false=>cases as with
  |nil=>exact ha
  |cons a as=>cases as with
   |nil=>exact AR.Dh h (hv a OF) ha
   |cons=>exact ha
 |true=>
  obtain⟨cs,hc,hs,ha⟩:=ha;exact⟨cs,hc,hs,λj a hj=>let ⟨u,hu,hl⟩:=ha j a hj;⟨u,hu,AR.Dh h (hv a (AAN hj)) hl⟩⟩
theorem BO.Dh(h:Eg v s s' W W'){a:AV}{u:Value}(hv:v∉a.AF)(ha:BO s W a u):BO s' W' a u:=by
 cases a with
 |v g as=>exact Ey.Dh h (λa hm hx=>hv (AAL.2 ⟨a,hm,hx⟩)) ha
 |Da vs=>
  obtain⟨us,hu,hs,ha⟩:=ha;refine⟨us,hu,hs,λj p hp=>?_⟩;obtain⟨u,hu,hl⟩:=ha j p hp;exact⟨u,hu,Ey.Dh h (λa hm hx=>hv (AAL.2 ⟨p,AAN hp,AAL.2 ⟨a,hm,hx⟩⟩)) hl⟩
 |bx as=>
  obtain⟨b,off,arr,T,fr,hu,h1,h2,h3,ha⟩:=ha;refine⟨b,off,arr,T,fr,hu,h.fz b h1,(h.Lj b h1).trans h2,h3,λj a hj=>?_⟩;obtain⟨u,hu,hl⟩:=ha j a hj;exact⟨u,hu,AR.Dh h (λhx=>hv (AAL.2 ⟨a,AAN hj,hx⟩)) hl⟩
theorem Kl{α:Type}{d:α}{l:List α}{n:Nat}(h:n<l.length):nth d l n∈l:=by rw[Ad,AAI h];simp
theorem Aa.Dh(h:Eg v s s' W W'){a:LA}{v?:Option Value}{o:Is}(hv:a.B6=true\/v∉a.AF)(ho:∀b∈o,W'.w.heap[b]?=W.w.heap[b]?)(ha:Aa s W a v? o):Aa s' W' a v? o:=by
 unfold Aa at *;cases a with
 |arr AB gen t e xs d=>
  obtain⟨u,hu,hr⟩:=ha;exact⟨u,hu,hr.frame (λb hb=>hb.elim (ho b) (h.Lj b)) h.fz⟩
 |_=>exact⟨ha.1,λu hu=>AR.Dh h (hv.resolve_left (by simp[LA.B6])) (ha.2 u hu)⟩
theorem Sep.IH(h:Sep E W)(ch:Key->Prop)(wJ:W'.fz=W.fz)(uh:W.w.heap.size<=W'.w.heap.size)
  (vV:∀b,b<E.base->¬E.io b->W'.w.heap[b]?=W.w.heap[b]?) (ho:W'.w.os=W.w.os/\W'.w.tape=W.w.tape/\W'.w.output=W.w.output)
  (uS:∀k,¬ch k->W'.om k=W.om k) (vd:∀k,ch k->(W'.om k).Nodup) (vU:∀k k',ch k->ch k'->k≠k'->∀b∈W'.om k,b∉W'.om k')
  (va:∀k,ch k->∀b∈W'.om k,(∃k0,ch k0/\b∈W.om k0)\/(W.w.heap.size<=b/\b<W'.w.heap.size)):Sep E W' where
 nodup k:=by
  by_cases hk:ch k
  ·grind
  ·rw[uS k hk];exact h.nodup k
 A7 k k' uV b hb uZ:=by
  by_cases hk:ch k<;>by_cases vh:ch k'
  ·grind
  ·rw[uS k' vh]at uZ;rcases va k hk b hb with⟨k0,yi,h0⟩|⟨h0,_⟩
   ·exact h.A7 k0 k' (λe=>vh (e▸yi)) b h0 uZ
   ·have:=(h.own k' b uZ).2.1;omega
  ·rw[uS k hk]at hb;rcases va k' vh b uZ with⟨k0,yi,h0⟩|⟨h0,_⟩
   ·exact h.A7 k0 k (λe=>hk (e▸yi)) b h0 hb
   ·have:=(h.own k b hb).2.1;omega
  ·rw[uS k hk]at hb;rw[uS k' vh]at uZ;exact h.A7 k k' uV b hb uZ
 own k b hb:=by
  rw[wJ];by_cases hk:ch k
  ·rcases va k hk b hb with⟨k0,_,h0⟩|⟨h0,h1⟩
   ·obtain⟨a,c,d⟩:=h.own k0 b h0;grind
   ·exact⟨λhz=>by have:=(h.fz b hz).1;omega,h1,.inl (by have:=h.size;omega)⟩
  ·rw[uS k hk]at hb;obtain⟨a,c,d⟩:=h.own k b hb;grind
 fz b hb:=by rw[wJ]at hb;obtain⟨a,c⟩:=h.fz b hb;grind
 frame b h1 h2:=(vV b h1 h2).trans (h.frame b h1 h2)
 size:=AA2 h.size uh
 rest:=⟨ho.1.trans h.rest.1,ho.2.1.trans h.rest.2.1,ho.2.2.trans h.rest.2.2⟩
theorem AW.IH(h:AW E s tm W)(hv:Aj s v)(ht:Eg v s s' W W')(wV:Sep E W')(l1:s'.sl.length=tm'.size)(l2:s'.ro.length=tm'.size)
  (hs:∀t,(s'.slot t=s.slot t/\tm'.getD t Go.undef=tm.getD t Go.undef)\/BO s' W' (s'.slot t) (tm'.getD t Go.undef))
  (hr:∀r,D5 s' W' r (s'.root r)):AW E s' tm' W' where
 DS:=l1
 Bb:=l2
 AM t:=by
  rcases hs t with⟨a,b⟩|a
  ·rw[a,b];exact BO.Dh ht (hv.1 t) (h.AM t)
  ·exact a
 roots:=hr
 sep:=wV
 init:=by
  have h1:1≠v:=Nat.ne_of_lt hv.2.2;refine⟨λr j gen t e xs d hl=>?_,λr hb uT=>?_⟩
  ·obtain⟨hc,gen0,t0,xs0,d0,vq,_⟩:=ht.leaf r j 1 gen t e xs d hl h1;exact hc.trans (h.init.1 _ _ _ _ _ _ _ vq)
  ·obtain⟨b1,b2,b3⟩:=ht.box r hb J;exact b3.trans (h.init.2 r b1 (b2.trans uT))
end
end Go.Ev
namespace Go.Ev
def Bu:L->Value
 | .int k=>.int k 0
 | .bool=>.bool false
 | .str=>.string .empty
 | .sl _ _=>.slice none 0 0
structure Nd(P:Program)(t:TypeId)(e:Ls):Prop where
 info:∃i,P.info? t=some i/\i.size=e.n/\i.bytes<=1024/\∃z,i.zero=some z/\z.cells=(e.kinds.map Bu).toArray
 pos:0<e.n
def GG(P:Program)(t:TypeId):L->Prop
 | .int k=>P.underlying t=some (.int k)
 | .bool=>P.underlying t=some .bool
 | .str=>P.underlying t=some .string
 | .sl t' e=>P.underlying t=some (.slice t')/\Nd P t' e
def Io(P:Program)(t:TypeId):L->Prop
 | .int k=>P.underlying t=some (.int k)
 | .bool=>P.underlying t=some .bool
 | .str=>P.underlying t=some .string
 | .sl _ _=>False
def Gj(P:Program):Nat->List Field->List L->Prop
 |_,[],[]=>True
 | n, f :: fs, l :: ls => f.name ≠ "_" /\ f.offset = n /\ Io P f.type l /\ Gj P (n + 1) fs ls
 |_,_,_=>False
structure O6(P:Program)(t:TypeId)(ls:List L):Prop where
 held:P.stoodInHeld t=false
 guard:P.eqGuardType P.depth t=false
 fields:∃fs:Array Field,P.underlying t=some (.struct fs)/\Gj P 0 fs.toList ls
structure NT(P:Program)(t:TypeId)(ty:Ty):Prop where
 info:∃i,P.info? t=some i/\i.size=ty.ls.n/\∃z,i.zero=some z/\z.cells=(ty.ls.kinds.map Bu).toArray/\(z=.agg (ty.ls.kinds.map Bu).toArray\/ty.agg=false)
 agg:ty.agg=true->∃fs:Array Field,P.underlying t=some (.struct fs)/\fs.toList.map (λf=>(f.offset,f.type))=ty.fs/\∃pl,fs.toList.mapM (λf=>(P.info? f.type).map λi=>(f.offset,i.size))=some pl
 lone:ty.agg=false->∃l,ty.ls=.one l/\GG P t l
 eqs:ty.eq=true->O6 P t ty.ls.kinds
def ON(P:Program)(t:TypeId):Prop:=∃i z c,P.info? t=some i/\i.size=1/\i.zero=some z/\z.cells = #[c]/\c.oneCell'=true
def Lk(P:Program)(env:Env):Prop:=∀t,env.O0 t=true->ON P t
def Db(P:Program)(cx:Cx):Prop:=∀t ty,cx.ty t=some ty->NT P t ty
theorem GG.I9{P:Program}{t:TypeId}{l:L}(h:GG P t l):∃d,P.underlying t=some d/\(match d with | .struct _ | .array _ _=>true|_=>false)=false:=by
 cases l with
 |int k=>exact⟨_,h,rfl⟩
 |bool=>exact⟨_,h,rfl⟩
 |str=>exact⟨_,h,rfl⟩
 |sl t' e=>exact⟨_,h.1,rfl⟩
def BS(P:Program)(E:Ck)(o:Oper)(a:Act)(w:World)(s':St):Prop:=
 ∀(next:Act->World->Prop)(Q:Exit->Act->World->Prop),(∀a' W',a'.defers=a.defers->AW E s' a'.tmps W'->next a' W'.w)->o.wp P a w next Q
section
variable {P:Program}{E:Ck}{s:St}{tm:Array Value}{W:Wd}{o:Oper}{a:Act}
theorem BH(s:St)(d:Nat)(x:AV)(t:Nat):(s.AG (.slot d x)).slot t=if d=t/\d<s.sl.length then x else s.slot t:=BW _ _ _ _ _
theorem Ap(s:St)(d:Nat)(x:Bz)(t:Nat):(s.AG (.root d x)).root t=if d=t/\d<s.ro.length then x else s.root t:=BW _ _ _ _ _
theorem AW.slot(h:AW E s tm W)(d:Nat){x:AV}{u:Value}(hx:BO s W x u):AW E (s.AG (.slot d x)) (tm.setIfInBounds d u) W where
 DS:=by simp[St.AG,CG,h.DS]
 Bb:=by simp[St.AG,h.Bb]
 AM t:=by
  rw[BH];by_cases hd:d=t/\d<s.sl.length
  ·obtain⟨rfl,uR⟩:=hd;rw[AAP ⟨rfl,uR⟩]
   have:(tm.setIfInBounds d u).getD d Go.undef=u:=by rw[h.DS]at uR;simp[AAw,uR]
   rw[this];exact hx
  ·rw[AAQ hd]
   have:(tm.setIfInBounds d u).getD t Go.undef=tm.getD t Go.undef:=by
    by_cases hdt:d=t
    ·have:¬d<tm.size:=λhl=>hd ⟨hdt,by rw[h.DS];exact hl⟩;grind
    ·simp[AAw,hdt]
   rw[this];exact h.AM t
 roots r:=h.roots r
 sep:=h.sep
 init:=h.init
theorem AW.outs(h:AW E s tm W)(dst:Option Nat){x:AV}{u:Value}(hx:BO s W x u):
  AW E (s.app (match dst with|some d=>[.slot d x]|none=>[])) (match dst with|some d=>tm.setIfInBounds d u|none=>tm) W:=by
 cases dst with
 |none=>exact h
 |some d=>exact h.slot d hx
theorem BF(v:Value):AR s W (ofConst v) v:=by
 cases v with
 |int k n=>exact⟨rfl,rfl⟩
 |bool b=>exact⟨rfl,rfl⟩
 |string b=>exact⟨OF,rfl⟩
 |slice A n c=>
  cases A with
  |none=>cases n with
   |zero=>cases c with
    |zero=>exact rfl
    |succ c=>trivial
   |succ n=>trivial
  |some a=>trivial
 |pointer A=>cases A with
  |none=>exact rfl
  |some a=>trivial
 |_=>trivial
theorem A6(h:AW E s a.tmps W)(x:Operand):BO s W (s.Ar x) (a.eval x):=by
 cases x with
 |tmp t=>exact h.AM t
 |const v=>
  cases v with
  |agg cs=>
   refine⟨cs,rfl,OF,λj b hj=>?_⟩;simp only[AAZ]at hj;cases hc:cs.toList[j]? with
   |none=>grind
   |some u=>
    rw[hc]at hj;injection hj with hj;subst hj
    exact⟨u,No,BF u⟩
  |bool b=>exact BF (s:=s) (W:=W) (.bool b)
  |int k n=>exact BF (s:=s) (W:=W) (.int k n)
  |float k n=>exact BF (s:=s) (W:=W) (.float k n)
  |complex k x y=>exact BF (s:=s) (W:=W) (.complex k x y)
  |string b=>exact BF (s:=s) (W:=W) (.string b)
  |pointer b=>exact BF (s:=s) (W:=W) (.pointer b)
  |slice b n c=>exact BF (s:=s) (W:=W) (.slice b n c)
  |map r=>exact BF (s:=s) (W:=W) (.map r)
  |chan r=>exact BF (s:=s) (W:=W) (.chan r)
  |func f x y=>exact BF (s:=s) (W:=W) (.func f x y)
  |nilFunc=>exact BF (s:=s) (W:=W) .nilFunc
  |iface t x=>exact BF (s:=s) (W:=W) (.iface t x)
  |nilIface=>exact BF (s:=s) (W:=W) .nilIface
  |tuple vs=>exact BF (s:=s) (W:=W) (.tuple vs)
 |global g=>exact trivial
 |func f=>exact rfl
theorem Ac(h:AW E s a.tmps W)(x:Operand):AR s W (s.Af x) (a.eval x):=by
 have:=A6 h x;unfold St.Af
 revert this
 cases s.Ar x with
 |Da vs=>intro _;trivial
 |bx as=>intro _;trivial
 |v g as=>
  cases g with
  |true=>intro _;cases as with
   |nil=>trivial
   |cons b bs=>cases bs<;>trivial
  |false=>cases as with
   |nil=>intro _;trivial
   |cons b bs=>cases bs with
    |nil=>intro h;exact h
    |cons=>intro _;trivial
theorem Hb(h:AW E s a.tmps W){u:Value}{x:AV}(ub:(execOp a.eval o).run P W.w=.ok (.value u) W.w)(hx:BO s W x u):
  BS P E o a W.w (s.app (match o.dst with|some d=>[.slot d x]|none=>[])):=by
 intro next Q hn
 unfold Oper.wp;rw[ub];show next (a.put o.dst u) W.w
 refine hn _ W ?_ ?_
 ·cases o.dst<;>rfl
 ·have:=h.outs o.dst hx;cases hd:o.dst with
  |none=>rw[hd]at this;exact this
  |some d=>rw[hd]at this;exact this
theorem OI(h:AW E s a.tmps W){x:Operand}(ho:o.op=.move x):BS P E o a W.w (s.app (match o.dst with|some d=>[.slot d (s.Ar x)]|none=>[])):=
 Hb h (by simp[execOp,ho]) (A6 h x)
theorem IntKind.HD{i j:IntKind}(h:(IntKind.code i==IntKind.code j)=true):i=j:=IntKind.EA ADQ
theorem BX(k:IntKind)(n:Int):BO s W (ID k n) (.int k n):=⟨rfl,rfl⟩
theorem CN(b:Bool):BO s W (H3 b) (.bool b):=⟨rfl,rfl⟩
theorem KZ(b:ADD):BO s W (Oo b) (.string ⟨b.toArray⟩):=⟨rfl,rfl⟩
theorem Lg{cx:Cx}(hc:Db P cx){t:TypeId}(h:Gi cx t .bool=true):P.underlying t=some .bool:=by
 unfold Gi at h;split at h
 ·rename_i ty ht;simp at h;obtain⟨l,hl,hf⟩:=(hc t ty ht).lone h.1;rw[hl]at h;have:=h.2;simp only[Ls.eq?]at this;obtain rfl:=L.Dd this;exact hf
 ·cases h
variable {T:Type}{β:Type}
theorem Ah{b:Bool}{x y:Step β}{t:β}(h:(Step.iff b x y).leads t):(b=true/\x.leads t)\/(b=false/\y.leads t):=by
 cases b
 ·exact .inr ⟨rfl,h⟩
 ·exact .inl ⟨rfl,h⟩
theorem Mu{op:BinOp}{y:Operand}{i:IntKind}{m n:Int}{k:AV->Step β}{t:β}(hz:isZero y=false->n≠0)(h:(Lz op y i m n k).leads t)(tx:TypeId)(x:Operand)(w:World):
  ∃z r,(k z).leads t/\BO s W z r/\(do eqGuard op tx x y (.int i m) (.int i n);binOp op tx (.int i m) (.int i n):Sem Value).run P w=.ok r w:=by
 cases op<;>simp only[Lz]at h
 case add=>exact⟨_,_,h,BX _ _,by simp[eqGuard,binOp,Op.intArith]⟩
 case sub=>exact⟨_,_,h,BX _ _,by simp[eqGuard,binOp,Op.intArith]⟩
 case mul=>exact⟨_,_,h,BX _ _,by simp[eqGuard,binOp,Op.intArith]⟩
 case quo=>
  have h0:n≠0/\(k (ID i (i.wrap (Int.tdiv m n)))).leads t:=by
   split at h
   ·rcases Ah h with⟨_,h⟩|⟨hb,h⟩
    ·exact h.elim
    grind
   ·grind
  exact⟨_,_,h0.2,BX _ _,by simp[eqGuard,binOp,Op.intDiv,h0.1]⟩
 case rem=>
  have h0:n≠0/\(k (ID i (Int.tmod m n))).leads t:=by
   split at h
   ·rcases Ah h with⟨_,h⟩|⟨hb,h⟩
    ·exact h.elim
    grind
   ·grind
  exact⟨_,_,h0.2,BX _ _,by simp[eqGuard,binOp,Op.intDiv,h0.1]⟩
 case eql=>exact⟨_,_,h,CN _,by simp[eqGuard,binOp,Op.intCmp]⟩
 case neq=>exact⟨_,_,h,CN _,by simp[eqGuard,binOp,Op.intCmp]⟩
 case lss=>exact⟨_,_,h,CN _,by simp[eqGuard,binOp,Op.intCmp]⟩
 case leq=>exact⟨_,_,h,CN _,by simp[eqGuard,binOp,Op.intCmp]⟩
 case gtr=>exact⟨_,_,h,CN _,by simp[eqGuard,binOp,Op.intCmp]⟩
 case geq=>exact⟨_,_,h,CN _,by simp[eqGuard,binOp,Op.intCmp]⟩
 case and=>exact⟨_,_,h,BX _ _,by simp[eqGuard,binOp,Op.intBits,OO]⟩
 case or=>exact⟨_,_,h,BX _ _,by simp[eqGuard,binOp,Op.intBits,PB]⟩
 case xor=>exact⟨_,_,h,BX _ _,by simp[eqGuard,binOp,Op.intBits,Od]⟩
 case shl=>
  rcases Ah h with⟨hb,h⟩|⟨_,h⟩
  ·have hb:¬n<0:=by have:=AAu hb;omega
   exact⟨_,_,h,BX _ _,by simp[eqGuard,binOp,Op.shift,N7,hb]⟩
  ·exact h.elim
 case shr=>
  rcases Ah h with⟨hb,h⟩|⟨_,h⟩
  ·have hb:¬n<0:=by have:=AAu hb;omega
   exact⟨_,_,h,BX _ _,by simp[eqGuard,binOp,Op.shift,N8,hb]⟩
  ·exact h.elim
 all_goals exact h.elim
theorem Mf{op:BinOp}(hs:Gq op=true){y:Operand}{i j:IntKind}{m n:Int}{k:AV->Step β}{t:β}(h:(Lz op y i m n k).leads t)(tx:TypeId)(x:Operand)(w:World):
  ∃z r,(k z).leads t/\BO s W z r/\(do eqGuard op tx x y (.int i m) (.int j n);binOp op tx (.int i m) (.int j n):Sem Value).run P w=.ok r w:=by
 cases op<;>simp only[Gq,ABK]at hs<;>simp only[Lz]at h
 case shl=>
  rcases Ah h with⟨hb,h⟩|⟨_,h⟩
  ·have hb:¬n<0:=by have:=AAu hb;omega
   exact⟨_,_,h,BX _ _,by simp[eqGuard,binOp,Op.shift,N7,hb]⟩
  ·exact h.elim
 case shr=>
  rcases Ah h with⟨hb,h⟩|⟨_,h⟩
  ·have hb:¬n<0:=by have:=AAu hb;omega
   exact⟨_,_,h,BX _ _,by simp[eqGuard,binOp,Op.shift,N8,hb]⟩
  ·exact h.elim
theorem Mt{op:BinOp}{y:Operand}{m n:Bool}{k:AV->Step β}{t:β}(h:(Ni op m n k).leads t)(tx:TypeId)(htx:P.underlying tx=some .bool)(x:Operand)(w:World):
  ∃z r,(k z).leads t/\BO s W z r/\(do eqGuard op tx x y (.bool m) (.bool n);binOp op tx (.bool m) (.bool n):Sem Value).run P w=.ok r w:=by
 cases op<;>simp only[Ni]at h
 case eql=>exact⟨_,_,h,CN _,by simp[eqGuard,run_eql_bool _ tx m n htx]⟩
 case neq=>exact⟨_,.bool (!(m==n)),h,⟨rfl,rfl⟩,by simp[eqGuard,run_neq_bool _ tx m n htx]⟩
 all_goals exact h.elim
theorem Mv{op:BinOp}{y:Operand}{m n:ADD}{k:AV->Step β}{t:β}(h:(Nj op m n k).leads t)(tx:TypeId)(x:Operand)(w:World):
  ∃z r,(k z).leads t/\BO s W z r/\(do eqGuard op tx x y (.string ⟨m.toArray⟩) (.string ⟨n.toArray⟩);binOp op tx (.string ⟨m.toArray⟩) (.string ⟨n.toArray⟩):Sem Value).run P w=.ok r w:=by
 have tl:∀l:ADD,(⟨l.toArray⟩:ByteArray).toList=l:=λl=>OF
 cases op<;>simp only[Nj]at h
 case eql=>exact⟨_,_,h,CN _,by simp[eqGuard,binOp,Op.stringOp,tl]⟩
 case neq=>exact⟨_,_,h,CN _,by simp[eqGuard,binOp,Op.stringOp,tl]⟩
 case add=>
  rcases Ah h with⟨hb,h⟩|⟨_,h⟩
  ·refine⟨_,_,h,KZ _,?_⟩;have hb:m.length+n.length<=4611686018427387904:=AAu hb;have hr:=run_string_add_sum (P:=P) w ⟨m.toArray⟩ ⟨n.toArray⟩ (by simp[ByteArray.size];omega);rw[ByteArray.mk_append_mk]at hr;simp only[eqGuard,binOp];grind
  ·exact h.elim
 all_goals exact h.elim
theorem L0{cx:Cx}(hc:Db P cx){op:BinOp}{tx:TypeId}{x y:Operand}(h:AW E s a.tmps W){k:AV->Step β}{t:β}
  (hl:(binop (Gi cx tx .bool) op y (s.Af x) (s.Af y) k).leads t):
  ∃z r,(k z).leads t/\BO s W z r/\(do eqGuard op tx x y (a.eval x) (a.eval y);binOp op tx (a.eval x) (a.eval y):Sem Value).run P W.w=.ok r W.w:=by
 have h1:=Ac h x;have h2:=Ac h y
 have hz:∀(k:IntKind)(n:Int),s.Af y=.sc (.int k) n->isZero y=false->n≠0:=by
  intro k n hy h0;cases y with
  |const v=>
   cases v with
   |int j m=>
    simp only[St.Af,St.Ar,AV.one?,ofConst]at hy;injection hy with e1 e2
    injection e1 with e1
    subst e1;subst e2;simp[isZero]at h0;exact h0
   |_=>simp[isZero]at h0
  |_=>simp[isZero]at h0
 revert h1 h2 hl hz
 generalize s.Af x=p;generalize s.Af y=q;intro hl h1 h2 hz;unfold binop at hl;split at hl
 ·rename_i l m n r;cases l with
  |int i=>cases n with
   |int j=>
    simp only at hl;split at hl
    ·rename_i zN;rw[h1.1,h2.1];cases hs:Gq op with
     |true=>exact Mf hs hl tx x _
     |false=>
      rw[hs,Bool.or_false]at zN;obtain rfl:=IntKind.HD zN;exact Mu (hz _ _ rfl) hl tx x _
    ·exact hl.elim
   |_=>exact hl.elim
  |bool=>cases n with
   |bool=>
    simp only at hl;split at hl
    ·rename_i hb;rw[h1.1,h2.1];exact Mt hl tx (Lg hc hb) x _
    ·exact hl.elim
   |_=>exact hl.elim
  |str=>cases n with
   |str=>
    rw[h1.1,h2.1];exact Mv hl tx x _
   |_=>exact hl.elim
  |sl t e=>cases n<;>exact hl.elim
 ·exact hl.elim
theorem IZ{d:Nat}{w:World}{fz:Nat->Prop}{k:(t:TypeId)->(f:Ls)->List f.D->Step β}{t:β}:∀(e:Ls)(j:Nat) {g:Nat->Option Value} {x:e.D} {o:Is} {t':TypeId} {f:Ls} {h:Value},
  (I4 e j x k).leads t->e.rd d w fz g x o->e.kinds[j]?=some (.sl t' f)->g j=some h->∃(ys:List f.D) (o':Is),(k t' f ys).leads t/\AE f d w fz h ys o'/\∀b∈o',b∈o
 | .nil,j,_,_,_,_,_,_,hl,_,_,_=>hl.elim
 | .one l,0,g,x,o,t',f,h,hl,hr,hk,hg=>by
  simp only[Ls.rd]at hr;obtain⟨v,hv,hr⟩:=hr;simp[Ls.kinds]at hk;subst hk;rw[hg]at hv;injection hv with hv;subst hv
  exact⟨x,o,hl,hr,λb hb=>hb⟩
 | .one _,_+1,_,_,_,_,_,_,hl,_,_,_=>hl.elim
 | .cons l ls,0,g,x,o,t',f,h,hl,hr,hk,hg=>by
  simp only[Ls.rd]at hr;obtain⟨v,o1,o2,hv,hr,zG,rfl⟩:=hr;simp[Ls.kinds]at hk;subst hk;rw[hg]at hv;injection hv with hv;subst hv
  exact⟨x.1,o1,hl,hr,λb hb=>AAU _ hb⟩
 | .cons l ls,j+1,g,x,o,t',f,h,hl,hr,hk,hg=>by simp only[Ls.rd]at hr;obtain⟨v,o1,o2,hv,hr,zG,rfl⟩:=hr;obtain⟨ys,o',a,b,c⟩:=IZ ls j hl zG (by simpa[Ls.kinds]using hk) hg;grind
theorem L3{w:World}{fz:Nat->Prop}{k:(t:TypeId)->(e:Ls)->List e.D->Nat->Step β}{t:β}:∀(p:List (Nat×Nat)) {t0:TypeId} {e:Ls} {xs:List e.D} {d:Nat} {h:Value} {o:Is} {e':Ls} {v:Value},
  (OT k p t0 e xs d).leads t->AE e d w fz h xs o->JL w p e h e' v->∃(t':TypeId) (ys:List e'.D) (d':Nat) (o':Is),(k t' e' ys d').leads t/\AE e' d' w fz v ys o'/\∀b∈o',b∈o
 | [],t0,e,xs,d,h,o,e',v,hl,hr,hn=>by obtain⟨rfl,rfl⟩:=hn;exact⟨t0,xs,d,o,hl,hr,λb hb=>hb⟩
 |(i,j)::p,t0,e,xs,d,h,o,e',v,hl,hr,hn=>by
  obtain⟨a,len,c,t',f,h',rfl,hs,hi,hk,hc,hn⟩:=hn;obtain⟨A,c',hv,hle,hr⟩:=hr;injection hv with hA wB vL
  subst hA;have vw:i<xs.length:=wB▸hi;rcases hr with hr|⟨g,os,uX,uk,ho⟩
  ·have:=hr.2.1;omega
  obtain⟨x,hx,hl⟩:=hl;rw[AAI vw]at hx;injection hx with hx;subst hx
  have hg:(λj=>g (i*e.n+j)) j=some h':=by rw[uX.cell (i*e.n+j)]at hc;exact hc
  obtain⟨ys,o',hl,uW,vS⟩:=IZ e j hl (uk i vw) hk hg;obtain⟨t2,zs,d2,o2,hl,hz,yE⟩:=L3 p hl uW hn;grind
theorem CK(h:AW E s tm W){c:Loc}{k:(t:TypeId)->(e:Ls)->List e.D->Nat->Step β}{t:β}(hl:(s.content c k).leads t):
  ∃(t0:TypeId) (e0:Ls) (xs0:List e0.D) (d0 gen:Nat),s.leaf c.r c.j=.arr c.AB gen t0 e0 xs0 d0/\(c.p=[]\/gen=c.gen)/\
   ∀(u:Value)(e':Ls)(v:Value),W.cv c.r c.j=some u->JL W.w c.p e0 u e' v->∃(t':TypeId) (ys:List e'.D) (d':Nat) (o':Is),(k t' e' ys d').leads t/\AE e' d' W.w W.fz v ys o'/\∀b∈o',b∈W.om (.lf c.r c.j):=by
 unfold St.content at hl;split at hl
 ·rename_i AB gen t0 e0 xs0 d0 uM;split at hl
  ·rename_i uU;simp only[AAJ,AAT,AAd]at uU;obtain⟨hv,hg⟩:=uU;subst hv;refine⟨t0,e0,xs0,d0,gen,uM,hg.imp (λh=>by cases hp:c.p<;>simp_all[isNil]) id,λu e' v hu hn=>?_⟩;obtain⟨u',uY,hr⟩:=(h.roots c.r).row uM;rw[hu]at uY;injection uY with uY;subst uY
   exact L3 c.p hl hr hn
  ·exact hl.elim
 ·exact hl.elim
theorem DB(h:AW E s tm W){c:Loc}{v:Value}(hv:AR s W (.ref c) v){k:(t:TypeId)->(e:Ls)->List e.D->Nat->Step β}{t:β}(hl:(s.content c k).leads t):
  ∃(t':TypeId) (e':Ls) (ys:List e'.D) (d':Nat) (o':Is),(k t' e' ys d').leads t/\AE e' d' W.w W.fz v ys o'/\∀b∈o',b∈W.om (.lf c.r c.j):=by
 obtain⟨t0,e0,xs0,d0,gen,uM,hp,hk⟩:=CK h hl;obtain⟨u,e',hu,hn⟩:=hv gen t0 e0 xs0 d0 uM hp;grind
theorem AE.len{e:Ls}{d:Nat}{w:World}{fz:Nat->Prop}{v:Value}{xs:List e.D}{o:Is}(h:AE e d w fz v xs o):∃A c,v=.slice A xs.length c/\xs.length<=c:=by obtain⟨A,c,hv,hc,_⟩:=h;grind
theorem B0.sub{α:Type}{n:Nat}{R:(Nat->Option Value)->α->Is->Prop}{own:Bool}{w:World}{fz:Nat->Prop}{A:Option Addr}{len c:Nat}{xs:List α}{o:Is}
  (h:B0 n R own w fz (.slice A len c) xs o) {lo hi:Nat} (h1:lo<=hi) (h2:hi<=len):
  ∃o',B0 n R own w fz (.slice (if c=lo then A else A.map (·.add (lo*n))) (hi-lo) (c-lo)) (Ev.sub xs lo hi) o'/\(∀b∈o',b∈o)/\(o.Nodup->o'.Nodup):=by
 obtain⟨A',c',hv,hc,h⟩:=h;injection hv with hA hl vL
 subst hA;subst hl;subst vL;have hlen:(Ev.sub xs lo hi).length=hi-lo:=by simp[Ev.sub];omega
 cases A with
 |none=>
  refine⟨[],⟨none,c-lo,?_,by rw[hlen];omega,?_⟩,OF,OF⟩
  all_goals grind
 |some a=>
  rcases h with h|⟨g,os,uX,uk,ho⟩
  ·obtain⟨rfl,rfl,rfl⟩:=h;have vq:xs.length=0:=J
   have xm:hi=0:=J
   have vr:lo=0:=J
   subst xm;subst vr;have hnil:xs=[]:=AAO vq;subst hnil;exact⟨[],⟨some a,0,by simp[Ev.sub],by simp[Ev.sub],.inl ⟨rfl,rfl,rfl⟩⟩,OF,OF⟩
  obtain⟨hs,arr,T,fr,hh,hn,hb,hg⟩:=uX
  have ud:∀i (vw:i<(Ev.sub xs lo hi).length),∃hx:lo+i<xs.length,(Ev.sub xs lo hi)[i]=xs[lo+i]:=by
   intro i vw;have:lo+i<xs.length:=by rw[hlen]at vw;omega
   exact⟨this,by simp[Ev.sub]⟩
  by_cases zd:c=lo
  ·have xm:hi=lo:=J
   have hnil:Ev.sub xs lo hi=[]:=by simp[Ev.sub,xm]
   rw[AAP zd,hnil,xm];refine⟨match own with|true=>[a.block]|false=>[],⟨some a,c-lo,OF,OF,.inr ⟨λj=>arr[a.off+j]?,λ_=>[],⟨hs,arr,T,fr,hh,by rw[zd];simp;omega,hb,λj=>rfl⟩,λi hi=>by simp at hi,?_⟩⟩,?_,?_⟩
   ·cases own with
    |true=>simp
    |false=>exact⟨ho.1,rfl,λ_ _=>rfl⟩
   all_goals grind
  ·rw[AAQ zd]
   have wZ:(a.add (lo*n)).block=a.block/\(a.add (lo*n)).off=a.off+lo*n/\(a.add (lo*n)).spot=none:=by
    unfold Addr.add;split
    ·grind
    ·grind
   refine⟨match own with|true=>a.block::(List.range (hi-lo)).flatMap λi=>os (lo+i)|false=>[],
    ⟨some (a.add (lo*n)),c-lo,No,J,.inr ⟨λj=>g (lo*n+j),λi=>os (lo+i),⟨wZ.2.2,arr,T,fr,No,?_,hb,λj=>No⟩,λi vw=>?_,?_⟩⟩,?_,?_⟩
   ·rw[wZ.2.1];have:lo*n+(c-lo)*n=c*n:=by rw[<-AAp];congr 1;omega
    omega
   ·grind
   ·grind
   ·grind
   ·cases own with
    |false=>simp
    |true=>
     intro vd;rw[ho]at vd;obtain⟨vu,w5⟩:=AAc.1 vd;refine AAc.2 ⟨λhm=>?_,?_⟩
     ·grind
     ·have e:(List.range (hi-lo)).flatMap (λi=>os (lo+i))=((List.range (hi-lo)).map (lo + ·)).flatMap os:=by simp[List.flatMap_map]
      rw[e,<-List.range'_eq_map_range];rw[List.range_eq_range']at w5
      have:List.range' 0 xs.length=List.range' 0 lo++(List.range' lo (hi-lo)++List.range' hi (xs.length-hi)):=by have e1:=List.range'_append_1 (s:=lo) (m:=hi-lo) (n:=xs.length-hi);have e2:=List.range'_append_1 (s:=0) (m:=lo) (n:=xs.length-lo);rw[show lo+(hi-lo)=hi by omega]at e1;rw[e1,show hi-lo+(xs.length-hi)=xs.length-lo by omega];rw[AAa]at e2;rw[e2];congr 1;omega
      grind
end
end Go.Ev
namespace Go.Ev
def Seen(W:Wd)(rs:Is)(b:Nat):Prop:=W.fz b\/∃r∈rs,∃j,b∈W.om (.lf r j)
theorem F9:∀(ls:Ls) {d:Nat} {w:World} {fz:Nat->Prop} {g:Nat->Option Value} {x:ls.D} {o:Is},
  ls.rd d w fz g x o->∀(j:Nat)(lv:Lv),(unpack ls x)[j]?=some lv->∃u o',g j=some u/\lv.l.rd d w fz u lv.x o'/\∀b∈o',b∈o
 | .nil,_,_,_,_,_,_,_,j,lv,hj=>by simp[unpack]at hj
 | .one l,d,w,fz,g,x,o,h,j,lv,hj=>by
  simp only[Ls.rd]at h;obtain⟨v,hg,h⟩:=h;cases j with
  |zero=>simp[unpack]at hj;grind
  |succ j=>simp[unpack]at hj
 | .cons l ls,d,w,fz,g,x,o,h,j,lv,hj=>by
  simp only[Ls.rd]at h;obtain⟨v,o1,o2,hg,h1,h2,rfl⟩:=h;cases j with
  |zero=>simp[unpack]at hj;grind
  |succ j=>
   simp only[unpack,AA3]at hj;obtain⟨u,o',a,b,c⟩:=F9 ls h2 j lv hj;grind
theorem Cl:∀(ls:Ls) {w:World} {fz:Nat->Prop} {g:Nat->Option Value} {x:ls.D},
  (∀(j:Nat)(lv:Lv),(unpack ls x)[j]?=some lv->∃u,g j=some u/\lv.l.rd 0 w fz u lv.x [])->ls.rd 0 w fz g x []
 | .nil,_,_,_,_,_=>by simp only[Ls.rd]
 | .one l,w,fz,g,x,h=>by simp only[Ls.rd];exact h 0 ⟨l,x⟩ rfl
 | .cons l ls,w,fz,g,x,h=>by simp only[Ls.rd];obtain⟨u,hu,hr⟩:=h 0 ⟨l,x.1⟩ rfl;exact⟨u,[],[],hu,hr,Cl ls λj lv hj=>h (j+1) lv (by simpa[unpack]using hj),rfl⟩
theorem Bl{e:Ls}{d:Nat}{w:World}{fz:Nat->Prop}:AE e d w fz (.slice none 0 0) ([]:List e.D) []:=⟨none,0,rfl,AAb _,rfl,rfl⟩
section
variable {P:Program}{E:Ck}{s:St}{tm:Array Value}{W:Wd}{o:Oper}{a:Act}{β:Type}{t:β}
theorem Seen.mono{rs rs':Is}(h:∀r∈rs,r∈rs'){b:Nat}(hb:Seen W rs b):Seen W rs' b:=hb.imp id λ⟨r,hr,x⟩=>⟨r,h r hr,x⟩
theorem EB(h:AW E s tm W){c:Loc}{lo hi:Nat}{v:Value}(hv:AR s W (.Dy c lo hi) v){k:(t:TypeId)->(e:Ls)->List e.D->Nat->Step β}(hl:(s.content c k).leads t):
  ∃(t':TypeId) (e':Ls) (ys:List e'.D) (d':Nat) (o':Is),(k t' e' ys d').leads t/\AE e' d' W.w W.fz v (sub ys lo hi) o'/\(∀b∈o',b∈W.om (.lf c.r c.j)):=by
 obtain⟨t0,e0,xs0,d0,gen,uM,hp,hk⟩:=CK h hl;obtain⟨u,e',A,n,k',hu,hn,h1,h2,rfl⟩:=hv gen t0 e0 xs0 d0 uM hp;obtain⟨t',ys,d',o',a,b,c'⟩:=hk u e' _ hu hn;obtain⟨o2,q1,q2,_⟩:=B0.sub b h1 h2;exact⟨t',e',ys,d',o2,a,q1,λb hb=>c' b (q2 b hb)⟩
theorem Bs(h:AW E s tm W){l:L}{la:LA}{v:Value}(hv:AR s W la v){k:l.D->Step β}(hl:(s.datum l la k).leads t):
  ∃x,(k x).leads t/\l.rd 0 W.w (Seen W la.roots) v x []:=by
 unfold St.datum at hl;cases la with
 |sc m x=>
  simp only at hl;split at hl
  ·rename_i y hy;obtain⟨e,he⟩:=L.AH hy;subst e;subst he;exact⟨x,hl,L.AN m hv (λb hb=>rfl) λb hb=>.inl hb⟩
  ·exact hl.elim
 |CA=>
  cases l with
  |sl t' e=>exact⟨_,hl,by rw[show v=.slice none 0 0 from hv];exact Bl⟩
  |_=>exact hl.elim
 |ref c=>
  obtain⟨t',e',ys,d',o',hl,hr,ho⟩:=DB h hv hl;split at hl
  ·rename_i y hy;obtain⟨e,he⟩:=L.AH hy;subst e;subst he;exact⟨ys,hl,hr.freeze λb hb=>hb.elim .inl λhb=>.inr ⟨c.r,by simp[LA.roots],c.j,ho b hb⟩⟩
  ·exact hl.elim
 |Dy c lo hi=>
  obtain⟨t',e',ys,d',o',hl,hr,ho⟩:=EB h hv hl;split at hl
  ·rename_i y hy;obtain⟨e,he⟩:=L.AH hy;subst e;subst he;exact⟨_,hl,hr.freeze λb hb=>hb.elim .inl λhb=>.inr ⟨c.r,by simp[LA.roots],c.j,ho b hb⟩⟩
  ·exact hl.elim
 |_=>exact hl.elim
theorem FR(h:AW E s tm W):∀ {ls:List L} {as:List LA} {g:Nat->Option Value} {k:List Lv->Step β},(∀(j:Nat)(b:LA),as[j]?=some b->∃u,g j=some u/\AR s W b u)->(s.data ls as k).leads t->
  ∃vs:List Lv,(k vs).leads t/\vs.length=as.length/\vs.map (·.l)=ls/\∀(j:Nat)(lv:Lv),vs[j]?=some lv->∃u,g j=some u/\lv.l.rd 0 W.w (Seen W (as.flatMap LA.roots)) u lv.x []
 | [],[],g,k,hg,hl=>⟨[],hl,rfl,rfl,λj lv hj=>ADb⟩
 | [],_::_,g,k,hg,hl=>hl.elim
 |_::_,[],g,k,hg,hl=>hl.elim
 |l::ls,b::as,g,k,hg,hl=>by
  obtain⟨u,hu,hb⟩:=hg 0 b rfl;obtain⟨x,hl,hx⟩:=Bs h hb hl;obtain⟨vs,hl,hn,hm,w4⟩:=FR h (g:=λj=>g (j+1)) (λj b hj=>hg (j+1) b No) hl;refine⟨⟨l,x⟩::vs,hl,by simp[hn],by simp[hm],λj lv hj=>?_⟩;cases j with
  |zero=>
   simp at hj;subst hj;exact⟨u,hu,L.AN l hx (λ_ _=>rfl) λb hb=>Seen.mono (λr hr=>by simp[hr]) hb⟩
  |succ j=>
   obtain⟨u',uY,hr⟩:=w4 j lv ADW;refine⟨u',uY,L.AN lv.l hr (λ_ _=>rfl) λb hb=>Seen.mono (λr hr=>?_) hb⟩;grind
theorem Cm(r:Nat):∀(as:List LA)(j i:Nat),(As r j as)[i]?=(as[i]?).map (seen r (j+i))
 | [],j,i=>by simp[As]
 |b::as,j,0=>by simp[As]
 |b::as,j,i+1=>by simp only[As,AA3];rw[Cm r as (j+1) i,show j+1+i=j+(i+1) by omega]
theorem JJ(r:Nat):∀(as:List LA)(j:Nat),(As r j as).length=as.length
 | [],j=>rfl
 |b::as,j=>by simp[As,JJ r as (j+1)]
theorem Es(r:Nat):∀(as:List LA)(j i:Nat),(BD r j as)[i]?=(as[i]?).map (H4 r (j+i))
 | [],j,i=>by simp[BD]
 |b::as,j,0=>by simp[BD]
 |b::as,j,i+1=>by simp only[BD,AA3];rw[Es r as (j+1) i,show j+1+i=j+(i+1) by omega]
theorem Et(r:Nat):∀(as:List LA)(j:Nat),(BD r j as).length=as.length
 | [],j=>rfl
 |b::as,j=>by simp[BD,Et r as (j+1)]
theorem Ks(h:AW E s tm W){r j:Nat}{b:LA}{v:Value}(hb:s.leaf r j=b)(hc:W.cv r j=some v):AR s W (seen r j b) v:=by
 have hr:=(h.roots r).1 j;unfold St.leaf at hb;rw[hb,hc]at hr;cases b with
 |arr AB gen t' e xs d=>
  intro v7 t2 e2 xs2 d2 hl _;have:s.leaf r j=.arr AB gen t' e xs d:=hb;rw[this]at hl;injection hl with h1 h2 h3 h4
  subst h4;exact⟨v,e,hc,rfl,rfl⟩
 |_=>exact hr.2 v rfl
theorem Mc(h:AW E s tm W){r j:Nat}{b:LA}{v:Value}(hb:s.leaf r j=b)(hc:W.cv r j=some v):AR s W (H4 r j b) v:=by
 have hs:=Ks h hb hc;cases b with
 |arr AB gen t' e xs d=>
  cases d with
  |succ d=>exact hs
  |zero=>
   obtain⟨u,hu,uW⟩:=(h.roots r).row hb;have:u=v:=Option.some.inj (hu.symm.trans hc);subst this;show AE e 0 W.w W.fz u xs [];have hz:=AE.zero uW;grind
 |_=>exact hs
theorem ED(c:Loc)(i d:Nat):∀(vs:List Lv)(off j:Nat),(Be c i d off vs)[j]?=(vs[j]?).map λv=>if Bg v.l&&decide (0<d)then LA.ref { c with p:=c.p++[(i,off+j)] }else .sc v.l v.x
 | [],off,j=>by simp[Be]
 |v::vs,off,0=>by simp[Be]
 |v::vs,off,j+1=>by simp only[Be,AA3];rw[ED c i d vs (off+1) j,show off+1+j=off+(j+1) by omega]
theorem Js{w:World}:∀(q:List (Nat×Nat)) {e:Ls} {h:Value} {e':Ls} {a:Addr} {n k:Nat} {i off:Nat} {t':TypeId} {f:Ls} {u:Value},
  JL w q e h e' (.slice (some a) n k)->a.spot=none->i<n->e'.kinds[off]?=some (.sl t' f)->w.cell? (at_ a (i*e'.n+off))=some u->JL w (q++[(i,off)]) e h f u
 | [],e,h,e',a,n,k,i,off,t',f,u,hn,hs,hi,hk,hc=>by obtain⟨rfl,rfl⟩:=hn;exact⟨a,n,k,t',f,u,rfl,hs,hi,hk,hc,rfl,rfl⟩
 |(i0,j0)::q,e,h,e',a,n,k,i,off,t',f,u,hn,hs,hi,hk,hc=>by obtain⟨a0,len,c0,t0,f0,h0,e0,s0,i1,k1,c1,hn⟩:=hn;exact⟨a0,len,c0,t0,f0,h0,e0,s0,i1,k1,c1,Js q hn hs hi hk hc⟩
theorem Dx:∀(ls:Ls)(x:ls.D),(unpack ls x).map (·.l)=ls.kinds
 | .nil,_=>rfl
 | .one _,_=>rfl
 | .cons l ls,x=>by simp[unpack,Ls.kinds,Dx ls x.2]
theorem Fe(h:AW E s tm W){la:LA}{v:Value}(hv:AR s W la v){n:Nat}{k:List LA->Step β}(hl:(s.C4 la n k).leads t):
  ∃as:List LA,(k as).leads t/\as.length<=n/\∃(b off:Nat),v=.pointer (some ⟨b,off,none⟩)/\∀(j:Nat)(x:LA),as[j]?=some x->∃u,W.w.cell? ⟨b,off+j,none⟩=some u/\AR s W x u:=by
 unfold St.C4 at hl;cases la with
 |ptr r j AB=>
  simp only at hl;split at hl
  ·rename_i uU;simp only[AAJ,AAT,AAe]at uU;obtain⟨⟨hb,uT⟩,hlen⟩:=uU;refine⟨_,hl,by rw[Et];simp;omega,W.bk r,j,hv hb uT,λi x hx=>?_⟩;rw[Es]at hx;obtain⟨_,vC⟩:=h.roots r;rw[AAP hb]at vC;obtain⟨_,arr,T,fr,hh,_,uh,uv⟩:=vC;cases hy:((s.root r).ls.drop j |>.take n)[i]? with
   |none=>grind
   |some y=>
    rw[hy]at hx;injection hx with hx;subst hx
    have hi:i<n/\(s.root r).ls[j+i]?=some y:=by
     rw[List.getElem?_take]at hy;split at hy
     ·grind
     ·cases hy
    have uR:j+i<(s.root r).ls.length:=(AAK.1 hi.2).1;have uM:s.leaf r (j+i)=y:=by unfold St.leaf;rw[Ad,hi.2];rfl
    have ur:W.cv r (j+i)=some (arr[j+i]'(by omega)):=by rw[uv];exact AAg _
    refine⟨arr[j+i]'(by omega),?_,Mc h uM ur⟩;rw[<-ur,uv];simp[World.cell?,hh]
  ·exact hl.elim
 |Ds e x off=>
  obtain⟨a,g,arr,T,fr,hv,hz,hh,hg,uW⟩:=hv;refine⟨_,hl,ADJ,a.block,a.off+off,hv,λi y hy=>?_⟩;simp only[AAZ]at hy;cases hq:(((unpack e x).drop off).take n)[i]? with
  |none=>grind
  |some lv=>
   rw[hq]at hy;injection hy with hy;subst hy
   have hi:(unpack e x)[off+i]?=some lv:=by
    rw[List.getElem?_take]at hq;split at hq
    ·rw[List.getElem?_drop]at hq;exact hq
    ·cases hq
   obtain⟨u,o',hu,hr,ho⟩:=F9 e uW _ lv hi;have:o'=[]:=L.DF lv.l hr;subst this;refine⟨u,?_,hr⟩;rw[hg]at hu;simp only[World.cell?,hh];grind
 |Ba c=>
  simp only at hl;split at hl
  ·exact hl.elim
  ·rename_i q i off hq;obtain⟨t0,e0,xs0,d0,gen,uM,hp,hk⟩:=CK h hl;dsimp only at uM hp hk
   have wg:c.p.length<=1\/gen=c.gen:=by
    rcases hp with hp|hp
    ·left;rw[CS hq,hp];simp
    ·exact .inr hp
   obtain⟨q',i',off',u,e',a,n',k',zq,hu,hn,hs,hi,rfl⟩:=hv gen t0 e0 xs0 d0 uM wg;rw[hq]at zq;injection zq with zq
   injection zq with q1 q2
   injection q2 with q2 q3
   subst q1;subst q2;subst q3;obtain⟨t',ys,d',o',hl,hr,ho⟩:=hk u e' _ hu hn;obtain⟨x,hx,hl⟩:=hl;obtain⟨A,c',hv,hle,hr⟩:=hr;injection hv with hA hlen vp
   subst hA;have vw:i<ys.length:=hlen▸hi;rcases hr with hr|⟨g,os,uX,uk,hos⟩
   ·omega
   rw[AAI vw]at hx;injection hx with hx;subst hx
   refine⟨_,hl,?_,a.block,a.off+(i*e'.n+off),rfl,λj y hy=>?_⟩
   ·have:∀(vs:List Lv)(off:Nat),(Be { c with p:=q,gen:=s.Jj c.r c.j } i (dec d') off vs).length=vs.length:=by
     intro vs;induction vs with
     |nil=>intro _;rfl
     |cons v vs ih=>intro off;simp[Be,ih]
    grind
   ·rw[ED]at hy;cases hz:(((unpack e' ys[i]).drop off).take n)[j]? with
    |none=>grind
    |some lv=>
     rw[hz]at hy;injection hy with hy
     have hj:(unpack e' ys[i])[off+j]?=some lv:=by
      rw[List.getElem?_take]at hz;split at hz
      ·grind
      ·cases hz
     obtain⟨w1,o1,hw1,yd,zn⟩:=F9 e' (uk i vw) _ lv hj;have ur:W.w.cell? (at_ a (i*e'.n+(off+j)))=some w1:=by rw[uX.cell];exact hw1
     refine⟨w1,by rw[show a.off+(i*e'.n+off)+j=a.off+(i*e'.n+(off+j)) by omega];exact ur,?_⟩;subst hy;dsimp only;split
     ·rename_i wE;simp only[AAJ,AAe]at wE;obtain⟨ll,lx⟩:=lv;cases ll with
      |sl t2 f=>
       intro gen2 t3 e3 xs3 d3 hl3 hp3;dsimp only at hl3 hp3;rw[uM]at hl3;injection hl3 with z1 z2 z3 z4
       subst z4;refine⟨u,f,hu,?_⟩
       have hkd:e'.kinds[off+j]?=some (.sl t2 f):=by rw[<-Dx e' ys[i],AAZ,hj];rfl
       exact Js q hn hs hi hkd ur
      |_=>simp[Bg]at wE
     ·rename_i wE
      have hzero:lv.l.rd 0 W.w W.fz w1 lv.x []:=by
       obtain⟨ll,lx⟩:=lv;cases ll with
       |sl t2 f=>
        have hd:dec d'=0:=by simp[Bg]at wE;exact wE
        rw[hd]at yd;have:o1=[]:=L.DF _ yd;grind
       |int k=>exact⟨yd.1,rfl⟩
       |bool=>exact⟨yd.1,rfl⟩
       |str=>exact⟨yd.1,rfl⟩
      exact hzero
 |_=>exact hl.elim
end
end Go.Ev
namespace Go.Ev
def OZ(dst:Option Nat)(x:AV):List Wr:=match dst with
 |some d=>[.slot d x]
 |none=>[]
theorem AK{dst:Option Nat}{x:AV}{ws:List Wr}(h:(match dst with|some d=>Step.go [Wr.slot d x]|none=>Step.go []).leads ws):ws=OZ dst x:=by
 cases dst<;>exact h.symm
section
variable {P:Program}{E:Ck}{s:St}{W:Wd}{o:Oper}{a:Act}{ws:List Wr}{cx:Cx}{v:Nat}{β:Type}
theorem AP(h:AW E s a.tmps W){u:Value}{x:AV}(ub:(execOp a.eval o).run P W.w=.ok (.value u) W.w)(hx:BO s W x u):BS P E o a W.w (s.app (OZ o.dst x)):=Hb h ub hx
theorem LJ{l:L}{la lb:LA}{u w:Value}{q:Bool}(ha:AR s W la u)(hb:AR s W lb w)(h:N6 l la lb=some q){t:TypeId}(ht:Io P t l)(d:Nat)(w0:World):(Op.equalIn (d+1) t u w).run P w0=.ok q w0:=by
 unfold N6 at h;cases l with
 |int k=>
  simp only at h;split at h
  ·rename_i i x j y;split at h
   ·rename_i hc;simp only[AAJ]at hc;obtain rfl:=IntKind.HD hc.1;obtain rfl:=IntKind.HD hc.2;injection h with h
    rw[show u=.int j x from ha.1,show w=.int j y from hb.1,run_equalIn_int w0 d t j j x y ht];subst h;rfl
   ·cases h
  ·cases h
 |bool=>
  simp only at h;split at h
  ·rename_i x y;injection h with h
   rw[show u=.bool x from ha.1,show w=.bool y from hb.1,run_equalIn_bool' w0 d t x y ht];subst h;rfl
  ·cases h
 |str=>
  simp only at h;split at h
  ·rename_i x y;injection h with h
   rw[show u=.string ⟨(show ADD from x).toArray⟩from ha.1,show w=.string ⟨(show ADD from y).toArray⟩from hb.1,run_equalIn_string w0 d t _ _ ht];have tl:∀l:ADD,(⟨l.toArray⟩:ByteArray).toList=l:=λl=>OF
   subst h;rw[tl,tl]
  ·cases h
 |sl t' e=>cases h
theorem Ie{t:TypeId}{l:L}(h:Io P t l)(cs:Array Value)(n:Nat)(x:Value)(hx:cs[n]?=some x)(w:World):(part t cs n).run P w=.ok x w:=by
 unfold part;rw[Sem.run_bind]
 have wS:(isAgg t).run P w=.ok false w:=by
  unfold isAgg;rw[Sem.run_bind];cases l with
  |int k=>rw[run_underlying (show P.underlying t=some (.int k)from h)];rfl
  |bool=>rw[run_underlying (show P.underlying t=some .bool from h)];rfl
  |str=>rw[run_underlying (show P.underlying t=some .string from h)];rfl
  |sl t' e=>exact h.elim
 rw[wS];simp[hx]
theorem GP{d:Nat}{xs ys:Array Value}{w0:World}:∀(fs:List Field)(ls:List L)(as bs:List LA)(n:Nat)(q:Bool),Gj P n fs ls->FL ls as bs=some q->
  (∀(j:Nat)(b:LA),as[j]?=some b->∃u,xs[n+j]?=some u/\AR s W b u)->(∀(j:Nat)(b:LA),bs[j]?=some b->∃u,ys[n+j]?=some u/\AR s W b u)->
  (Op.eqFields (d+1) xs ys fs).run P w0=.ok q w0
 | [],[],[],[],n,q,hf,hq,h1,h2=>by simp only[FL,Option.some.injEq]at hq;subst hq;rfl
 |f::fs,l::ls,a::as,b::bs,n,q,hf,hq,h1,h2=>by
  obtain⟨f1,f2,f3,f4⟩:=hf;simp only[FL]at hq;split at hq
  ·rename_i p r hp hr;injection hq with hq;subst hq
   obtain⟨u,hu,hua⟩:=h1 0 a rfl;obtain⟨v,hv,hvb⟩:=h2 0 b rfl;have ih:=GP (d:=d) (xs:=xs) (ys:=ys) (w0:=w0) fs ls as bs (n+1) r f4 hr (λj b hj=>by rw[show n+1+j=n+(j+1) by omega];exact h1 (j+1) b No) (λj b hj=>by rw[show n+1+j=n+(j+1) by omega];exact h2 (j+1) b No);simp only[Op.eqFields];rw[AAP f1,f2,Sem.run_bind,Ie f3 xs n u J];simp only[Result.andThen_ok];rw[Sem.run_bind,Ie f3 ys n v J];simp only[Result.andThen_ok];rw[Sem.run_bind,LJ hua hvb hp f3 d w0];simp only[Result.andThen_ok];cases p with
   |true=>grind
   |false=>simp
  ·cases hq
 | [],[],[],_::_,n,q,hf,hq,h1,h2=>by simp[FL]at hq
 | [],[],_::_,_,n,q,hf,hq,h1,h2=>by simp[FL]at hq
 |f::fs,l::ls,[],_,n,q,hf,hq,h1,h2=>by simp[FL]at hq
 |f::fs,l::ls,_::_,[],n,q,hf,hq,h1,h2=>by simp[FL]at hq
 | [],_::_,as,bs,n,q,hf,hq,h1,h2=>hf.elim
 |_::_,[],as,bs,n,q,hf,hq,h1,h2=>hf.elim
theorem Lt(hc:Db P cx){op:BinOp}{tx:TypeId}{x y:Operand}{as bs:List LA}{u w:Value}(hu:Ey s W true as u)(hw:Ey s W true bs w){k:AV->Step β}{t:β}(hl:(Lr cx op tx as bs k).leads t)(w0:World):
  ∃z r,(k z).leads t/\BO s W z r/\(do eqGuard op tx x y u w;binOp op tx u w:Sem Value).run P w0=.ok r w0:=by
 unfold Lr at hl;split at hl
 ·rename_i ty wO;split at hl
  ·rename_i heq;split at hl
   ·rename_i q hq;obtain⟨cs,rfl,_,h1⟩:=hu;obtain⟨ds,rfl,_,h2⟩:=hw;obtain⟨e1,e2,fs,e3,e4⟩:=(hc tx ty wO).eqs heq;have wP:P.fieldsOf tx=fs:=by unfold Program.fieldsOf;rw[e3]
    have ub:(Op.equalIn 10000 tx (.agg cs) (.agg ds)).run P w0=.ok q w0:=by
     rw[run_equalIn_struct w0 9999 tx cs ds No e1,wP];exact GP (d:=9998) _ _ _ _ 0 q e4 hq (λj b hj=>by rw[AAa];exact h1 j b hj) (λj b hj=>by grind)
    split at hl
    ·refine⟨_,_,hl,CN _,?_⟩;rw[Sem.run_bind,run_eqGuard_agg w0 _ tx x y cs ds e2];simp only[Result.andThen_ok];rw[run_eql_struct,ub];rfl
    ·refine⟨_,_,hl,CN _,?_⟩;rw[Sem.run_bind,run_eqGuard_agg w0 _ tx x y cs ds e2];simp only[Result.andThen_ok];rw[run_neq_struct,ub];rfl
    ·exact hl.elim
   ·exact hl.elim
  ·exact hl.elim
 ·exact hl.elim
theorem ML(hc:Db P cx){op:BinOp}{tx:TypeId}{x y:Operand}{t:TypeId}{e:Ls}{xs:List e.D}{u w:Value}(hu:AR s W (.sc (.sl t e) xs) u)(hw:AR s W .CA w){k:AV->Step β}{z:β}(hl:(MK cx op tx e xs k).leads z)(w0:World):
  ∃q r,(k q).leads z/\BO s W q r/\(do eqGuard op tx x y u w;binOp op tx u w:Sem Value).run P w0=.ok r w0:=by
 unfold MK at hl;split at hl
 ·split at hl
  ·rename_i hr;rcases Ah hl with⟨_,hl⟩|⟨uV,hl⟩
   ·exact hl.elim
   ·refine⟨_,_,hl,CN _,?_⟩
    obtain⟨t',vT⟩:∃t',P.underlying tx=some (.slice t'):=by
     unfold isRow at hr;split at hr
     ·rename_i ty wO;simp only[AAJ,AAV]at hr;obtain⟨wR,hr⟩:=hr;split at hr
      ·rename_i f t0 vx;obtain⟨l',h1,h2⟩:=(hc tx ty wO).lone wR;rw[vx]at h1;injection h1 with h1
       subst h1;exact⟨_,h2.1⟩
      ·cases hr
     ·cases hr
    obtain⟨A,c,hv,hlen,hm⟩:=(L.Hu (t:=t)).1 hu;have hw:w=.slice none 0 0:=hw;cases A with
    |none=>
     obtain⟨hm,_⟩:c=0/\([]:Is)=[]:=hm;have:xs=[]:=AAO J;subst this;cases uV
    |some a=>
     rw[hv,hw,Sem.run_bind];show Result.andThen (.ok () w0) _=_;rw[Result.andThen_ok,run_neq_slice_nil w0 tx t' (some a) _ c vT];rfl
  ·exact hl.elim
 ·exact hl.elim
theorem MO(hc:Db P cx)(h:AW E s a.tmps W){op:BinOp}{tx ty:TypeId}{x y:Operand}(ho:o.op=.binOp op tx x y ty)(hl:(AA cx v o s).leads ws):BS P E o a W.w (s.app ws):=by
 simp only[AA,ho]at hl
 have key:∃z r,(match o.dst with|some d=>Step.go [Wr.slot d z]|none=>Step.go []).leads ws/\BO s W z r/\(do eqGuard op tx x y (a.eval x) (a.eval y);binOp op tx (a.eval x) (a.eval y):Sem Value).run P W.w=.ok r W.w:=by
  split at hl
  ·rename_i as bs h1 h2;exact Lt hc (by have:=A6 h x;rw[h1]at this;exact this) (by have:=A6 h y;rw[h2]at this;exact this) hl W.w
  ·rename_i t e xs h1 h2;exact ML (t:=t) hc (by have:=A6 h x;rw[h1]at this;exact this) (by have:=A6 h y;rw[h2]at this;exact this) hl W.w
  ·exact L0 (x:=x) hc h hl
 obtain⟨z,r,hl,hz,hr⟩:=key;rw[AK hl];refine AP h ?_ hz;simp only[execOp,ho];rw[Sem.run_bind,hr];rfl
theorem ND(h:AW E s a.tmps W){op:UnOp}{tx:TypeId}{x:Operand}(ho:o.op=.unOp op tx x)(hl:(AA cx v o s).leads ws):BS P E o a W.w (s.app ws):=by
 simp only[AA,ho]at hl;have h1:=Ac h x
 revert hl h1
 generalize s.Af x=p;intro hl h1;split at hl
 ·rw[AK hl];rename_i b;refine AP h (u:=.bool (!b)) ?_ (CN _);simp[execOp,ho,show a.eval x=.bool b from h1.1,Op.unary]
 ·rename_i k n;rw[AK hl];refine AP h (u:=.int k (k.wrap (Nv n))) ?_ (BX _ _);simp[execOp,ho,show a.eval x=.int k n from h1.1,Op.unary,Op.intArith,Nv]
 ·exact hl.elim
theorem Bw{t:TypeId}{ty:Ty}(hc:Db P cx)(ht:cx.ty t=some ty){l:L}(hl:ty.ls=.one l)(hg:ty.agg=false):GG P t l:=by obtain⟨l',h1,h2⟩:=(hc t ty ht).lone hg;grind
theorem NC(h:AW E s a.tmps W){x y z:Operand}(ho:o.op=.pick x y z)(hl:(AA cx v o s).leads ws):BS P E o a W.w (s.app ws):=by
 simp only[AA,ho]at hl;have h1:=Ac h x
 revert hl h1
 generalize s.Af x=p;intro hl h1;split at hl
 ·rename_i t;rcases Ah hl with⟨ht,hl⟩|⟨ht,hl⟩
  ·rw[AK hl];refine AP h (u:=a.eval y) ?_ (A6 h y);simp[execOp,ho,show a.eval x=.bool t from h1.1,asBool,show t=true from ht]
  ·rw[AK hl];refine AP h (u:=a.eval z) ?_ (A6 h z);simp[execOp,ho,show a.eval x=.bool t from h1.1,asBool,show t=false from ht]
 ·exact hl.elim
theorem Gv{la:LA}{u:Value}(hv:AR s W la u)(ha:s.alive la=true):∃ad,u=.pointer (some ad):=by
 unfold St.alive at ha;cases la with
 |ptr r j AB=>
  simp only[AAJ,AAT]at ha;exact⟨_,hv ha.1 ha.2⟩
 |Ba c=>
  simp only at ha;split at ha
  ·rename_i AB gen t e xs d hl;simp only[AAJ,AAT,AAd,AAe]at ha;obtain⟨rfl,hg⟩:=ha;obtain⟨q,i,off,h',e',ad,n,k,_,_,_,_,_,hu⟩:=hv gen t e xs d hl hg;grind
  ·cases ha
 |Ds e x off=>obtain⟨ad,g,arr,T,fr,hu,_⟩:=hv;grind
 |_=>cases ha
theorem KH{a:AV}{v:Value}(h:BO s W a v):AR s W a.one? v:=by
 cases a with
 |Da vs=>trivial
 |bx as=>trivial
 |v g as=>
  cases g with
  |true=>trivial
  |false=>cases as with
   |nil=>trivial
   |cons b bs=>cases bs with
    |nil=>exact h
    |cons=>trivial
theorem LN{tm:Array Value}(h:AW E s tm W){la:AV}{v:Value}(hv:BO s W la v){n:Nat}{β:Type}{t:β}{k:List LA->Step β}(hl:(s.E7 la n k).leads t):
  ∃as:List LA,(k as).leads t/\as.length<=n/\∃(b off:Nat),v=.pointer (some ⟨b,off,none⟩)/\∀(j:Nat)(x:LA),as[j]?=some x->∃u,W.w.cell? ⟨b,off+j,none⟩=some u/\AR s W x u:=by
 cases la with
 |v g as=>exact Fe h (KH hv) hl
 |Da vs=>exact Fe h (KH hv) hl
 |bx as=>
  simp only[St.E7]at hl;split at hl
  ·rename_i hlen;obtain⟨b,off,arr,T,fr,hp,hz,hh,vV,ud⟩:=hv;refine⟨_,hl,No,b,off,hp,λj x hx=>?_⟩
   have hx':as[j]?=some x:=by
    rw[List.getElem?_take]at hx;split at hx
    ·exact hx
    ·cases hx
   obtain⟨u,hu,vH⟩:=ud j x hx';exact⟨u,by simp[World.cell?,hh,hu],vH⟩
  ·exact hl.elim
theorem Jx(h:AW E s a.tmps W){x:Operand}(ho:o.op=.nilCheck x)(hl:(AA cx v o s).leads ws):BS P E o a W.w (s.app ws):=by
 simp only[AA,ho]at hl;have h1:=A6 h x
 have vQ:∀p:AV,BO s W p (a.eval x)->(if s.alive p.one? then(match o.dst with|some d=>(.go [.slot d (one p.one?)]:Step (List Wr))|none=>.go [])else .none).leads ws->BS P E o a W.w (s.app ws):=by
  intro p h1 hl;have h1:=KH h1;split at hl
  ·rename_i hal;obtain⟨ad,hp⟩:=Gv h1 hal;rw[AK hl];exact AP h (u:=a.eval x) (by simp[execOp,ho,hp]) h1
  ·exact hl.elim
 generalize s.Ar x=p at hl h1;cases p with
 |bx as=>
  have h2:=h1;obtain⟨b,off,arr,T,fr,hp,_⟩:=h1;rw[AK hl];exact AP h (u:=a.eval x) (by simp[execOp,ho,hp]) h2
 |v g as=>grind
 |Da vs=>grind
theorem D8{la:LA}{u:Value}(hv:AR s W la u){β:Type}{k:Int->Step β}{t:β}(hl:(asInt la k).leads t):∃j n,u=.int j n/\(k n).leads t:=by
 unfold asInt at hl;cases la with
 |sc l x=>cases l with
  |int j=>exact⟨j,x,hv.1,hl⟩
  |_=>exact hl.elim
 |_=>exact hl.elim
theorem M5{la:LA}{u:Value}(hv:AR s W la u){β:Type}{k:Int->Step β}{t:β}(hl:(Nu la k).leads t):∃(n:Int) (b:ByteArray),(k n).leads t/\u=.string b/\n=b.size:=by
 unfold Nu at hl;cases la with
 |sc l x=>cases l with
  |str=>exact⟨_,_,hl,hv.1,rfl⟩
  |_=>exact hl.elim
 |_=>exact hl.elim
theorem MA(h:AW E s a.tmps W){la:LA}{u:Value}(hv:AR s W la u){β:Type}{k:Int->Step β}{t:β}(hl:(lenOf s la k).leads t):
  ∃n:Int,(k n).leads t/\∃A len c,u=.slice A len c/\n=(len:Int):=by
 unfold lenOf at hl;cases la with
 |sc l x=>cases l with
  |sl t e=>
   obtain⟨A,c,hu,_⟩:=AE.len (show AE e 0 W.w W.fz u x []from hv);grind
  |_=>exact hl.elim
 |CA=>exact⟨_,hl,none,0,0,hv,rfl⟩
 |ref c=>
  obtain⟨t',e',ys,d',o',hl,hr,ho⟩:=DB h hv hl;obtain⟨A,c,hu,_⟩:=hr.len;grind
 |Dy c lo hi=>
  obtain⟨t',e',ys,d',o',hl,hr,ho⟩:=EB h hv hl;obtain⟨A,c,hu,_⟩:=hr.len;grind
 |_=>exact hl.elim
theorem NA(hc:Db P cx)(h:AW E s a.tmps W){t:TypeId}{x:Operand}(ho:o.op=.load t x)(hl:(AA cx v o s).leads ws):BS P E o a W.w (s.app ws):=by
 simp only[AA,ho]at hl;split at hl
 ·rename_i ty ht;have wO:=hc t ty ht;obtain⟨as,hl,_,b,off,hx,ud⟩:=LN h (A6 h x) hl;split at hl
  ·rename_i hlen;have hlen:as.length=ty.ls.n:=ADZ
   rw[AK hl];cases wR:ty.agg with
   |false=>
    obtain⟨l,vx,vr⟩:=wO.lone wR;rw[vx]at hlen
    obtain⟨y,rfl⟩:∃y,as=[y]:=by
     match as,hlen with
     | [y],_=>grind
    obtain⟨u,hu,hy⟩:=ud 0 y rfl;obtain⟨d,hd,vd⟩:=vr.I9;refine AP h (u:=u) ?_ (show BO s W (.v false [y]) u from hy)
    have wS:(isAgg t).run P W.w=.ok false W.w:=by
     unfold isAgg;rw[Sem.run_bind,run_underlying hd];cases d<;>simp_all
    simp only[AAx]at hu;simp[execOp,ho,Instr.loadAt,hx,Instr.sureAddr,loadVar,wS,load,Sem.run,hu]
   |true=>
    obtain⟨fs,wP,_⟩:=wO.agg wR;obtain⟨i,hi,uh,_⟩:=wO.info
    let f:Nat->Value:=λj=>(W.w.cell? ⟨b,off+j,none⟩).getD Go.undef
    let cs:ADM:=(List.range as.length).map f
    have w7:∀j u,cs[j]?=some u->W.w.cell? ⟨b,off+j,none⟩=some u:=by
     intro j u hj;simp only[cs,AAZ]at hj;by_cases uR:j<as.length
     ·rw[List.getElem?_range uR]at hj;simp at hj;obtain⟨u',uY,_⟩:=ud j as[j] (AAI uR);grind
     ·grind
    have ub:=run_loadVar_mid (P:=P) W.w b off t cs (.struct fs) (λj u hj=>w7 j u hj) wP rfl No;refine AP h (u:=.agg cs.toArray) ?_ ?_
    ·simp[execOp,ho,Instr.loadAt,hx,Instr.sureAddr,ub]
    ·refine⟨cs.toArray,rfl,by simp[cs],λj y hy=>?_⟩;grind
  ·exact hl.elim
 ·exact hl.elim
theorem Ny(hc:Db P cx)(h:AW E s a.tmps W){c:Call}(ho:o.op=.call c)(hb:c.callee=.builtin .len)(hl:(AA cx v o s).leads ws):BS P E o a W.w (s.app ws):=by
 simp only[AA,ho,hb]at hl;split at hl
 ·rename_i x t hx ht;split at hl
  ·rename_i ty wO;split at hl
   ·exact hl.elim
   ·rename_i wR;have uw:c.args = #[x]:=No
    have yo:c.argTypes = #[t]:=No
    obtain⟨cal,args,ats⟩:=c;dsimp only at hb uw yo;subst hb;subst uw;subst yo;split at hl
    ·rename_i vx;obtain⟨n,b,hl,hu,rfl⟩:=M5 (Ac h x) hl;rw[AK hl];refine AP h (u:=.int .i64 b.size) ?_ (BX _ _);have vT:P.underlying t=some .string:=Bw hc wO vx No;simp[execOp,ho,resolve,invoke,builtin,Builtin.len_,hu,run_underlying vT,goInt]
    ·rename_i t' e vx;obtain⟨n,hl,A,len,k,hu,rfl⟩:=MA h (Ac h x) hl;rw[AK hl];refine AP h (u:=.int .i64 len) ?_ (BX _ _);have vT:=(Bw hc wO vx No).1;simp[execOp,ho,resolve,invoke,builtin,Builtin.len_,hu,run_underlying vT,goInt]
    ·exact hl.elim
  ·exact hl.elim
 ·exact hl.elim
end
end Go.Ev
namespace Go.Ev
theorem Fi{α:Type}:∀(l:List α)(i:Nat),Hm l i=l[i]?
 | [],i=>by simp[Hm]
 |x::xs,0=>by simp[Hm]
 |x::xs,i+1=>by simp[Hm,Fi xs i]
section
variable {P:Program}{E:Ck}{s:St}{W:Wd}{o:Oper}{a:Act}{ws:List Wr}{cx:Cx}{v:Nat}
theorem CU(b off n:Nat):(⟨b,off,none⟩:Addr).add n=⟨b,off+n,none⟩:=by unfold Addr.add;grind
theorem KG(ad:Addr)(k n:Nat):(at_ ad k).add n=at_ ad (k+n):=by unfold at_;rw[CU];grind
theorem Jc(hc:Db P cx){t:TypeId}{ty:Ty}(ht:cx.ty t=some ty){f fo:Nat}{ft:TypeId}(hf:(if ty.agg=true then Hm ty.fs f else none)=some (fo,ft)):
  ty.agg=true/\∃(fs:Array Field) (fd:Field),P.underlying t=some (.struct fs)/\fs[f]?=some fd/\fd.offset=fo/\fd.type=ft:=by
 split at hf
 ·rename_i wR;obtain⟨fs,hu,wP,_⟩:=(hc t ty ht).agg wR;rw[Fi,<-wP,AAZ]at hf;grind
 ·cases hf
theorem Kt(hc:Db P cx){t:TypeId}{ty:Ty}(ht:cx.ty t=some ty)(w:World):(sizeOf t).run P w=.ok ty.ls.n w:=by obtain⟨i,hi,hs,_⟩:=(hc t ty ht).info;simp[sizeOf,typeInfo,hi,hs]
theorem CF:∀(q:List (Nat×Nat)) (i off:Nat),Ai (q++[(i,off)])=some (q,i,off)
 | [],i,off=>rfl
 | [x],i,off=>rfl
 |x::y::r,i,off=>by have:=CF (y::r) i off;simp only[AA8]at this ⊢;simp only[Ai];rw[this]
theorem JB(hc:Db P cx)(h:AW E s a.tmps W){t:TypeId}{x:Operand}{f:Nat}(ho:o.op=.fieldAddr t x f)(hl:(AA cx v o s).leads ws):
  BS P E o a W.w (s.app ws):=by
 simp only[AA,ho]at hl;split at hl
 ·rename_i ty ht;split at hl
  ·rename_i fo ft hf;obtain⟨wR,fs,fd,hu,hfd,rfl,rfl⟩:=Jc hc ht hf;split at hl
   ·rename_i tf htf;split at hl
    ·exact hl.elim
    ·rename_i uV;have uh:=Kt hc htf W.w;simp only[AAT]at uV;have h0:=A6 h x
     have run:∀ad:Addr,a.eval x=.pointer (some ad)->(execOp a.eval o).run P W.w=.ok (.value (.pointer (some (ad.add fd.offset)))) W.w:=by intro ad wD;simp[execOp,ho,Instr.fieldAt,run_underlying hu,hfd,wD,Instr.sureAddr,fieldPlace,uh,uV]
     have vQ:∀h1:AR s W (s.Af x) (a.eval x),(∀as,s.Ar x≠.bx as)->s.alive (s.Af x)=true->(match s.Af x with
       | .ptr r j AB=>(match o.dst with|some d=>(.go [.slot d (one (.ptr r (j+fd.offset) AB))]:Step (List Wr))|none=>.go [])
       | .Ds e y j=>(match o.dst with|some d=>(.go [.slot d (one (.Ds e y (j+fd.offset)))]:Step (List Wr))|none=>.go [])
       | .Ba c=>match Ai c.p with
        |some (q,i,off)=>(match o.dst with|some d=>(.go [.slot d (one (.Ba { c with p:=q++[(i,off+fd.offset)] }))]:Step (List Wr))|none=>.go [])
        |none=>.none
       |_=>.none:Step (List Wr)).leads ws->BS P E o a W.w (s.app ws):=by
      intro h1 yN yn hl;obtain⟨ad,wD⟩:=Gv h1 yn;have run:=run ad wD;clear yN;generalize s.Af x=p at hl h1 yn;split at hl
      ·rename_i r j AB;rw[AK hl];refine AP h run ?_;intro hb uT;have:=h1 hb uT;rw[wD]at this;injection this with this;injection this with this
       subst this;rw[CU]
      ·rename_i e y j;rw[AK hl];refine AP h run ?_;obtain⟨ad',g,arr,T,fr,hv,rest⟩:=h1;rw[wD]at hv;injection hv with hv;injection hv with hv
       subst hv;exact⟨ad',g,arr,T,fr,by rw[KG],rest⟩
      ·rename_i c;split at hl
       ·rename_i q i off hq;rw[AK hl];refine AP h run ?_;intro gen t0 e0 xs0 d0 uM hp;dsimp only at uM hp
        obtain⟨q',i',off',h',e',ad',n,k,zq,uv,hn,hs,hi,hv⟩:=h1 gen t0 e0 xs0 d0 uM (by
         rcases hp with hp|hp
         ·left;rw[CS hq];simpa using hp
         omega)
        rw[hq]at zq;injection zq with zq;injection zq with z1 z2;injection z2 with z2 z3
        subst z1;subst z2;subst z3;rw[wD]at hv;injection hv with hv;injection hv with hv
        subst hv;exact⟨q,i,off+fd.offset,h',e',ad',n,k,CF _ _ _,uv,hn,hs,hi,by rw[KG,Nat.add_assoc]⟩
       ·exact hl.elim
      ·exact hl.elim
     have hsel:∀p,s.Ar x=p->(∀as,p≠.bx as)->(if !s.alive p.one? then(.none:Step (List Wr))else match p.one? with
       | .ptr r j AB=>(match o.dst with|some d=>(.go [.slot d (one (.ptr r (j+fd.offset) AB))]:Step (List Wr))|none=>.go [])
       | .Ds e y j=>(match o.dst with|some d=>(.go [.slot d (one (.Ds e y (j+fd.offset)))]:Step (List Wr))|none=>.go [])
       | .Ba c=>match Ai c.p with
        |some (q,i,off)=>(match o.dst with|some d=>(.go [.slot d (one (.Ba { c with p:=q++[(i,off+fd.offset)] }))]:Step (List Wr))|none=>.go [])
        |none=>.none
       |_=>.none).leads ws->BS P E o a W.w (s.app ws):=by
      intro p hp yN hl;have h1:AR s W (s.Af x) (a.eval x):=Ac h x;split at hl
      ·exact hl.elim
      ·rename_i hal;refine vQ h1 (hp▸yN) (by rw[St.Af,hp];grind) ?_;rw[St.Af,hp];exact hl
     generalize hq:s.Ar x=p at hl h0;cases p with
     |bx as=>
      obtain⟨b,off,arr,T,fr,hv,hz,hh,vV,ud⟩:=h0;have run:=run _ hv;rw[AK hl];refine AP h run ?_;refine⟨b,off+fd.offset,arr,T,fr,by rw[CU],hz,hh,vV,λj y hy=>?_⟩;grind
     |v g as=>exact hsel _ hq OF hl
     |Da vs=>exact hsel _ hq OF hl
   ·exact hl.elim
  ·exact hl.elim
 ·exact hl.elim
theorem MQ(hc:Db P cx)(h:AW E s a.tmps W){t:TypeId}{x:Operand}{f:Nat}(ho:o.op=.field t x f)(hl:(AA cx v o s).leads ws):BS P E o a W.w (s.app ws):=by
 simp only[AA,ho]at hl;have h1:=A6 h x
 revert hl h1
 generalize s.Ar x=p;intro hl h1;split at hl
 ·rename_i ty as ht;split at hl
  ·rename_i fo ft hf;obtain⟨wR,fs,fd,hu,hfd,rfl,rfl⟩:=Jc hc ht hf;split at hl
   ·rename_i tf htf;split at hl
    ·rename_i hle;have hle:fd.offset+tf.ls.n<=as.length:=AAu hle;rw[AK hl];obtain⟨cs,w7,uh,ud⟩:=h1
     have hpart:∃u,(part fd.type cs fd.offset).run P W.w=.ok u W.w/\BO s W (.v tf.agg ((as.drop fd.offset).take tf.ls.n)) u:=by
      have htf':=hc _ _ htf;cases hag':tf.agg with
      |false=>
       obtain⟨l,vx,vr⟩:=htf'.lone hag';obtain⟨d,hd,vd⟩:=vr.I9
       have wS:(isAgg fd.type).run P W.w=.ok false W.w:=by
        unfold isAgg;rw[Sem.run_bind,run_underlying hd];cases d<;>simp_all
       have hn:tf.ls.n=1:=by rw[vx];rfl
       rw[hn]at hle ⊢;have uR:fd.offset<as.length:=J
       obtain⟨u,hu,vH⟩:=ud fd.offset as[fd.offset] (AAI uR);refine⟨u,by simp[part,wS,hu],?_⟩
       have:(as.drop fd.offset).take 1=[as[fd.offset]]:=by rw[List.drop_eq_getElem_cons uR];rfl
       rw[this];exact vH
      |true=>
       obtain⟨fs',hfs',_⟩:=htf'.agg hag'
       have wS:(isAgg fd.type).run P W.w=.ok true W.w:=by unfold isAgg;rw[Sem.run_bind,run_underlying hfs'];rfl
       refine⟨.agg (cs.extract fd.offset (fd.offset+tf.ls.n)),by simp[part,wS,Kt hc htf],_,rfl,ADJ,λj y hy=>?_⟩;grind
     obtain⟨u,ub,vH⟩:=hpart;exact AP h (u:=u) (by simp[execOp,ho,Instr.field,run_underlying hu,hfd,w7,asAgg,ub]) vH
    ·exact hl.elim
   ·exact hl.elim
  ·exact hl.elim
 ·exact hl.elim
theorem KS(h:AW E s a.tmps W){x:Operand}{i:Nat}(ho:o.op=.extract x i)(hl:(AA cx v o s).leads ws):BS P E o a W.w (s.app ws):=by
 simp only[AA,ho]at hl;have h1:=A6 h x
 revert hl h1
 generalize s.Ar x=p;intro hl h1;split at hl
 ·rename_i vs;split at hl
  ·rename_i g as hn;rw[AK hl];rw[Fi]at hn;obtain⟨us,hus,uh,ud⟩:=h1;obtain⟨u,hu,vH⟩:=ud i _ hn;exact AP h (u:=u) (by simp[execOp,ho,Instr.extract,hus,hu]) vH
  ·exact hl.elim
 ·exact hl.elim
theorem NB(h:AW E s a.tmps W){x:Operand}(ho:o.op=.move x)(hn:Hg (s.Ar x)=false)(hl:(AA cx v o s).leads ws):BS P E o a W.w (s.app ws):=by simp only[AA,ho,hn]at hl;rw[AK hl];exact AP h (u:=a.eval x) (by simp[execOp,ho]) (A6 h x)
theorem N0(h:AW E s a.tmps W){c:Call}(ho:o.op=.call c)(hb:c.callee=.builtin .min)(hl:(AA cx v o s).leads ws):BS P E o a W.w (s.app ws):=by
 simp only[AA,ho,hb]at hl;split at hl
 ·rename_i x y hx;have h1:=Ac h x;have h2:=Ac h y;generalize s.Af x=p at hl h1;generalize s.Af y=q at hl h2;split at hl
  ·rename_i k m j n;change Int at m n;rw[AK hl];have uw:c.args = #[x,y]:=No
   obtain⟨cal,args,ats⟩:=c;dsimp only at hb uw;subst hb;subst uw;have e1:a.eval x=.int k m:=h1.1;have e2:a.eval y=.int j n:=h2.1
   have hr:(Builtin.min_ ats o.type #[.int k m,.int j n]).run P W.w=.ok (.int k (M8 m n)) W.w:=by rw[run_min_int2];unfold M8;grind
   refine AP h (u:=.int k (M8 m n)) ?_ (BX _ _);simp[execOp,ho,resolve,invoke,builtin,e1,e2];rw[hr];rfl
  ·exact hl.elim
 ·exact hl.elim
theorem Nz(h:AW E s a.tmps W){c:Call}(ho:o.op=.call c)(hb:c.callee=.builtin .max)(hl:(AA cx v o s).leads ws):BS P E o a W.w (s.app ws):=by
 simp only[AA,ho,hb]at hl;split at hl
 ·rename_i x y hx;have h1:=Ac h x;have h2:=Ac h y;generalize s.Af x=p at hl h1;generalize s.Af y=q at hl h2;split at hl
  ·rename_i k m j n;change Int at m n;rw[AK hl];have uw:c.args = #[x,y]:=No
   obtain⟨cal,args,ats⟩:=c;dsimp only at hb uw;subst hb;subst uw;have e1:a.eval x=.int k m:=h1.1;have e2:a.eval y=.int j n:=h2.1
   have hr:(Builtin.max_ ats o.type #[.int k m,.int j n]).run P W.w=.ok (.int k (M7 m n)) W.w:=by rw[run_max_int2];unfold M7;grind
   refine AP h (u:=.int k (M7 m n)) ?_ (BX _ _);simp[execOp,ho,resolve,invoke,builtin,e1,e2];rw[hr];rfl
  ·exact hl.elim
 ·exact hl.elim
end
end Go.Ev
namespace Go.Ev
section
variable {P:Program}{E:Ck}{s:St}{W:Wd}{o:Oper}{a:Act}{ws:List Wr}{cx:Cx}{v:Nat}
theorem Fa(hc:Db P cx){t:TypeId}{e:Ls}(h:isRow cx t e=true):∃t',P.underlying t=some (.slice t')/\Nd P t' e:=by
 unfold isRow at h;split at h
 ·rename_i ty ht;simp only[AAJ,AAV]at h;obtain⟨hg,h⟩:=h;split at h
  ·rename_i t' f vx;obtain rfl:=Ls.Dd h;exact⟨t',Bw hc ht vx hg⟩
  ·cases h
 ·cases h
theorem KA(hc:Db P cx){t:TypeId}(h:Gi cx t .str=true):P.underlying t=some .string:=by
 unfold Gi at h;split at h
 ·rename_i ty ht;simp only[AAJ,AAV]at h;obtain⟨l,hl,hf⟩:=(hc t ty ht).lone h.1;rw[hl]at h;have:=h.2;simp only[Ls.eq?]at this;obtain rfl:=L.Dd this;exact hf
 ·cases h
theorem Nd.sizeOf{t:TypeId}{e:Ls}(h:Nd P t e)(w:World):(sizeOf t).run P w=.ok e.n w:=by obtain⟨i,hi,hs,_⟩:=h.info;simp[Go.sizeOf,typeInfo,hi,hs]
theorem IU{α:Type}{xs:List α}{n:Int}{x:α}(h:Iy xs n=some x):0<=n/\∃hx:n.toNat<xs.length,xs[n.toNat]=x:=by unfold Iy at h;grind
theorem L4{α:Type}{xs:List α}{n:Int}(h:Oi xs n=true):0<=n/\n.toNat<xs.length:=by unfold Oi at h;grind
theorem DV(hc:Db P cx){ti:TypeId}{e:Ls}(hr:isRow cx ti e=true){j:IntKind}{n:Int}{ad:Addr}{len c:Nat}(h0:0<=n)(hn:n.toNat<len)(w:World):
  (Instr.indexAt ti (.slice (some ad) len c) (.int j n)).run P w=.ok (.pointer (some (ad.add (n.toNat*e.n)))) w:=by
 obtain⟨t',hu,he⟩:=Fa hc hr;have:0<=n/\n<(len:Int):=J
 simp[Instr.indexAt,asIntOf,run_underlying hu,this,he.sizeOf]
theorem Ez{ad:Addr}(hs:ad.spot=none)(k:Nat):ad.add k=at_ ad k:=by obtain⟨b,off,sp⟩:=ad;dsimp only at hs;subst hs;exact CU b off k
theorem JC(hc:Db P cx)(h:AW E s a.tmps W){ti:TypeId}{x i:Operand}(ho:o.op=.indexAddr ti x i)(hl:(AA cx v o s).leads ws):BS P E o a W.w (s.app ws):=by
 simp only[AA,ho]at hl;obtain⟨j,n,hi,hl⟩:=D8 (Ac h i) hl;have h1:=Ac h x;generalize s.Af x=p at hl h1;split at hl
 ·rename_i t e xs;split at hl
  ·rename_i hr;obtain⟨y,hy,hl⟩:=hl;rw[AK hl];obtain⟨h0,hx,he⟩:=IU hy;have h1:AE e 0 W.w W.fz (a.eval x) xs []:=h1;obtain⟨A,c,hv,vp,h1⟩:=h1;cases A with
   |none=>omega
   |some ad=>
    rcases h1 with h1|⟨g,os,uX,uk,wJ,_,_⟩
    ·omega
    have ub:=DV (P:=P) hc hr (j:=j) (ad:=ad) (c:=c) h0 hx W.w;refine AP h (u:=.pointer (some (ad.add (n.toNat*e.n)))) (by simp[execOp,ho,hi,hv,ub]) ?_;obtain⟨hs,arr,T,fr,hh,hnn,_,hg⟩:=uX;rw[Ez hs];refine⟨at_ ad (n.toNat*e.n),λj=>g (n.toNat*e.n+j),arr,T,fr,by simp[at_],wJ,hh,λj=>?_,?_⟩
    ·show g _=_;rw[hg];simp[at_,Nat.add_assoc]
    ·have:=uk n.toNat hx;rw[he]at this;have ho:os n.toNat=[]:=Ls.DF e this;rw[ho]at this;exact this
  ·exact hl.elim
 ·rename_i c;have vu:=h1;obtain⟨t0,e0,xs0,d0,gen,uM,hp,hk⟩:=CK h hl;obtain⟨u,e',hu,hn⟩:=h1 gen t0 e0 xs0 d0 uM hp;obtain⟨t',ys,d',o',hl,uW,_⟩:=hk u e' _ hu hn;split at hl
  ·rename_i hr;rcases Ah hl with⟨hb,hl⟩|⟨_,hl⟩
   ·rw[AK hl];obtain⟨h0,hx⟩:=L4 hb;obtain⟨A,cc,hv,vp,uW⟩:=uW;cases A with
    |none=>omega
    |some ad=>
     rcases uW with uW|⟨g,os,uX,uk,_⟩
     ·omega
     have ub:=DV (P:=P) hc hr (j:=j) (ad:=ad) (c:=cc) h0 hx W.w;refine AP h (u:=.pointer (some (ad.add (n.toNat*e'.n)))) (by simp[execOp,ho,hi,hv,ub]) ?_;intro gen2 t2 e2 xs2 d2 uz yB;dsimp only at uz yB;rw[uM]at uz;injection uz with z1 z2 z3 z4
     subst z4;rw[hv]at hn;exact⟨c.p,n.toNat,0,u,e',ad,_,cc,CF _ _ _,hu,hn,uX.1,hx,by rw[Ez uX.1];rfl⟩
   ·exact hl.elim
  ·exact hl.elim
 ·rename_i c lo vw;obtain⟨t0,e0,xs0,d0,gen,uM,hp,hk⟩:=CK h hl;obtain⟨u,e',A0,n0,k0,hu,hn,vr,xm,hv⟩:=h1 gen t0 e0 xs0 d0 uM hp;obtain⟨t',ys,d',o',hl,uW,_⟩:=hk u e' _ hu hn;split at hl
  ·rename_i hr;rcases Ah hl with⟨hb,hl⟩|⟨_,hl⟩
   ·rw[AK hl];obtain⟨h0,hx⟩:=L4 hb;obtain⟨A,cc,wY,vp,uW⟩:=uW;injection wY with z1 z2 z3
    subst z1;subst z2;subst z3;have hx':n.toNat<vw-lo:=by simp[sub]at hx;omega
    cases A0 with
    |none=>omega
    |some ad=>
     rcases uW with uW|⟨g,os,uX,uk,_⟩
     ·omega
     have uV:k0≠lo:=J
     rw[AAQ uV]at hv;have ub:=DV (P:=P) hc hr (j:=j) (ad:=ad.add (lo*e'.n)) (c:=k0-lo) h0 hx' W.w;refine AP h (u:=.pointer (some ((ad.add (lo*e'.n)).add (n.toNat*e'.n)))) (by simp[execOp,ho,hi,hv,ub]) ?_;intro gen2 t2 e2 xs2 d2 uz yB;dsimp only at uz yB;rw[uM]at uz;injection uz with q1 q2 q3 q4
     subst q4;exact⟨c.p,lo+n.toNat,0,u,e',ad,_,k0,CF _ _ _,hu,hn,uX.1,J,by rw[Ez uX.1,KG,AAp];rfl⟩
   ·exact hl.elim
  ·exact hl.elim
 ·exact hl.elim
theorem MR(hc:Db P cx)(h:AW E s a.tmps W){ti:TypeId}{x i:Operand}(ho:o.op=.index ti x i)(hl:(AA cx v o s).leads ws):BS P E o a W.w (s.app ws):=by
 simp only[AA,ho]at hl;obtain⟨j,n,hi,hl⟩:=D8 (Ac h i) hl;have h1:=Ac h x;generalize s.Af x=p at hl h1;split at hl
 ·rename_i b;change ADD at b;split at hl
  ·rename_i hr;have hu:=KA hc hr;obtain⟨y,hy,hl⟩:=hl;rw[AK hl];obtain⟨h0,hx,he⟩:=IU hy;have e1:a.eval x=.string ⟨List.toArray (α:=UInt8) b⟩:=h1.1;refine AP h (u:=.int .u8 y.toNat) ?_ (BX _ _)
   have ud:(⟨List.toArray (α:=UInt8) b⟩:ByteArray)[n.toNat]?=some y:=by rw[getElem?_pos _ _ (by simpa[ByteArray.size]using hx)];congr 1
   simp[execOp,ho,hi,e1,Instr.index,asIntOf,run_underlying hu,h0,ud]
  ·exact hl.elim
 ·exact hl.elim
theorem Cp(h:AW E s a.tmps W){x:Option Operand}{d:Int}{β:Type}{k:Int->Step β}{t:β}(hl:(DP s x d k).leads t):
  ∃n:Int,(k n).leads t/\((x=none/\n=d)\/∃y j,x=some y/\a.eval y=.int j n):=by
 cases x with
 |none=>exact⟨d,hl,.inl ⟨rfl,rfl⟩⟩
 |some y=>
  obtain⟨j,n,hi,hl⟩:=D8 (Ac h y) hl;grind
theorem FE{isS:Bool}{len cap:Nat}{lo hi:Option Operand}{l m:Int}(vr:(lo=none/\l=0)\/∃y j,lo=some y/\a.eval y=.int j l)
  (xm:(hi=none/\m=(len:Int))\/∃y j,hi=some y/\a.eval y=.int j m) (h0:0<=l) (h1:l<=m) (h2:m<=(cap:Int)) (w:World):
  (Instr.sliceBounds isS len cap (lo.map a.eval) (hi.map a.eval) none).run P w=.ok (l.toNat,m.toNat,cap) w:=by
 rcases vr with⟨rfl,rfl⟩|⟨y,j,rfl,hy⟩<;>rcases xm with⟨rfl,rfl⟩|⟨z,k,rfl,hz⟩
 ·simp[Instr.sliceBounds]
 ·simp[Instr.sliceBounds,hz,Instr.sliceBound,asIntOf,h2,h1]
 ·simp[Instr.sliceBounds,hy,Instr.sliceBound,asIntOf,h0,h1]
 ·have:0<=m:=J
  have h3:l<=(m.toNat:Int):=J
  simp[Instr.sliceBounds,hy,hz,Instr.sliceBound,asIntOf,h0,h1,h2,this,h3];omega
theorem MS(hc:Db P cx)(h:AW E s a.tmps W){ti:TypeId}{x:Operand}{lo hi:Option Operand}(ho:o.op=.slice ti x lo hi none)(hl:(AA cx v o s).leads ws):BS P E o a W.w (s.app ws):=by
 simp only[AA,ho]at hl;have h1:=Ac h x;generalize s.Af x=p at hl h1;split at hl
 ·rename_i b;change ADD at b;split at hl
  ·rename_i hr;have hu:=KA hc hr;obtain⟨l,hl,vr⟩:=Cp h hl;obtain⟨m,hl,xm⟩:=Cp h hl;rcases Ah hl with⟨hb,hl⟩|⟨_,hl⟩
   ·simp only[AAJ,AAe]at hb;obtain⟨⟨b0,b1⟩,b2⟩:=hb;rw[AK hl];have e1:a.eval x=.string ⟨b.toArray⟩:=h1.1;have ub:=FE (P:=P) (isS:=false) (len:=b.length) (cap:=b.length) vr xm b0 b1 b2 W.w;refine AP h (u:=.string ((⟨b.toArray⟩:ByteArray).extract l.toNat m.toNat)) ?_ ?_
    ·have hs:(⟨b.toArray⟩:ByteArray).size=b.length:=by simp[ByteArray.size]
     simp[execOp,ho,e1,Instr.sliceAt,run_underlying hu,Instr.slice,hs,ub]
    ·have:(⟨b.toArray⟩:ByteArray).extract l.toNat m.toNat=⟨(sub b l.toNat m.toNat).toArray⟩:=by apply ByteArray.ext;rw[ByteArray.data_extract];simp[sub,List.extract_eq_take_drop]
     rw[this];exact KZ _
   ·exact hl.elim
  ·exact hl.elim
 ·rename_i t e b;change List e.D at b;split at hl
  ·rename_i hr;obtain⟨l,hl,vr⟩:=Cp h hl;obtain⟨m,hl,xm⟩:=Cp h hl;rcases Ah hl with⟨hb,hl⟩|⟨_,hl⟩
   ·simp only[AAJ,AAe]at hb;obtain⟨⟨b0,b1⟩,b2⟩:=hb;rw[AK hl];obtain⟨t',hu,he⟩:=Fa hc hr;have h1:AE e 0 W.w W.fz (a.eval x) b []:=h1;obtain⟨A,c,hv,vp⟩:=h1.len;rw[hv]at h1;obtain⟨o',q1,q2,_⟩:=B0.sub h1 (lo:=l.toNat) (hi:=m.toNat) J J;have wb:o'=[]:=B0.zero q1;subst wb;have ub:=FE (P:=P) (isS:=true) (len:=b.length) (cap:=c) vr xm b0 b1 J W.w;refine AP h (u:=.slice (if c=l.toNat then A else A.map (·.add (l.toNat*e.n))) (m.toNat-l.toNat) (c-l.toNat)) ?_ (show AR s W (.sc (.sl t e) (sub b l.toNat m.toNat)) _ from q1);simp[execOp,ho,hv,Instr.sliceAt,run_underlying hu,Instr.slice,ub,he.sizeOf]
   ·exact hl.elim
  ·exact hl.elim
 ·rename_i c;obtain⟨t0,e0,xs0,d0,gen,uM,hp,hk⟩:=CK h hl;obtain⟨u,e',uY,hn⟩:=h1 gen t0 e0 xs0 d0 uM hp;obtain⟨t',ys,d',o',hl,uW,_⟩:=hk u e' _ uY hn;split at hl
  ·rename_i hr;obtain⟨l,hl,vr⟩:=Cp h hl;obtain⟨m,hl,xm⟩:=Cp h hl;rcases Ah hl with⟨hb,hl⟩|⟨_,hl⟩
   ·simp only[AAJ,AAe]at hb;obtain⟨⟨b0,b1⟩,b2⟩:=hb;rw[AK hl];obtain⟨t2,hu,he⟩:=Fa hc hr;obtain⟨A,cc,hv,vp⟩:=uW.len;have ub:=FE (P:=P) (isS:=true) (len:=ys.length) (cap:=cc) vr xm b0 b1 J W.w;refine AP h (u:=.slice (if cc=l.toNat then A else A.map (·.add (l.toNat*e'.n))) (m.toNat-l.toNat) (cc-l.toNat)) ?_ ?_
    ·simp[execOp,ho,hv,Instr.sliceAt,run_underlying hu,Instr.slice,ub,he.sizeOf]
    ·intro gen2 t3 e3 xs3 d3 hleaf3 hp3;grind
   ·exact hl.elim
  ·exact hl.elim
 ·exact hl.elim
end
end Go.Ev
namespace Go.Ev
theorem A5(s:St):∀(xs ys:List Wr),s.app (xs++ys)=(s.app xs).app ys
 | [],ys=>rfl
 |x::xs,ys=>by show((s.AG x).app (xs++ys))=((s.AG x).app xs).app ys;exact A5 (s.AG x) xs ys
theorem Fc(s:St)(r j:Nat)(x:LA)(r' j':Nat):(s.AG (.leaf r j x)).leaf r' j'=if r=r'/\j=j'/\r<s.ro.length/\j<(s.root r).ls.length then x else s.leaf r' j':=by
 have vA:(s.AG (.leaf r j x)).root r'=if r=r'/\r<s.ro.length then { s.root r with ls:=DL (s.root r).ls j x }else s.root r':=BW _ _ _ _ _
 unfold St.leaf;rw[vA];by_cases h:r=r'/\r<s.ro.length
 ·obtain⟨rfl,uR⟩:=h;rw[AAP ⟨rfl,uR⟩];show nth LA.bad (DL (s.root r).ls j x) j'=_;rw[BW];by_cases hj:j=j'/\j<(s.root r).ls.length
  ·rw[AAP hj,AAP ⟨rfl,hj.1,uR,hj.2⟩]
  ·rw[AAQ hj,AAQ (λhh=>hj ⟨hh.2.1,hh.2.2.2⟩)]
 grind
structure JS(s s':St):Prop where
 sl:s'.sl=s.sl
 len:s'.ro.length=s.ro.length
 box:∀r,(s'.root r).box=(s.root r).box/\(s'.root r).AB=(s.root r).AB/\(s'.root r).ls.length=(s.root r).ls.length
theorem BY(s:St)(r j:Nat)(x:LA):JS s (s.AG (.leaf r j x)) where
 sl:=rfl
 len:=CG _ _ _
 box r':=by
  have vA:(s.AG (.leaf r j x)).root r'=if r=r'/\r<s.ro.length then { s.root r with ls:=DL (s.root r).ls j x }else s.root r':=BW _ _ _ _ _
  rw[vA];by_cases h:r=r'/\r<s.ro.length
  ·obtain⟨rfl,uR⟩:=h;rw[AAP ⟨rfl,uR⟩];exact⟨rfl,rfl,CG _ _ _⟩
  grind
theorem De(s:St):∀us:List (Nat×Nat),JS s (s.app (gone us))/\∀r j,(s.app (gone us)).leaf r j=if(r,j)∈us then .bad else s.leaf r j
 | []=>⟨⟨rfl,rfl,λ_=>⟨rfl,rfl,rfl⟩⟩,λr j=>by simp[gone,St.app]⟩
 |u::us=>by
  have h1:=BY s u.1 u.2 .bad;have h2:=Fc s u.1 u.2 .bad;obtain⟨a,b⟩:=De (s.AG (.leaf u.1 u.2 .bad)) us;refine⟨⟨a.sl.trans h1.sl,a.len.trans h1.len,λr=>⟨(a.box r).1.trans (h1.box r).1,(a.box r).2.1.trans (h1.box r).2.1,(a.box r).2.2.trans (h1.box r).2.2⟩⟩,λr j=>?_⟩;show((s.AG (.leaf u.1 u.2 .bad)).app (gone us)).leaf r j=_;rw[b,h2];by_cases hm:(r,j)∈us
  ·grind
  ·rw[AAQ hm];by_cases he:(r,j)=u
   ·have uO:(r,j)∈u::us:=by rw[he];exact AAk
    rw[AAP uO];subst he;split
    ·rfl
    ·rename_i uV;unfold St.leaf;by_cases hr:r<s.ro.length
     ·rw[Au];exact AAy λhj=>uV ⟨rfl,rfl,hr,hj⟩
     ·have:s.root r=dead:=Au _ (AAy hr);rw[this];rfl
   grind
section
variable {P:Program}{E:Ck}{s:St}{tm:Array Value}{W:Wd}{v:Nat}
def AL(W:Wd)(w':World)(us:List (Nat×Nat))(d:Nat)(cvd:Nat->Option Value)(bkd:Nat)(ob:Is)(oj:Nat->Is):Wd:=
 {w:=w',fz:=W.fz
  cv:=λr j=>if r=d then cvd j else W.cv r j
  bk:=λr=>if r=d then bkd else W.bk r
  om:=λk=>match k with
   | .blk r=>if r=d then ob else W.om (.blk r)
   | .lf r j=>if r=d then oj j else if(r,j)∈us then []else W.om (.lf r j)
   | .fl _=>[] }
def Kept(us:List (Nat×Nat))(d:Nat):Key->Prop
 | .blk r=>r≠d
 | .lf r j=>r≠d/\(r,j)∉us
 | .fl _=>False
theorem AW.KV(h:AW E s tm W)(hv:Aj s v){us:List (Nat×Nat)}{d:Nat}(hd:d<tm.size){x:Bz}{a:AV}{u:Value}{w':World}{cvd:Nat->Option Value}{bkd:Nat}{ob:Is}{oj:Nat->Is}
  (hx:x.AB=v) (hxl:∀(j AB gen:Nat)(t:TypeId)(e:Ls)(xs:List e.D)(dd:Nat),nth .bad x.ls j=.arr AB gen t e xs dd->AB=v)
  (hw:∀b,(W.fz b\/∃k,Kept us d k/\b∈W.om k)->w'.heap[b]?=W.w.heap[b]?)
  (vV:∀b,b<E.base->¬E.io b->w'.heap[b]?=W.w.heap[b]?) (uh:W.w.heap.size<=w'.heap.size) (ho:w'.os=W.w.os/\w'.tape=W.w.tape/\w'.output=W.w.output)
  (yN:ob.Nodup) (hnj:∀j,(oj j).Nodup) (hdb:∀j,∀b∈ob,b∉oj j) (hdj:∀i j,i≠j->∀b∈oj i,b∉oj j)
  (va:∀b,(b∈ob\/∃j,b∈oj j)->(∃k,¬Kept us d k/\b∈W.om k)\/(W.w.heap.size<=b/\b<w'.heap.size))
  (vA:Eg v s (s.app (gone us++[.root d x,.slot d a])) W (AL W w' us d cvd bkd ob oj)->(s.app (gone us++[.root d x,.slot d a])).root d=x->D5 (s.app (gone us++[.root d x,.slot d a])) (AL W w' us d cvd bkd ob oj) d x)
  (yQ:Eg v s (s.app (gone us++[.root d x,.slot d a])) W (AL W w' us d cvd bkd ob oj)->(s.app (gone us++[.root d x,.slot d a])).root d=x->BO (s.app (gone us++[.root d x,.slot d a])) (AL W w' us d cvd bkd ob oj) a u):
  AW E (s.app (gone us++[.root d x,.slot d a])) (tm.setIfInBounds d u) (AL W w' us d cvd bkd ob oj):=by
 obtain⟨uS,uM⟩:=De s us;generalize zR:s.app (gone us++[.root d x,.slot d a])=s' at *;rw[A5]at zR;generalize s.app (gone us)=s1 at uS uM zR;have hd1:d<s1.ro.length:=by rw[uS.len,h.Bb];exact hd
 have hd2:d<s1.sl.length:=by rw[uS.sl,h.DS];exact hd
 have wC:∀r,s'.root r=if d=r then x else s1.root r:=by
  intro r;subst zR;show((s1.AG (.root d x)).AG (.slot d a)).root r=_;have:((s1.AG (.root d x)).AG (.slot d a)).root r=(s1.AG (.root d x)).root r:=rfl;rw[this,Ap];by_cases xZ:d=r
  ·grind
  ·grind
 have hslots:∀t,s'.slot t=if d=t then a else s.slot t:=by
  intro t;subst zR;show((s1.AG (.root d x)).AG (.slot d a)).slot t=_;rw[BH];by_cases xZ:d=t
  ·rw[AAP ⟨xZ,hd2⟩,AAP xZ]
  ·rw[AAQ (λhh=>xZ hh.1),AAQ xZ];show nth _ s1.sl t=_;rw[uS.sl];rfl
 have zk:∀r j,s'.leaf r j=if d=r then nth .bad x.ls j else if(r,j)∈us then .bad else s.leaf r j:=by
  intro r j;unfold St.leaf;rw[wC];by_cases xZ:d=r
  ·grind
  ·rw[AAQ xZ,AAQ xZ];exact uM r j
 have um:Eg v s s' W (AL W w' us d cvd bkd ob oj):={
  fz:=λb hb=>hb
  Lj:=λb hb=>hw b (.inl hb)
  leaf:=by
   intro r j AB gen t e xs dd hl uV;rw[zk]at hl;by_cases xZ:d=r
   ·grind
   ·rw[AAQ xZ]at hl;by_cases hm:(r,j)∈us
    ·grind
    ·rw[AAQ hm]at hl;refine⟨AAQ (λe=>xZ e.symm),gen,t,xs,dd,hl,λ_=>⟨rfl,λp h' e' u' hc hn=>?_⟩⟩;obtain⟨u0,vm,uW⟩:=(h.roots r).row hl;rw[hc]at vm;injection vm with vm;subst vm
     exact BN p uW hn λb hb=>hw b (hb.elim (λhb=>.inr ⟨.lf r j,⟨λe=>xZ e.symm,hm⟩,hb⟩) .inl)
  box:=by
   intro r hb uV;rw[wC]at hb uV ⊢;by_cases xZ:d=r
   ·grind
   ·rw[AAQ xZ]at hb uV ⊢;obtain⟨b1,b2,b3⟩:=uS.box r;exact⟨b1▸hb,b2.symm,AAQ (λe=>xZ e.symm)⟩ }
 have wV:Sep E (AL W w' us d cvd bkd ob oj):=by
  refine h.sep.IH (λk=>¬Kept us d k) rfl uh vV ho ?_ ?_ ?_ ?_
  ·intro k hk;have hk:Kept us d k:=ABC.1 hk;cases k with
   |blk r=>exact AAQ hk
   |lf r j=>show(if r=d then oj j else if(r,j)∈us then []else W.om (.lf r j))=_;rw[AAQ hk.1,AAQ hk.2]
   |fl k=>exact hk.elim
  ·intro k hk;cases k with
   |blk r=>
    have:r=d:=ABC.1 hk;show(if r=d then ob else W.om (.blk r)).Nodup;grind
   |lf r j=>
    show(if r=d then oj j else if(r,j)∈us then []else W.om (.lf r j)).Nodup;by_cases hr:r=d
    ·grind
    ·rw[AAQ hr];by_cases hm:(r,j)∈us
     ·grind
     ·exact absurd ⟨hr,hm⟩ hk
   |fl k=>exact AAS
  ·intro k k' hk vh uV b hb uZ;cases k with
   |fl k=>cases hb
   |blk r=>
    have hr:r=d:=ABC.1 hk;subst hr;have hb:b∈ob:=by have:b∈(if r=r then ob else W.om (.blk r)):=hb;grind
    cases k' with
    |fl k=>cases uZ
    |blk r'=>have vI:r'=r:=ABC.1 vh;grind
    |lf r' j'=>
     have uZ:b∈(if r'=r then oj j' else if(r',j')∈us then []else W.om (.lf r' j')):=uZ;by_cases vI:r'=r
     ·grind
     ·rw[AAQ vI]at uZ;by_cases hm:(r',j')∈us
      ·grind
      ·exact vh ⟨vI,hm⟩
   |lf r j=>
    have hb:b∈(if r=d then oj j else if(r,j)∈us then []else W.om (.lf r j)):=hb;by_cases hr:r=d
    ·rw[AAP hr]at hb;cases k' with
     |fl k=>cases uZ
     |blk r'=>
      have vI:r'=d:=ABC.1 vh;have uZ:b∈(if r'=d then ob else W.om (.blk r')):=uZ;grind
     |lf r' j'=>
      have uZ:b∈(if r'=d then oj j' else if(r',j')∈us then []else W.om (.lf r' j')):=uZ;by_cases vI:r'=d
      ·grind
      ·rw[AAQ vI]at uZ;by_cases hm:(r',j')∈us
       ·grind
       ·exact vh ⟨vI,hm⟩
    ·rw[AAQ hr]at hb;by_cases hm:(r,j)∈us
     ·grind
     ·exact hk ⟨hr,hm⟩
  ·intro k hk b hb
   have w6:b∈ob\/∃j,b∈oj j:=by
    cases k with
    |fl k=>cases hb
    |blk r=>
     have hr:r=d:=ABC.1 hk;have hb:b∈(if r=d then ob else W.om (.blk r)):=hb;grind
    |lf r j=>
     have hb:b∈(if r=d then oj j else if(r,j)∈us then []else W.om (.lf r j)):=hb;by_cases hr:r=d
     ·grind
     ·rw[AAQ hr]at hb;by_cases hm:(r,j)∈us
      ·grind
      ·exact absurd ⟨hr,hm⟩ hk
   exact va b w6
 refine h.IH hv um wV ?_ ?_ ?_ ?_
 ·subst zR;simp only[St.app,St.AG,CG,Array.size_setIfInBounds];rw[uS.sl,h.DS]
 ·subst zR;simp only[St.app,St.AG,CG,Array.size_setIfInBounds];rw[uS.len,h.Bb]
 ·intro t;rw[hslots];by_cases hdt:d=t
  ·right;rw[AAP hdt];have:(tm.setIfInBounds d u).getD t Go.undef=u:=by subst hdt;simp[AAw,hd]
   grind
  ·left;rw[AAQ hdt];exact⟨rfl,by simp[AAw,hdt]⟩
 ·intro r;rw[wC];by_cases xZ:d=r
  ·grind
  ·rw[AAQ xZ];obtain⟨h1,h2⟩:=h.roots r;obtain⟨b1,b2,b3⟩:=uS.box r;have xv:¬r=d:=λe=>xZ e.symm;refine⟨λj=>?_,?_⟩
   ·have e1:(AL W w' us d cvd bkd ob oj).cv r j=W.cv r j:=AAQ xv;have e2:(AL W w' us d cvd bkd ob oj).om (.lf r j)=if(r,j)∈us then []else W.om (.lf r j):=AAQ xv
    have e3:nth LA.bad (s1.root r).ls j=if(r,j)∈us then .bad else s.leaf r j:=uM r j
    rw[e1,e2,e3];by_cases hm:(r,j)∈us
    ·rw[AAP hm,AAP hm];exact⟨rfl,λ_ _=>trivial⟩
    ·rw[AAQ hm,AAQ hm];exact Aa.Dh um (hv.2.1 r j) (λb hb=>hw b (.inr ⟨.lf r j,⟨xv,hm⟩,hb⟩)) (h1 j)
   ·have e1:(AL W w' us d cvd bkd ob oj).om (.blk r)=W.om (.blk r):=AAQ xv;have e2:(AL W w' us d cvd bkd ob oj).bk r=W.bk r:=AAQ xv;rw[b1,e1,e2];split
    ·rename_i hb;rw[AAP hb]at h2;obtain⟨wb,arr,T,fr,hh,a1,a2,a3⟩:=h2;refine⟨wb,arr,T,fr,(hw _ (.inr ⟨.blk r,xv,by rw[wb];simp⟩)).trans hh,a1,by rw[b3];exact a2,λj=>?_⟩;show(if r=d then cvd j else W.cv r j)=_;rw[AAQ xv];exact a3 j
    grind
theorem AW.place(h:AW E s tm W)(hv:Aj s v){us:List (Nat×Nat)}{d:Nat}(hd:d<tm.size){x:Bz}{a:AV}{u:Value}{w':World}{cvd:Nat->Option Value}{bkd:Nat}{ob:Is}{oj:Nat->Is}
  (hx:x.AB=v) (hxl:∀(j AB gen:Nat)(t:TypeId)(e:Ls)(xs:List e.D)(dd:Nat),nth .bad x.ls j=.arr AB gen t e xs dd->AB=v)
  (hw:∀b,(W.fz b\/∃k,Kept us d k/\b∈W.om k)->w'.heap[b]?=W.w.heap[b]?)
  (vV:∀b,b<E.base->¬E.io b->w'.heap[b]?=W.w.heap[b]?) (uh:W.w.heap.size<=w'.heap.size) (ho:w'.os=W.w.os/\w'.tape=W.w.tape/\w'.output=W.w.output)
  (yN:ob.Nodup) (hnj:∀j,(oj j).Nodup) (hdb:∀j,∀b∈ob,b∉oj j) (hdj:∀i j,i≠j->∀b∈oj i,b∉oj j)
  (va:∀b,(b∈ob\/∃j,b∈oj j)->(∃r j,(r,j)∈us/\b∈W.om (.lf r j))\/(W.w.heap.size<=b/\b<w'.heap.size))
  (vA:Eg v s (s.app (gone us++[.root d x,.slot d a])) W (AL W w' us d cvd bkd ob oj)->(s.app (gone us++[.root d x,.slot d a])).root d=x->D5 (s.app (gone us++[.root d x,.slot d a])) (AL W w' us d cvd bkd ob oj) d x)
  (yQ:Eg v s (s.app (gone us++[.root d x,.slot d a])) W (AL W w' us d cvd bkd ob oj)->(s.app (gone us++[.root d x,.slot d a])).root d=x->BO (s.app (gone us++[.root d x,.slot d a])) (AL W w' us d cvd bkd ob oj) a u):
  AW E (s.app (gone us++[.root d x,.slot d a])) (tm.setIfInBounds d u) (AL W w' us d cvd bkd ob oj):=
 h.KV hv hd hx hxl hw vV uh ho yN hnj hdb hdj (λb hb=>(va b hb).imp (λ⟨r,j,hm,h0⟩=>⟨.lf r j,λhk=>hk.2 hm,h0⟩) id) vA yQ
end
end Go.Ev
namespace Go.Ev
section
variable {P:Program}{E:Ck}{s:St}{tm:Array Value}{W:Wd}{v:Nat}{cx:Cx}{β:Type}{t:β}
theorem AW.Cd(h:AW E s tm W)(hv:Aj s v)(us:List (Nat×Nat)){d:Nat}(hd:d<tm.size){t0:TypeId}{e:Ls}{xs:List e.D}{dd:Nat}{u:Value}{w':World}{o:Is}
  (hw:∀b,(W.fz b\/∃k,Kept us d k/\b∈W.om k)->w'.heap[b]?=W.w.heap[b]?)
  (vV:∀b,b<E.base->¬E.io b->w'.heap[b]?=W.w.heap[b]?) (uh:W.w.heap.size<=w'.heap.size) (ho:w'.os=W.w.os/\w'.tape=W.w.tape/\w'.output=W.w.output)
  (hr:AE e dd w' W.fz u xs o) (hn:o.Nodup) (va:∀b∈o,(∃r j,(r,j)∈us/\b∈W.om (.lf r j))\/(W.w.heap.size<=b/\b<w'.heap.size)):
  ∃W',W'.w=w'/\AW E (s.app (gone us++[.root d ⟨false,v,[.arr v v t0 e xs dd]⟩,.slot d (one (.ref ⟨d,0,v,v,[]⟩))])) (tm.setIfInBounds d u) W':=by
 refine⟨AL W w' us d (λj=>if j=0 then some u else none) 0 [] (λj=>if j=0 then o else []),rfl,?_⟩;obtain⟨uS,uM⟩:=De s us;refine h.place hv hd rfl ?_ hw vV uh ho AAS ?_ (λj b hb=>by cases hb) ?_ ?_ ?_ ?_
 ·intro j AB gen t e xs dd' hl;cases j with
  |zero=>simp only[nth]at hl;grind
  |succ j=>simp[nth]at hl
 ·grind
 ·grind
 ·grind
 ·intro _ _;refine⟨λj=>?_,?_⟩
  ·cases j with
   |zero=>
    refine⟨u,by simp[AL],?_⟩;have:(AL W w' us d (λj=>if j=0 then some u else none) 0 [] (λj=>if j=0 then o else [])).om (.lf d 0)=o:=by simp[AL]
    rw[this];exact hr
   |succ j=>
    have h1:nth LA.bad [LA.arr v v t0 e xs dd] (j+1)=.bad:=by simp[nth]
    have h2:(AL W w' us d (λj=>if j=0 then some u else none) 0 [] (λj=>if j=0 then o else [])).om (.lf d (j+1))=[]:=by simp[AL]
    rw[h1,h2];exact⟨rfl,λ_ _=>trivial⟩
  ·show(if false=true then _ else _);simp[AL]
 ·intro _ _ gen t e2 xs2 d2 hl hp;refine⟨u,e2,?_,rfl,rfl⟩;simp[AL]
def Ip(s:St)(W:Wd)(v:Nat)(b:LA)(u:Value)(o:Is)(us:List (Nat×Nat)):Prop:=
 u.oneCell'=true/\o.Nodup/\(∀b∈o,∃r j,(r,j)∈us/\b∈W.om (.lf r j))/\match b with
  | .arr AB gen _ e xs d=>AB=v/\gen=v/\AE e d W.w W.fz u xs o
  |b=>o=[]/\AR s W b u/\v∉b.AF
theorem Na(A:Option Addr)(n c:Nat):(Value.slice A n c).cells = #[.slice A n c]:=rfl
theorem cells_one{u:Value}(h:u.oneCell'=true):u.cells = #[u]:=by
 cases u<;>first|rfl|cases h
theorem Mb:∀(l:L) {w:World} {fz:Nat->Prop} {u:Value} {x:l.D},l.rd 0 w fz u x []->u.oneCell'=true
 | .int k,_,_,u,x,h=>by rw[show u=.int k x from h.1];rfl
 | .bool,_,_,u,x,h=>by rw[show u=.bool x from h.1];rfl
 | .str,_,_,u,x,h=>by rw[show u=.string ⟨x.toArray⟩from h.1];rfl
 | .sl _ e,_,_,u,x,h=>by obtain⟨A,c,hu,_⟩:=AE.len (show AE e 0 _ _ u x []from h);rw[hu];rfl
theorem Kx(h:AW E s tm W){la:LA}(wQ:v∉la.AF){u:Value}(hu:AR s W la u){l:L}{k:LA->List (Nat×Nat)->Step β}(hl:(s.take cx v la l k).leads t):
  ∃b us o,(k b us).leads t/\Ip s W v b u o us/\(∀x∈us,cx.KU x.1=false)/\us.length<=1:=by
 unfold St.take at hl;cases la with
 |sc m x=>
  simp only at hl;split at hl
  ·exact⟨_,_,[],hl,⟨Mb m hu,AAS,(λb hb=>by cases hb),rfl,hu,wQ⟩,(λx hx=>by cases hx),OF⟩
  ·exact hl.elim
 |CA=>
  cases l with
  |sl t' e=>
   refine⟨_,_,[],hl,⟨by rw[show u=.slice none 0 0 from hu];rfl,AAS,(λb hb=>by cases hb),rfl,rfl,?_⟩,(λx hx=>by cases hx),OF⟩;rw[show u=.slice none 0 0 from hu];exact Bl
  |_=>exact hl.elim
 |ref c=>
  simp only at hl;split at hl
  ·rename_i AB gen t' e xs d uM;split at hl
   ·obtain⟨t2,e2,ys,d2,o2,hl,hr,ho⟩:=DB h hu hl;split at hl
    ·obtain⟨u0,_,hr0⟩:=(h.roots c.r).row uM;have hz:W.om (.lf c.r c.j)=[]:=AE.zero hr0;obtain⟨A,cc,xo,_⟩:=hr.len;exact⟨_,_,[],hl,⟨by rw[xo];rfl,AAS,(λb hb=>by cases hb),rfl,hr.freeze λb hb=>hb.elim id λhb=>No,by simp[LA.AF]⟩,(λx hx=>by cases hx),OF⟩
    ·exact hl.elim
   ·split at hl
    ·rename_i hc;simp only[AAJ,AAT,AAV]at hc;obtain⟨⟨⟨uT,hp⟩,zD⟩,hk⟩:=hc;subst uT;have hp:c.p=[]:=by cases hq:c.p<;>simp_all[isNil]
     obtain⟨h',e',uv,hn⟩:=hu _ _ _ _ _ uM (.inl hp);rw[hp]at hn;obtain⟨rfl,rfl⟩:=hn;obtain⟨u',uY,uW⟩:=(h.roots c.r).row uM;rw[uv]at uY;injection uY with uY;subst uY
     obtain⟨A,cc,xo,_⟩:=uW.len;refine⟨_,_,W.om (.lf c.r c.j),hl,⟨by rw[xo];rfl,h.sep.nodup _,λb hb=>⟨c.r,c.j,OF,hb⟩,rfl,rfl,uW⟩,λx hx=>?_,OF⟩;grind
    ·exact hl.elim
  ·exact hl.elim
 |Dy c lo hi=>
  simp only at hl;split at hl
  ·rename_i AB gen t' e xs d uM;split at hl
   ·rename_i hc;simp only[AAJ,AAT,AAV]at hc;obtain⟨⟨⟨uT,hp⟩,zD⟩,hk⟩:=hc;subst uT;have hp:c.p=[]:=by cases hq:c.p<;>simp_all[isNil]
    obtain⟨h',e',A,n,k0,uv,hn,h1,h2,xo⟩:=hu gen t' e xs d uM (.inl hp);rw[hp]at hn;obtain⟨rfl,rfl⟩:=hn;obtain⟨u',uY,uW⟩:=(h.roots c.r).row uM;rw[uv]at uY;injection uY with uY;subst uY
    obtain⟨o',q1,q2,q3⟩:=B0.sub uW h1 h2;refine⟨_,_,o',hl,⟨by rw[xo];rfl,q3 (h.sep.nodup _),λb hb=>⟨c.r,c.j,OF,q2 b hb⟩,rfl,rfl,?_⟩,λx hx=>?_,OF⟩
    ·rw[xo];exact q1
    grind
   ·exact hl.elim
  ·exact hl.elim
 |ptr r j AB=>
  simp only at hl;split at hl
  ·rename_i hc;simp only[AAJ,AAT]at hc;refine⟨_,_,[],hl,⟨by rw[hu hc.1 hc.2];rfl,AAS,(λb hb=>by cases hb),rfl,hu,wQ⟩,(λx hx=>by cases hx),OF⟩
  ·exact hl.elim
 |fn f=>exact⟨_,_,[],hl,⟨by rw[show u=_ from hu];rfl,AAS,(λb hb=>by cases hb),rfl,hu,wQ⟩,(λx hx=>by cases hx),OF⟩
 |_=>exact hl.elim
theorem EO(h:AW E s tm W):∀ {ls:List L} {as:List LA} {g:Nat->Option Value} {k:List LA->List (Nat×Nat)->Step β},(∀(j:Nat)(b:LA),as[j]?=some b->v∉b.AF/\∃u,g j=some u/\AR s W b u)->
  (s.Fp cx v ls as k).leads t->∃(bs:List LA) (us:List (Nat×Nat)) (os:Nat->Is),(k bs us).leads t/\bs.length=as.length/\as.length=ls.length/\us.Nodup/\(∀x∈us,cx.KU x.1=false)/\
   (∀i j,i≠j->∀b∈os i,b∉os j)/\(∀j,as.length<=j->os j=[])/\∀(j:Nat)(b:LA),bs[j]?=some b->∃u,g j=some u/\Ip s W v b u (os j) us
 | [],[],g,k,hg,hl=>⟨[],[],λ_=>[],hl,rfl,rfl,AAS,(λx hx=>by cases hx),(λ_ _ _ b hb=>by cases hb),λ_ _=>rfl,(λj b hb=>by simp at hb)⟩
 | [],_::_,g,k,hg,hl=>hl.elim
 |_::_,[],g,k,hg,hl=>hl.elim
 |l::ls,a::as,g,k,hg,hl=>by
  obtain⟨wQ,u,hu,ha⟩:=hg 0 a rfl;obtain⟨b,us,o,hl,hb,xD,yM⟩:=Kx h wQ ha hl;obtain⟨bs,vs,os,hl,hlen,xG,vd,hbx2,vU,wi,wT⟩:=EO h (g:=λj=>g (j+1)) (λj b hj=>hg (j+1) b No) hl;split at hl
  ·rename_i vY
   have xt:∀x∈us,x∉vs:=by intro x hx hx';have:=AAW.1 vY x hx;simp at this;exact this hx'
   refine⟨b::bs,us++vs,λj=>match j with|0=>o|j+1=>os j,hl,by simp[hlen],by simp[xG],?_,?_,?_,?_,?_⟩
   ·grind
   ·grind
   ·have cross:∀j,∀y∈o,y∉os j:=by
     intro j y hy xB;obtain⟨r,jj,hm,h1⟩:=hb.2.2.1 y hy;by_cases hj:j<bs.length
     ·obtain⟨u',_,ht⟩:=wT j bs[j] (AAI hj);obtain⟨r',jj',vy,vu⟩:=ht.2.2.1 y xB;by_cases he:(r,jj)=(r',jj')
      ·exact xt _ hm (by rw[he];exact vy)
      ·exact h.sep.A7 (.lf r jj) (.lf r' jj') (λe=>he (by injection e with e1 e2;rw[e1,e2])) y h1 vu
     ·rw[wi j J]at xB;cases xB
    grind
   ·grind
   ·intro j y hy;cases j with
    |zero=>
     simp at hy;subst hy;refine⟨u,hu,hb.1,hb.2.1,λz hz=>?_,hb.2.2.2⟩;obtain⟨r,jj,hm,h1⟩:=hb.2.2.1 z hz;grind
    |succ j=>
     obtain⟨u',uY,ht⟩:=wT j y ADf;refine⟨u',uY,ht.1,ht.2.1,λz hz=>?_,ht.2.2.2⟩;obtain⟨r,jj,hm,h1⟩:=ht.2.2.1 z hz;grind
  ·exact hl.elim
end
end Go.Ev
namespace Go.Ev
section
variable {P:Program}{E:Ck}{s:St}{W:Wd}{o:Oper}{a:Act}{ws:List Wr}{cx:Cx}{v:Nat}{tm:Array Value}
theorem Bf(h:AW E s a.tmps W){u:Value}{w':World}{W':Wd}{d:Nat}(hd:o.dst=some d)(ub:(execOp a.eval o).run P W.w=.ok (.value u) w')(hw:W'.w=w')
  (hr:AW E (s.app ws) (a.tmps.setIfInBounds d u) W'):BS P E o a W.w (s.app ws):=by
 intro next Q hn
 unfold Oper.wp;rw[ub];show next (a.put o.dst u) w'
 rw[hd,<-hw];exact hn _ W' rfl hr
theorem N9{us:List (Nat×Nat)}{d:Nat}:∀b,(W.fz b\/∃k,Kept us d k/\b∈W.om k)->W.w.heap[b]?=W.w.heap[b]?:=λ_ _=>rfl
theorem AZ(x:Value):(ofConst x).AF=[]:=by
 cases x with
 |slice A n c=>
  cases A with
  |none=>cases n with
   |zero=>cases c<;>rfl
   |succ n=>rfl
  |some a=>rfl
 |pointer A=>cases A<;>rfl
 |_=>rfl
theorem Fj(hv:Aj s v)(x:Operand):v∉(s.Ar x).AF:=by
 cases x with
 |tmp t=>exact hv.1 t
 |const c=>
  cases c with
  |agg cs=>
   show v∉(cs.toList.map ofConst).flatMap LA.AF;intro uO;obtain⟨b,hb,uO⟩:=AAL.1 uO;obtain⟨y,_,rfl⟩:=AAs.1 hb;rw[AZ]at uO;cases uO
  |bool b=>simp[St.Ar,AV.AF,AZ]
  |int k n=>simp[St.Ar,AV.AF,AZ]
  |float k n=>simp[St.Ar,AV.AF,AZ]
  |complex k x y=>simp[St.Ar,AV.AF,AZ]
  |string b=>simp[St.Ar,AV.AF,AZ]
  |pointer b=>simp[St.Ar,AV.AF,AZ]
  |slice b n c=>simp[St.Ar,AV.AF,AZ]
  |map r=>simp[St.Ar,AV.AF,AZ]
  |chan r=>simp[St.Ar,AV.AF,AZ]
  |func f x y=>simp[St.Ar,AV.AF,AZ]
  |nilFunc=>simp[St.Ar,AV.AF,AZ]
  |iface t x=>simp[St.Ar,AV.AF,AZ]
  |nilIface=>simp[St.Ar,AV.AF,AZ]
  |tuple vs=>simp[St.Ar,AV.AF,AZ]
 |global g=>simp[St.Ar,AV.AF,LA.AF]
 |func f=>simp[St.Ar,AV.AF,LA.AF]
theorem MM{x:AV}(h:v∉x.AF):v∉x.one?.AF:=by
 cases x with
 |Da vs=>simp[AV.one?,LA.AF]
 |bx as=>simp[AV.one?,LA.AF]
 |v g as=>
  cases g with
  |true=>simp[AV.one?,LA.AF]
  |false=>cases as with
   |nil=>simp[AV.one?,LA.AF]
   |cons b bs=>cases bs with
    |nil=>simpa[AV.one?,AV.AF]using h
    |cons=>simp[AV.one?,LA.AF]
theorem Ib(hv:Aj s v)(x:Operand):v∉(s.Af x).AF:=MM (Fj hv x)
theorem LQ(h:AW E s a.tmps W)(hv:Aj s v){x:Operand}(ho:o.op=.assign x)(hd:∀d,o.dst=some d->d<a.tmps.size)(hl:(AA cx v o s).leads ws):BS P E o a W.w (s.app ws):=by
 simp only[AA,ho]at hl;have ub:(execOp a.eval o).run P W.w=.ok (.value (a.eval x)) W.w:=by simp[execOp,ho]
 have h1:=Ac h x;have wQ:=Ib hv x;cases vK:o.dst with
 |none=>rw[vK]at hl;exact hl.elim
 |some d=>
  rw[vK]at hl;dsimp only at hl;generalize s.Af x=p at hl h1 wQ
  have val:∀y,AR s W y (a.eval x)->ws=[.slot d (one y)]->BS P E o a W.w (s.app ws):=by intro y hy xW;subst xW;exact Bf h vK ub rfl (h.slot d (show BO s W (one y) _ from hy))
  split at hl
  ·exact val _ h1 hl.symm
  ·exact val _ h1 hl.symm
  ·exact val _ h1 hl.symm
  ·exact val _ h1 hl.symm
  ·exact val _ h1 hl.symm
  ·exact val _ h1 hl.symm
  ·split at hl
   ·exact hl.elim
   ·split at hl
    ·rename_i ty wO;split at hl
     ·rename_i l vx;obtain⟨b,us,oo,hl,hb,xD,_⟩:=Kx h wQ h1 hl;split at hl
      ·rename_i t e xs dd;have hl:_=ws:=hl;obtain⟨uq,vd,va,rfl,rfl,uX⟩:=hb;obtain⟨W',vf,uP⟩:=h.Cd hv us (hd d vK) (t0:=t) (w':=W.w) (λb hb=>rfl) (λb _ _=>rfl) (AAb _) ⟨rfl,rfl,rfl⟩ uX vd (λb hb=>.inl (va b hb));rw[hl]at uP;exact Bf h vK ub vf uP
      ·exact hl.elim
     ·exact hl.elim
    ·exact hl.elim
theorem KT(h:AW E s a.tmps W)(hv:Aj s v){x:Operand}(ho:o.op=.move x)(hn:Hg (s.Ar x)=true)(hd:∀d,o.dst=some d->d<a.tmps.size)(hl:(AA cx v o s).leads ws):BS P E o a W.w (s.app ws):=by
 simp only[AA,ho,hn,if_true]at hl
 have wW:a.eval x=.slice none 0 0:=by
  have h1:=A6 h x
  revert hn h1
  generalize s.Ar x=p;intro hn h1;unfold Hg at hn;split at hn
  ·exact h1
  ·cases hn
 split at hl
 ·rename_i ty d wO vK;split at hl
  ·exact hl.elim
  ·split at hl
   ·rename_i t e vx;have hl:_=ws:=hl;obtain⟨W',vf,uP⟩:=h.Cd hv [] (hd d vK) (t0:=t) (e:=e) (xs:=[]) (dd:=2) (u:=.slice none 0 0) (w':=W.w) (o:=[]) (λb hb=>rfl) (λb _ _=>rfl) (AAb _) ⟨rfl,rfl,rfl⟩ Bl AAS (λb hb=>by cases hb);rw[<-hl];exact Bf h vK (by simp[execOp,ho,wW]) vf uP
   ·exact hl.elim
 ·exact hl.elim
theorem Bj(w:World)(x:Obj){b:Nat}(h:b<w.heap.size):(w.alloc x).heap[b]?=w.heap[b]?:=heap_alloc_old w x h
theorem BQ(w:World)(x:Obj):(w.alloc x).heap.size=w.heap.size+1:=by show(w.heap.push x).size=_;simp
theorem EM(h:AW E s tm W)(x:Obj){us:List (Nat×Nat)}{d:Nat}:∀b,(W.fz b\/∃k,Kept us d k/\b∈W.om k)->(W.w.alloc x).heap[b]?=W.w.heap[b]?:=by
 intro b hb;refine Bj _ _ ?_;rcases hb with hb|⟨k,_,hb⟩
 ·exact(h.sep.fz b hb).1
 ·exact(h.sep.own k b hb).2.1
theorem AW.Hq(h:AW E s tm W)(hv:Aj s v){us:List (Nat×Nat)}{d:Nat}(hd:d<tm.size){bs:List LA}{cs:Array Value}{T:TypeId}{os:Nat->Is}
  (hlen:cs.size=bs.length) (wT:∀(j:Nat)(b:LA),bs[j]?=some b->∃u,cs[j]?=some u/\Ip s W v b u (os j) us) (vU:∀i j,i≠j->∀b∈os i,b∉os j) (wi:∀j,bs.length<=j->os j=[]):
  ∃W',W'.w=W.w.alloc (.cells cs T)/\AW E (s.app (gone us++F7 d v bs)) (tm.setIfInBounds d (.pointer (some ⟨W.w.heap.size,0,none⟩))) W':=by
 refine⟨AL W (W.w.alloc (.cells cs T)) us d (λj=>cs[j]?) W.w.heap.size [W.w.heap.size] os,rfl,?_⟩
 have xf:∀j,j<bs.length->∃u,cs[j]?=some u/\Ip s W v (nth .bad bs j) u (os j) us:=by intro j hj;have:=wT j bs[j] (AAI hj);rw[Ad,AAI hj];exact this
 have vb:∀j,∀b∈os j,∃r k,(r,k)∈us/\b∈W.om (.lf r k):=by
  intro j b hb;by_cases hj:j<bs.length
  ·obtain⟨u,_,ht⟩:=xf j hj;exact ht.2.2.1 b hb
  ·grind
 have hold:∀j,∀b∈os j,b<W.w.heap.size:=by intro j b hb;obtain⟨r,k,_,h1⟩:=vb j b hb;exact(h.sep.own _ b h1).2.1
 refine h.place hv hd rfl ?_ (EM h _) (λb hb _=>Bj _ _ ADe) (by rw[BQ];omega) ⟨rfl,rfl,rfl⟩ (AAc.2 ⟨OF,AAS⟩) ?_ ?_ vU ?_ ?_ ?_
 ·intro j AB gen t e xs dd hl;by_cases hj:j<bs.length
  ·obtain⟨u,_,ht⟩:=xf j hj;dsimp only at hl;rw[hl]at ht;exact ht.2.2.2.1
  ·dsimp only at hl;rw[Au LA.bad (AAy hj)]at hl;cases hl
 ·intro j;by_cases hj:j<bs.length
  ·obtain⟨u,_,ht⟩:=xf j hj;exact ht.2.1
  grind
 ·grind
 ·intro b hb;rcases hb with hb|⟨j,hb⟩
  ·simp at hb;subst hb;exact .inr ⟨AAb _,by rw[BQ];omega⟩
  grind
 ·intro um vA;refine⟨λj=>?_,?_⟩
  ·have e1:(AL W (W.w.alloc (.cells cs T)) us d (λj=>cs[j]?) W.w.heap.size [W.w.heap.size] os).cv d j=cs[j]?:=by simp[AL]
   have e2:(AL W (W.w.alloc (.cells cs T)) us d (λj=>cs[j]?) W.w.heap.size [W.w.heap.size] os).om (.lf d j)=os j:=by simp[AL]
   rw[e1,e2];show Aa _ _ (nth LA.bad bs j) _ _;by_cases hj:j<bs.length
   ·obtain⟨u,hu,ht⟩:=xf j hj;obtain⟨_,_,_,ht⟩:=ht;generalize nth LA.bad bs j=b at ht;unfold Aa;cases b with
    |arr AB gen t e xs dd=>
     obtain⟨_,_,hr⟩:=ht;exact⟨u,hu,hr.frame (λb hb=>Bj _ _ (hb.elim (hold j b) λhb=>(h.sep.fz b hb).1)) λb hb=>hb⟩
    |_=>exact⟨ht.1,λu' uY=>by rw[hu]at uY;injection uY with uY;subst uY;exact AR.Dh um ht.2.2 ht.2.1⟩
   ·rw[Au LA.bad (AAy hj),wi j J];exact⟨rfl,λ_ _=>trivial⟩
  ·show(if true=true then _ else _);rw[AAP rfl];refine⟨by simp[AL],cs,T,(0,0),?_,J,hlen,λj=>by simp[AL]⟩;have:(AL W (W.w.alloc (.cells cs T)) us d (λj=>cs[j]?) W.w.heap.size [W.w.heap.size] os).bk d=W.w.heap.size:=by simp[AL]
   rw[this];exact heap_alloc_new _ _
 ·intro um vA;intro hb uT;have:(AL W (W.w.alloc (.cells cs T)) us d (λj=>cs[j]?) W.w.heap.size [W.w.heap.size] os).bk d=W.w.heap.size:=by simp[AL]
  rw[this]
theorem BT:∀ls:Ls,ls.kinds.length=ls.n
 | .nil=>rfl
 | .one _=>rfl
 | .cons _ ls=>by simp[Ls.kinds,Ls.n,BT ls]
theorem Ef(l:L):Ip s W v (KB v l) (Bu l) [] []:=by
 cases l with
 |int k=>exact⟨rfl,AAS,(λb hb=>by cases hb),rfl,⟨rfl,rfl⟩,by simp[KB,LA.AF]⟩
 |bool=>exact⟨rfl,AAS,(λb hb=>by cases hb),rfl,⟨rfl,rfl⟩,by simp[KB,LA.AF]⟩
 |str=>exact⟨rfl,AAS,(λb hb=>by cases hb),rfl,⟨rfl,rfl⟩,by simp[KB,LA.AF]⟩
 |sl t e=>exact⟨rfl,AAS,(λb hb=>by cases hb),rfl,rfl,Bl⟩
theorem Ke(p:Bool)(l:L):Ip s W v (K0 p v l) (Bu l) [] []:=by
 cases p with
 |false=>exact Ef l
 |true=>
  cases l with
  |sl t e=>exact⟨rfl,AAS,(λb hb=>by cases hb),rfl,rfl,by simp[K0,zeroOf,LA.AF]⟩
  |int k=>exact Ef (.int k)
  |bool=>exact Ef .bool
  |str=>exact Ef .str
theorem MN(hc:Db P cx)(hft:Lk P cx.env)(h:AW E s a.tmps W)(hv:Aj s v){t:TypeId}(ho:o.op=.alloc t)(hd:∀d,o.dst=some d->d<a.tmps.size)(hl:(AA cx v o s).leads ws):BS P E o a W.w (s.app ws):=by
 simp only[AA,ho]at hl;split at hl
 ·rename_i ty d ht vK;have hl:_=ws:=hl;obtain⟨i,hi,uh,z,hz,yG,_⟩:=(hc t ty ht).info
  obtain⟨W',vf,uP⟩:=h.Hq hv (us:=[]) (hd d vK) (bs:=ty.ls.kinds.map (K0 (cx.KU d) v)) (cs:=(ty.ls.kinds.map Bu).toArray) (T:=t) (os:=λ_=>[]) OF
   (λj b hb=>by
    simp only[AAZ]at hb;cases hq:ty.ls.kinds[j]? with
    |none=>grind
    |some l=>
     rw[hq]at hb;injection hb with hb;subst hb
     exact⟨Bu l,by simp[hq],Ke _ l⟩) (λi j _ b hb=>by cases hb) (λ_ _=>rfl)
  rw[<-hl];refine Bf h vK ?_ vf uP;simp[execOp,ho,Instr.alloc,zeroValue,typeInfo,hi,hz,newVar,newRow,yG]
 ·rename_i d ht vK;split at hl
  ·rename_i hf;have hl:_=ws:=hl;obtain⟨i,z,c,hi,uh,hz,yG,vQ⟩:=hft t hf
   obtain⟨W',vf,uP⟩:=h.Hq hv (us:=[]) (hd d vK) (bs:=[.bad]) (cs := #[c]) (T:=t) (os:=λ_=>[]) rfl
    (λj b hb=>by
     cases j with
     |zero=>simp at hb;subst hb;exact⟨c,rfl,vQ,AAS,(λb hb=>by cases hb),rfl,trivial,by simp[LA.AF]⟩
     |succ j=>simp at hb) (λi j _ b hb=>by cases hb) (λ_ _=>rfl)
   rw[<-hl];refine Bf h vK ?_ vf uP;simp[execOp,ho,Instr.alloc,zeroValue,typeInfo,hi,hz,newVar,newRow,yG]
  ·exact hl.elim
 ·exact hl.elim
theorem Il{g:Bool}{as:List LA}{u:Value}(hu:Ey s W g as u)(vQ:g=false->u.cells = #[u]):u.cells.size=as.length/\∀(j:Nat)(b:LA),as[j]?=some b->∃y,u.cells[j]?=some y/\AR s W b y:=by
 cases g with
 |true=>
  obtain⟨cs,rfl,uh,ud⟩:=hu;exact⟨uh,ud⟩
 |false=>
  have:=vQ rfl;rw[this];cases as with
  |nil=>exact hu.elim
  |cons b bs=>cases bs with
   |cons=>exact hu.elim
   |nil=>
    refine⟨rfl,λj y hy=>?_⟩;cases j with
    |zero=>simp at hy;subst hy;exact⟨u,rfl,hu⟩
    |succ j=>simp at hy
theorem AW.LR(h:AW E s tm W)(hv:Aj s v){d:Nat}{as:List LA}{cs:Array Value}{T:TypeId}(wQ:v∉as.flatMap LA.AF)
  (has:∀(j:Nat)(b:LA),as[j]?=some b->∃u,cs[j]?=some u/\AR s W b u):
  ∃W',W'.w=W.w.alloc (.cells cs T)/\AW E (s.app [.slot d (.bx as)]) (tm.setIfInBounds d (.pointer (some ⟨W.w.heap.size,0,none⟩))) W':=by
 have hold:∀b,b<W.w.heap.size->(W.w.alloc (.cells cs T)).heap[b]?=W.w.heap[b]?:=λb hb=>Bj _ _ hb
 have uP:AW E s tm { W with w:=W.w.alloc (.cells cs T),fz:=λb=>W.fz b\/b=W.w.heap.size }:=by
  have um:Eg v s s W { W with w:=W.w.alloc (.cells cs T),fz:=λb=>W.fz b\/b=W.w.heap.size }:={
   fz:=λb hb=>.inl hb
   Lj:=λb hb=>hold b (h.sep.fz b hb).1
   leaf:=λr j AB gen t e xs dd hl uV=>⟨rfl,gen,t,xs,dd,hl,λ_=>⟨rfl,λp h' e' u vL hn=>by
    obtain⟨u0,vm,uW⟩:=(h.roots r).row hl;rw[vL]at vm;injection vm with vm;subst vm
    exact BN p uW hn λb hb=>hold b (hb.elim (λhb=>(h.sep.own _ b hb).2.1) λhb=>(h.sep.fz b hb).1)⟩⟩
   box:=λr hb uV=>⟨hb,rfl,rfl⟩ }
  refine h.IH hv um ?_ h.DS h.Bb (λt=>.inl ⟨rfl,rfl⟩) λr=>?_
  ·have hs:=h.sep
   exact {
    nodup:=hs.nodup
    A7:=hs.A7
    own:=λk b hb=>by obtain⟨a1,a2,a3⟩:=hs.own k b hb;grind
    fz:=λb hb=>by
     rcases hb with hb|rfl
     ·obtain⟨a1,a2⟩:=hs.fz b hb;grind
     ·exact⟨by rw[BQ];omega,.inr (.inl hs.size)⟩
    frame:=λb h1 h2=>(hold b (by have:=hs.size;omega)).trans (hs.frame b h1 h2)
    size:=by rw[BQ];exact Nat.le_succ_of_le hs.size
    rest:=hs.rest }
  ·obtain⟨h1,h2⟩:=h.roots r;refine⟨λj=>?_,?_⟩
   ·exact Aa.Dh um (by have:=hv.2.1 r j;exact this) (λb hb=>hold b (h.sep.own _ b hb).2.1) (h1 j)
   grind
 refine⟨_,rfl,uP.slot d ?_⟩;refine⟨W.w.heap.size,0,cs,T,(0,0),rfl,.inr rfl,heap_alloc_new _ _,J,λj b hb=>?_⟩;obtain⟨u,hu,vH⟩:=has j b hb;refine⟨u,No,?_⟩;refine AR.Dh (v:=v) (s:=s) (W:=W) ?_ (λuO=>wQ (AAL.2 ⟨b,AAN hb,uO⟩)) vH
 exact {
   fz:=λb hb=>.inl hb
   Lj:=λb hb=>hold b (h.sep.fz b hb).1
   leaf:=λr j AB gen t e xs dd hl uV=>⟨rfl,gen,t,xs,dd,hl,λ_=>⟨rfl,λp h' e' u vL hn=>by
    obtain⟨u0,vm,uW⟩:=(h.roots r).row hl;rw[vL]at vm;injection vm with vm;subst vm
    exact BN p uW hn λb hb=>hold b (hb.elim (λhb=>(h.sep.own _ b hb).2.1) λhb=>(h.sep.fz b hb).1)⟩⟩
   box:=λr hb uV=>⟨hb,rfl,rfl⟩ }
theorem Nx(hc:Db P cx)(h:AW E s a.tmps W)(hv:Aj s v){t:TypeId}{x:Operand}(ho:o.op=.box t x)(hd:∀d,o.dst=some d->d<a.tmps.size)(hl:(AA cx v o s).leads ws):BS P E o a W.w (s.app ws):=by
 simp only[AA,ho]at hl;have h1:=A6 h x;have wQ:=Fj hv x;generalize s.Ar x=p at hl h1 wQ;split at hl
 ·rename_i ty d g as ht vK;split at hl
  ·rename_i AAC;simp only[AAJ]at AAC;obtain⟨hg,_⟩:=AAC;subst hg;have hl:_=ws:=hl;obtain⟨cs,w7,uh,ud⟩:=h1;obtain⟨W',vf,uP⟩:=h.LR hv (d:=d) (as:=as) (cs:=cs) (T:=t) wQ ud;rw[<-hl];refine Bf h vK ?_ vf uP;simp[execOp,ho,Instr.box,newVar,newRow,w7,Value.cells]
  let gg:Nat->Option Value:=λj=>match g with|true=>(a.eval x).cells[j]?|false=>if j=0 then some (a.eval x)else none
  have yg:∀(j:Nat)(b:LA),as[j]?=some b->v∉b.AF/\∃u,gg j=some u/\AR s W b u:=by
   intro j b hb;refine⟨λuO=>wQ (AAL.2 ⟨b,AAN hb,uO⟩),?_⟩;cases g with
   |true=>obtain⟨cs,w7,_,ud⟩:=h1;obtain⟨u,hu,vH⟩:=ud j b hb;exact⟨u,by simp only[gg,w7];exact hu,vH⟩
   |false=>
    cases as with
    |nil=>exact h1.elim
    |cons b' bs=>cases bs with
     |cons=>exact h1.elim
     |nil=>cases j with
      |zero=>simp at hb;subst hb;exact⟨a.eval x,by simp[gg],h1⟩
      |succ j=>simp at hb
  obtain⟨bs,us,os,hl,hlen,xG,vd,xD,vU,wi,wT⟩:=EO (v:=v) h yg hl;split at hl
  ·have hl:_=ws:=hl
   have vQ:g=false->(a.eval x).cells = #[a.eval x]:=by
    intro hg;subst hg;cases as with
    |nil=>exact h1.elim
    |cons b' bs'=>cases bs' with
     |cons=>exact h1.elim
     |nil=>
      match bs,hlen,wT with
      | [b],_,wT=>obtain⟨u,hu,ht⟩:=wT 0 b rfl;simp[gg]at hu;subst hu;exact cells_one ht.1
   have w7:=Il h1 vQ
   have hgc:∀j u,gg j=some u->(a.eval x).cells[j]?=some u:=by
    intro j u hj;cases g with
    |true=>exact hj
    |false=>
     grind
   obtain⟨W',vf,uP⟩:=h.Hq hv (us:=us) (hd d vK) (bs:=bs) (cs:=(a.eval x).cells) (T:=t) (os:=os) J
    (λj b hb=>by grind) vU (λj hj=>wi j J)
   rw[<-hl];refine Bf h vK ?_ vf uP;simp[execOp,ho,Instr.box,newVar,newRow]
  ·exact hl.elim
 ·exact hl.elim
end
end Go.Ev
namespace Go.Ev
def B7:ADM->Nat->Array Value->Array Value
 | [],_,arr=>arr
 |v::r,o,arr=>B7 r (o+1) (arr.setIfInBounds o v)
theorem Aq:∀(vs:ADM)(o:Nat)(arr:Array Value),(B7 vs o arr).size=arr.size
 | [],_,_=>rfl
 |v::r,o,arr=>by rw[B7,Aq r];simp
theorem Ce:∀(vs:ADM)(o:Nat)(arr:Array Value),o+vs.length<=arr.size->∀k,(B7 vs o arr)[k]?=if o<=k/\k<o+vs.length then vs[k-o]? else arr[k]?
 | [],o,arr,h,k=>by rw[B7,AAQ OF]
 |v::r,o,arr,h,k=>by simp only[ABD]at h;rw[B7,Ce r (o+1) _ ADJ k,AAw];grind
structure NR(w w':World)(b:Nat)(vn:Array Value)(T:TypeId)(fr:Nat×Nat):Prop where
 here:w'.heap[b]?=some (.cells vn T fr)
 CY:∀c,c≠b->w'.heap[c]?=w.heap[c]?
 size:w'.heap.size=w.heap.size
 rest:w'.os=w.os/\w'.tape=w.tape/\w'.output=w.output
theorem Fm(b:Nat){T:TypeId}{fr:Nat×Nat}:∀(vs:ADM)(o:Nat)(w:World)(arr:Array Value),w.heap[b]?=some (.cells arr T fr)->NR w (w.setCells b o vs) b (B7 vs o arr) T fr
 | [],o,w,arr,h=>⟨h,λ_ _=>rfl,rfl,rfl,rfl,rfl⟩
 |v::r,o,w,arr,h=>by
  have h1:(w.setCell ⟨b,o,none⟩ v).heap[b]?=some (.cells (arr.setIfInBounds o v) T fr):=by rw[setCell_eq_setRow w b o arr T fr v h];exact setRow_heap w b arr _ T fr h
  have ih:=Fm b r (o+1) _ _ h1;refine⟨ih.here,λc hc=>(ih.CY c hc).trans ?_,ih.size.trans ?_,ih.rest⟩
  ·rw[setCell_eq_setRow w b o arr T fr v h];exact setRow_other w b c _ hc
  ·rw[setCell_eq_setRow w b o arr T fr v h];exact setRow_size w b _
theorem Ec{P:Program}{w:World}{b o:Nat}{arr:Array Value}{T:TypeId}{fr:Nat×Nat}(vs:ADM)(h:w.heap[b]?=some (.cells arr T fr))(hb:∀j,j<arr.size->¬(fr.1<=j/\j<fr.2))(hl:o+vs.length<=arr.size)(h1:∀v∈vs,v.oneCell'=true):
  ∃w',(storeCells ⟨b,o,none⟩ vs).run P w=.ok () w'/\NR w w' b (B7 vs o arr) T fr:=by
 refine⟨_,run_storeCells_cells b o vs 0 w ?_ ?_ h1,?_⟩
 ·intro j hj;simp only[World.cell?,h];simp;omega
 ·intro j hj;have:=hb (o+0+j) J;obtain⟨lo,hi⟩:=fr;simp only[World.frozen?,h];grind
 ·exact Fm b vs o w arr h
theorem L.FC:∀(l:L) {d:Nat} {w:World} {fz:Nat->Prop} {v:Value} {x:l.D} {o:Is},l.rd d w fz v x o->v.oneCell'=true
 | .int _,_,_,_,_,_,_,h=>by rw[h.1];rfl
 | .bool,_,_,_,_,_,_,h=>by rw[h.1];rfl
 | .str,_,_,_,_,_,_,h=>by rw[h.1];rfl
 | .sl _ e,_,_,_,_,_,_,h=>by obtain⟨A,c,hv,_⟩:=h;rw[hv];rfl
theorem Ls.Ko:∀(e:Ls) {d:Nat} {w:World} {fz:Nat->Prop} {g:Nat->Option Value} {x:e.D} {o:Is},e.rd d w fz g x o->∀j,j<e.n->∃v,g j=some v/\v.oneCell'=true
 | .nil,_,_,_,_,_,_,h,j,hj=>by simp[Ls.n]at hj
 | .one l,_,_,_,_,_,_,h,j,hj=>by simp only[Ls.rd]at h;obtain⟨v,hg,h⟩:=h;simp[Ls.n]at hj;subst hj;exact⟨v,hg,L.FC l h⟩
 | .cons l ls,_,_,_,_,_,_,h,j,hj=>by
  simp only[Ls.rd]at h;obtain⟨v,o1,o2,hg,h1,h2,_⟩:=h;cases j with
  |zero=>exact⟨v,hg,L.FC l h1⟩
  |succ j=>exact Ls.Ko ls h2 j (by simp[Ls.n]at hj;omega)
theorem Ls.BP:∀(e:Ls) {d:Nat} {w:World} {fz:Nat->Prop} {g g':Nat->Option Value} {x:e.D} {o:Is},e.rd d w fz g x o->(∀j,j<e.n->g' j=g j)->e.rd d w fz g' x o
 | .nil,_,_,_,_,_,_,_,h,_=>h
 | .one l,_,_,_,_,_,_,_,h,hg=>by simp only[Ls.rd]at h ⊢;obtain⟨v,h0,h⟩:=h;exact⟨v,(hg 0 (by simp[Ls.n])).trans h0,h⟩
 | .cons l ls,_,_,_,_,_,_,_,h,hg=>by
  simp only[Ls.rd]at h ⊢;obtain⟨v,o1,o2,h0,h1,h2,ho⟩:=h;exact⟨v,o1,o2,(hg 0 (by simp[Ls.n])).trans h0,h1,Ls.BP ls h2 λj hj=>hg (j+1) (by simp[Ls.n];omega),ho⟩
theorem L.AY:∀(l:L) {d d':Nat} {w w':World} {fz uQ:Nat->Prop} {v:Value} {x:l.D} {o:Is},Bg l=false->l.rd d w fz v x o->l.rd d' w' uQ v x o/\o=[]
 | .int _,_,_,_,_,_,_,_,_,_,_,h=>⟨h,h.2⟩
 | .bool,_,_,_,_,_,_,_,_,_,_,h=>⟨h,h.2⟩
 | .str,_,_,_,_,_,_,_,_,_,_,h=>⟨h,h.2⟩
 | .sl _ e,_,_,_,_,_,_,_,_,_,hs,h=>by simp[Bg]at hs
theorem Ls.AY:∀(e:Ls) {d d':Nat} {w w':World} {fz uQ:Nat->Prop} {g:Nat->Option Value} {x:e.D} {o:Is},B1 e=true->e.rd d w fz g x o->e.rd d' w' uQ g x o/\o=[]
 | .nil,_,_,_,_,_,_,_,_,_,_,h=>⟨h,h⟩
 | .one l,_,_,_,_,_,_,_,_,_,hs,h=>by simp only[Ls.rd]at h ⊢;obtain⟨v,h0,h⟩:=h;simp[B1]at hs;obtain⟨a,b⟩:=L.AY l hs h;exact⟨⟨v,h0,a⟩,b⟩
 | .cons l ls,_,_,_,_,_,_,_,_,_,hs,h=>by simp only[Ls.rd]at h ⊢;obtain⟨v,o1,o2,h0,h1,h2,ho⟩:=h;simp[B1]at hs;obtain⟨a,b⟩:=L.AY l hs.1 h1;obtain⟨a',b'⟩:=Ls.AY ls hs.2 h2;exact⟨⟨v,o1,o2,h0,a,a',ho⟩,No⟩
def C7(e:Ls)(d:Nat)(w:World)(fz:Nat->Prop)(g:Nat->Option Value)(xs:List e.D)(os:Nat->Is):Prop:=
 ∀i (h:i<xs.length),e.rd d w fz (λj=>g (i*e.n+j)) xs[i] (os i)
section
variable {e:Ls}{d:Nat}{w w':World}{fz uQ:Nat->Prop}{g g':Nat->Option Value}{xs ys:List e.D}{os vP:Nat->Is}
theorem KP{i n j m:Nat}(hi:i<m)(hj:j<n):i*n+j<m*n:=by have:(i+1)*n<=m*n:=AAo n hi;grind
theorem C7.cell(h:C7 e d w fz g xs os)(k:Nat)(hk:k<xs.length*e.n):∃v,g k=some v/\v.oneCell'=true:=by
 have hn:0<e.n:=by
             rcases Nat.eq_zero_or_pos e.n with h0|h0;· rw[h0]at hk;simp at hk
             ·exact h0
 have hi:k / e.n<xs.length:=Nat.div_lt_of_lt_mul (by rwa[Nat.mul_comm]at hk);obtain⟨v,hv,h1⟩:=Ls.Ko e (h _ hi) (k%e.n) (Nat.mod_lt _ hn);have:k / e.n*e.n+k%e.n=k:=Nat.div_add_mod' _ _;grind
theorem C7.congr(h:C7 e d w fz g xs os)(hg:∀k,k<xs.length*e.n->g' k=g k):C7 e d w fz g' xs os:=
 λi hi=>Ls.BP e (h i hi) λj hj=>hg _ (KP hi hj)
theorem C7.frame(h:C7 e d w fz g xs os)(hf:∀b,(∃i,i<xs.length/\b∈os i)\/fz b->w'.heap[b]?=w.heap[b]?)(hz:∀b,fz b->uQ b):C7 e d w' uQ g xs os:=
 λi hi=>Ls.AN e (h i hi) (λb hb=>hf b (hb.imp (λhb=>⟨i,hi,hb⟩) id)) hz
theorem C7.flat(hf:B1 e=true)(h:C7 e d w fz g xs os)(d':Nat)(w':World)(uQ:Nat->Prop):C7 e d' w' uQ g xs λ_=>[]:=λi hi=>by obtain⟨a,b⟩:=Ls.AY e hf (h i hi) (d':=d') (w':=w') (uQ:=uQ);grind
theorem C7.append(h1:C7 e d w fz g xs os)(h2:C7 e d w fz (λk=>g (xs.length*e.n+k)) ys vP):C7 e d w fz g (xs++ys) λi=>if i<xs.length then os i else vP (i-xs.length):=by
 intro i hi;by_cases h:i<xs.length
 ·simp only[AAP h];rw[List.getElem_append_left h];exact h1 i h
 ·simp only[AAQ h];rw[List.getElem_append_right (AAy h)];have:=h2 (i-xs.length) No;refine Ls.BP e this λj hj=>?_;show g (i*e.n+j)=g (xs.length*e.n+((i-xs.length)*e.n+j));congr 1;have:i*e.n=xs.length*e.n+(i-xs.length)*e.n:=by rw[<-AAp];congr 1;omega
  omega
theorem Fh{ad:Addr}{arr:Array Value}{T:TypeId}{fr:Nat×Nat}{c:Nat}(hh:w.heap[ad.block]?=some (.cells arr T fr))(hs:ad.spot=none)(hb:∀j,j<arr.size->¬(fr.1<=j/\j<fr.2))
  (hc:ad.off+c*e.n<=arr.size) (hl:xs.length<=c) (uk:C7 e 2 w fz (λk=>arr[ad.off+k]?) xs os):
  AE e 2 w fz (.slice (some ad) xs.length c) xs (ad.block::(List.range xs.length).flatMap os):=
 ⟨some ad,c,rfl,hl,.inr ⟨λk=>arr[ad.off+k]?,os,⟨hs,arr,T,fr,hh,hc,λ_=>hb,λj=>rfl⟩,uk,rfl⟩⟩
theorem AE.LG{v:Value}{o:Is}(h:AE e d w fz v xs o):∃A c,v=.slice A xs.length c/\xs.length<=c/\(A=none->c=0/\o=[])/\
  ∀ad,A=some ad->(0<c\/0<d)->∃arr T fr os,ad.spot=none/\w.heap[ad.block]?=some (.cells arr T fr)/\ad.off+c*e.n<=arr.size/\(0<d->∀j,j<arr.size->¬(fr.1<=j/\j<fr.2))/\
   C7 e (dec d) w fz (λk=>arr[ad.off+k]?) xs os/\(0<d->o=ad.block::(List.range xs.length).flatMap os)/\(d=0->fz ad.block/\∀i,i<xs.length->os i=[]):=by
 obtain⟨A,c,hv,hc,h⟩:=h;refine⟨A,c,hv,hc,?_,?_⟩
 ·grind
 ·intro ad hA xg;subst hA;rcases h with h|⟨g,os,⟨hs,arr,T,fr,hh,hn,hb,hg⟩,uk,ho⟩
  ·obtain⟨h1,h2,_⟩:=h;have h1:¬0<d:=ADh
   omega
  refine⟨arr,T,fr,os,hs,hh,hn,λhd=>hb (by simpa using hd),?_,?_,?_⟩
  ·intro i hi;refine Ls.BP e (uk i hi) λj _=>(hg _).symm
  all_goals grind
def Bo(g:Nat->Option Value)(m:Nat):ADM:=(List.range m).map λj=>(g j).getD Go.undef
theorem Ab(g:Nat->Option Value)(m:Nat):(Bo g m).length=m:=by simp[Bo]
theorem CL{m:Nat}(h:∀k,k<m->∃v,g k=some v/\v.oneCell'=true)(k:Nat)(hk:k<m):(Bo g m)[k]?=g k:=by obtain⟨v,hv,_⟩:=h k hk;simp[Bo,hk,hv]
theorem HX{m:Nat}(h:∀k,k<m->∃v,g k=some v/\v.oneCell'=true):∀v∈Bo g m,v.oneCell'=true:=by intro v hv;obtain⟨k,hk,rfl⟩:=AAs.1 hv;grind
end
theorem L.Fu:∀(l:L) {d:Nat} {w:World} {fz:Nat->Prop},l.rd d w fz (Bu l) (K1 l) []
 | .int _,_,_,_=>⟨rfl,rfl⟩
 | .bool,_,_,_=>⟨rfl,rfl⟩
 | .str,_,_,_=>⟨rfl,rfl⟩
 | .sl _ e,_,_,_=>Bl
theorem Ls.Fu:∀(e:Ls) {d:Nat} {w:World} {fz:Nat->Prop} {g:Nat->Option Value},(∀j,j<e.n->g j=(e.kinds.map Bu)[j]?)->e.rd d w fz g (FG e) []
 | .nil,_,_,_,_,_=>rfl
 | .one l,_,_,_,_,hg=>by simp only[Ls.rd];exact⟨Bu l,(hg 0 (by simp[Ls.n])).trans rfl,L.Fu l⟩
 | .cons l ls,_,_,_,_,hg=>by
  simp only[Ls.rd];exact⟨Bu l,[],[],(hg 0 (by simp[Ls.n])).trans rfl,L.Fu l,Ls.Fu ls λj hj=>(hg (j+1) (by simp[Ls.n];omega)).trans (by simp[Ls.kinds]),rfl⟩
end Go.Ev
