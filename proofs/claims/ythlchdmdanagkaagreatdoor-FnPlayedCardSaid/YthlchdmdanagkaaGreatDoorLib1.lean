/- Evaluator. Conditions: none. -/
import Derived.Calls
import Derived.Orders
import Derived.Below
import Derived.Sort.Defs
import Derived.Laws.Rows
import Derived.Laws.Small
import Derived.Laws.StructEq
import Derived.Laws.Concat
import Derived.Laws.IdiomCopy
import Derived.Deep.MidRow
import Derived.Tactics
import Derived.WalkKit
import Derived.Laws.MakeOwn
import Derived.Laws.Append
import Derived.Laws.BytesArg
set_option linter.all false
namespace Go.Ev
theorem AD4{p:Prop}(h:p:=by have:=z.o1;omega):p:=h
theorem AD3{p:Prop}(h:p:=by have:=z.r1;omega):p:=h
theorem AD2{p:Prop}(h:p:=by have:=z.s1;omega):p:=h
theorem AD1{p:Prop}(h:p:=by have:=z.t1;omega):p:=h
theorem AD0{p:Prop}(h:p:=by simpa using h2):p:=h
theorem ADz{p:Prop}(h:p:=by simpa using hb):p:=h
theorem ADy{p:Prop}(h:p:=by simpa using hl):p:=h
theorem ADx{p:Prop}(h:p:=by have:=h.sep.size;omega):p:=h
theorem ADw{p:Prop}(h:p:=by simpa using h1):p:=h
theorem ADv{p:Prop}(h:p:=by simpa using he):p:=h
theorem ADu{p:Prop}(h:p:=by simpa using hy):p:=h
theorem ADt{p:Prop}(h:p:=by simpa using hc):p:=h
theorem ADs{p:Prop}(h:p:=by simpa using hj):p:=h
theorem ADr{p:Prop}(h:p:=by simp at hj):p:=h
theorem ADq{p:Prop}(h:p:=by simp at hl):p:=h
theorem ADp{p:Prop}(h:p:=by simp at hp):p:=h
theorem ADo{p:Prop}(h:p:=by simpa using hlen):p:=h
theorem ADn{p:Prop}(h:p:=by simp at hlen):p:=h
theorem ADm{p:Prop}(h:p:=by assumption):p:=h
theorem ADl{p:Prop}(h:p:=by simpa using hm):p:=h
theorem ADi{p:Prop}(h:p:=by simpa using hi):p:=h
theorem ADh{p:Prop}(h:p:=by simpa using h):p:=h
theorem ADg{p:Prop}(h:p:=by clear hn hB;omega):p:=h
theorem ADf{p:Prop}(h:p:=by simp at h):p:=h
theorem ADd{p:Prop}(h:p:=by decide):p:=h
theorem ADb{p:Prop}(h:p:=by simp;omega):p:=h
theorem ADV{p:Prop}(h:p:=by clear hn;omega):p:=h
theorem so{p:Prop}(h:p:=by simp):p:=h
theorem No{p:Prop}(h:p:=by grind):p:=h
theorem J{p:Prop}(h:p:=by omega):p:=h
abbrev By:=List Int
abbrev It:=List Nat
abbrev ADZ:=List UInt8
abbrev ADc:=List Value
abbrev ADj:=List Bool
theorem AAM:type_of% @List.getElem?_eq_getElem:=@List.getElem?_eq_getElem
theorem AAN:type_of% @Bool.and_eq_true:=@Bool.and_eq_true
theorem AAO:type_of% @List.getElem?_eq_some_iff:=@List.getElem?_eq_some_iff
theorem AAP:type_of% @List.mem_flatMap:=@List.mem_flatMap
theorem AAQ:type_of% @List.mem_cons_of_mem:=@List.mem_cons_of_mem
theorem AAR:type_of% @List.mem_of_getElem?:=@List.mem_of_getElem?
theorem AAS:type_of% @if_pos:=@if_pos
theorem AAT:type_of% @if_neg:=@if_neg
theorem AAU:type_of% @List.eq_nil_of_length_eq_zero:=@List.eq_nil_of_length_eq_zero
theorem AAV:type_of% @List.mem_append_right:=@List.mem_append_right
theorem AAW:type_of% @List.nodup_nil:=@List.nodup_nil
theorem AAX:type_of% @beq_iff_eq:=@beq_iff_eq
theorem AAY:type_of% @List.mem_append_left:=@List.mem_append_left
theorem AAZ:type_of% @List.all_eq_true:=@List.all_eq_true
theorem AAa:type_of% @Bool.not_eq_true':=@Bool.not_eq_true'
theorem AAb:type_of% @List.mem_range:=@List.mem_range
theorem AAc:type_of% @List.nodup_append:=@List.nodup_append
theorem AAd:type_of% @Nat.zero_add:=@Nat.zero_add
theorem AAe:type_of% @List.getElem?_map:=@List.getElem?_map
theorem AAf:type_of% @List.nodup_cons:=@List.nodup_cons
theorem AAg:type_of% @Bool.or_eq_true:=@Bool.or_eq_true
theorem AAh:type_of% @decide_eq_true_eq:=@decide_eq_true_eq
theorem AAi:type_of% @Nat.le_refl:=@Nat.le_refl
theorem AAj:type_of% @List.mem_cons:=@List.mem_cons
theorem AAk:type_of% @Array.getElem?_eq_getElem:=@Array.getElem?_eq_getElem
theorem AAl:type_of% @List.flatten_cons:=@List.flatten_cons
theorem AAm:type_of% @Array.getD_eq_getD_getElem?:=@Array.getD_eq_getD_getElem?
theorem AAn:type_of% @Bool.or_eq_false_iff:=@Bool.or_eq_false_iff
theorem AAo:type_of% @List.mem_cons_self:=@List.mem_cons_self
theorem AAp:type_of% @Classical.byContradiction:=@Classical.byContradiction
theorem AAq:type_of% @List.flatMap_cons:=@List.flatMap_cons
theorem AAr:type_of% @decide_eq_false_iff_not:=@decide_eq_false_iff_not
theorem AAs:type_of% @Nat.mul_le_mul_right:=@Nat.mul_le_mul_right
theorem AAt:type_of% @Nat.add_mul:=@Nat.add_mul
theorem AAu:type_of% @Nat.lt_or_ge:=@Nat.lt_or_ge
theorem AAv:type_of% @List.getElem?_of_mem:=@List.getElem?_of_mem
theorem AAw:type_of% @List.mem_map:=@List.mem_map
theorem AAx:type_of% @of_decide_eq_true:=@of_decide_eq_true
theorem AAy:type_of% @List.nil_append:=@List.nil_append
theorem AAz:type_of% @Array.getElem?_setIfInBounds:=@Array.getElem?_setIfInBounds
theorem AA0:type_of% @Nat.add_zero:=@Nat.add_zero
theorem AA1:type_of% @Nat.le_of_not_lt:=@Nat.le_of_not_lt
theorem AA2:type_of% @Array.getElem?_eq_some_iff:=@Array.getElem?_eq_some_iff
theorem AA3:type_of% @Array.getElem?_append_left:=@Array.getElem?_append_left
theorem AA4:type_of% @List.append_nil:=@List.append_nil
theorem AA5:type_of% @Nat.le_trans:=@Nat.le_trans
theorem AA6:type_of% @List.getElem?_cons_succ:=@List.getElem?_cons_succ
theorem AA7:type_of% @List.drop_left:=@List.drop_left
theorem AA8:type_of% @List.any_eq_true:=@List.any_eq_true
theorem AA9:type_of% @Nat.lt_of_lt_of_le:=@Nat.lt_of_lt_of_le
theorem ABA:type_of% @Option.map_some:=@Option.map_some
theorem ABB:type_of% @Option.getD_some:=@Option.getD_some
theorem ABC:type_of% @List.cons_append:=@List.cons_append
theorem ABD:type_of% @List.getElem?_append_left:=@List.getElem?_append_left
theorem ABE:type_of% @List.length_append:=@List.length_append
theorem ABF:type_of% @Option.bind_eq_some_iff:=@Option.bind_eq_some_iff
theorem ABG:type_of% @Classical.not_not:=@Classical.not_not
theorem ABH:type_of% @List.length_cons:=@List.length_cons
theorem ABI:type_of% @List.map_cons:=@List.map_cons
theorem ABJ:type_of% @Array.toArray_toList:=@Array.toArray_toList
theorem ABK:type_of% @List.mem_append:=@List.mem_append
theorem ABL:type_of% @Nat.lt_or_gt_of_ne:=@Nat.lt_or_gt_of_ne
theorem ABM:type_of% @List.mem_singleton:=@List.mem_singleton
theorem ABN:type_of% @List.getElem?_append_right:=@List.getElem?_append_right
theorem ABO:type_of% @Bool.false_eq_true:=@Bool.false_eq_true
theorem ABP:type_of% @List.pairwise_iff_getElem:=@List.pairwise_iff_getElem
theorem ABQ:type_of% @Nat.one_mul:=@Nat.one_mul
theorem ABR:type_of% @Array.toList_map:=@Array.toList_map
mutual
inductive L where
 |int (k:IntKind)
 |bool
 |str
 |sl (t:TypeId) (e:Ls)
inductive Ls where
 |nil
 |one (l:L)
 |cons (l:L) (ls:Ls)
end
mutual
def L.D:L->Type
 | .int _=>Int
 | .bool=>Bool
 | .str=>ADZ
 | .sl _ e=>List e.D
def Ls.D:Ls->Type
 | .nil=>Unit
 | .one l=>l.D
 | .cons l ls=>l.D×ls.D
end
def Ls.n:Ls->Nat
 | .nil=>0
 | .one _=>1
 | .cons _ ls=>ls.n+1
def IntKind.code:IntKind->Nat
 | .i8=>0 | .i16=>1 | .i32=>2 | .i64=>3 | .u8=>4 | .u16=>5 | .u32=>6 | .u64=>7
theorem IntKind.EC{a b:IntKind}(h:IntKind.code a=IntKind.code b):a=b:=by cases a<;>cases b<;>first|rfl|cases h
mutual
def L.eq?:(a b:L)->Bool
 | .int j,.int k=>IntKind.code j==IntKind.code k
 | .bool,.bool=>true
 | .str,.str=>true
 | .sl t e,.sl u f=>t==u&&Ls.eq? e f
 |_,_=>false
def Ls.eq?:(a b:Ls)->Bool
 | .nil,.nil=>true
 | .one a,.one b=>L.eq? a b
 | .cons a as,.cons b bs=>L.eq? a b&&Ls.eq? as bs
 |_,_=>false
end
mutual
theorem L.Dd:∀ {a b:L},L.eq? a b=true->a=b
 | .int _,.int _,h=>by simp[L.eq?]at h;rw[IntKind.EC h]
 | .bool,.bool,_=>rfl
 | .str,.str,_=>rfl
 | .sl t e,.sl u f,h=>by simp[L.eq?]at h;rw[h.1,Ls.Dd h.2]
 | .int _,.bool,h | .int _,.str,h | .int _,.sl ..,h | .bool,.int _,h | .bool,.str,h | .bool,.sl ..,h | .str,.int _,h | .str,.bool,h | .str,.sl ..,h | .sl ..,.int _,h | .sl ..,.bool,h | .sl ..,.str,h=>by simp[L.eq?]at h
theorem Ls.Dd:∀ {a b:Ls},Ls.eq? a b=true->a=b
 | .nil,.nil,_=>rfl
 | .one _,.one _,h=>by simp[Ls.eq?]at h;rw[L.Dd h]
 | .cons _ _,.cons _ _,h=>by simp[Ls.eq?]at h;rw[L.Dd h.1,Ls.Dd h.2]
 | .nil,.one _,h | .nil,.cons ..,h | .one _,.nil,h | .one _,.cons ..,h | .cons ..,.nil,h | .cons ..,.one _,h=>by simp[Ls.eq?]at h
end
structure Lv where
 l:L
 x:l.D
def L.cast{a:L}(b:L)(x:a.D):Option b.D:=if h:L.eq? a b=true then some (L.Dd h▸x)else none
def Ls.cast{a:Ls}(b:Ls)(x:a.D):Option b.D:=if h:Ls.eq? a b=true then some (Ls.Dd h▸x)else none
theorem L.AH{a b:L}{x:a.D}{y:b.D}(h:L.cast b x=some y):∃e:a=b,e▸x=y:=by
 unfold L.cast at h;split at h
 ·rename_i e;exact⟨L.Dd e,by injection h⟩
 ·cases h
theorem Ls.AH{a b:Ls}{x:a.D}{y:b.D}(h:Ls.cast b x=some y):∃e:a=b,e▸x=y:=by
 unfold Ls.cast at h;split at h
 ·rename_i e;exact⟨Ls.Dd e,by injection h⟩
 ·cases h
def pack:(ls:Ls)->List Lv->Option ls.D
 | .nil=>λvs=>match vs with
  | []=>some ()
  |_::_=>none
 | .one l=>λvs=>match vs with
  | []=>none
  |v::vs=>match vs with
   | []=>L.cast l v.x
   |_::_=>none
 | .cons l ls=>λvs=>match vs with
  | []=>none
  |v::vs=>match L.cast l v.x with
   |none=>none
   |some x=>match pack ls vs with
    |none=>none
    |some xs=>some (x,xs)
def unpack:(ls:Ls)->ls.D->List Lv
 | .nil,_=>[]
 | .one l,x=>[⟨l,x⟩]
 | .cons l ls,x=>⟨l,x.1⟩::unpack ls x.2
def Ls.kinds:Ls->List L
 | .nil=>[]
 | .one l=>[l]
 | .cons l ls=>l::ls.kinds
theorem CS:∀(ls:Ls)(x:ls.D),(unpack ls x).length=ls.n
 | .nil,_=>rfl
 | .one _,_=>rfl
 | .cons _ ls,x=>by simp[unpack,Ls.n,CS ls x.2]
theorem Ay:∀(ls:Ls)(vs:List Lv)(x:ls.D),pack ls vs=some x->unpack ls x=vs
 | .nil,[],_,_=>rfl
 | .nil,_::_,_,h=>by simp[pack]at h
 | .one l,[],_,h=>by simp[pack]at h
 | .one l,[v],x,h=>by
  simp only[pack]at h;obtain⟨l',y⟩:=v;obtain⟨e,he⟩:=L.AH h
  try dsimp only at e he
  subst e;subst he;rfl
 | .one l,_::_::_,_,h=>by simp[pack]at h
 | .cons l ls,[],_,h=>by simp[pack]at h
 | .cons l ls,v::vs,x,h=>by
  obtain⟨l',y⟩:=v;simp only[pack]at h;split at h
  ·cases h
  ·rename_i a ha;split at h
   ·cases h
   ·rename_i b hb;obtain⟨e,he⟩:=L.AH ha
    try dsimp only at e he
    subst e;subst he;injection h with h;subst h
    simp[unpack,Ay ls vs _ hb]
def Row(w:World)(a:Addr)(n:Nat)(bare:Bool)(g:Nat->Option Value):Prop:=
 a.spot=none/\∃arr T fr,w.heap[a.block]?=some (.cells arr T fr)/\a.off+n<=arr.size/\(bare=true->∀j,j<arr.size->¬(fr.1<=j/\j<fr.2))/\∀j,g j=arr[a.off+j]?
def Bw{α:Type}(n:Nat)(R:(Nat->Option Value)->α->It->Prop)(own:Bool)(w:World)(fz:Nat->Prop)(v:Value)(xs:List α)(o:It):Prop:=
 ∃(A:Option Addr) (c:Nat),v=.slice A xs.length c/\xs.length<=c/\
  match A with
  |none=>c=0/\o=[]
  |some a=>(own=false/\c=0/\o=[])\/∃(g:Nat->Option Value) (os:Nat->It),Row w a (c*n) own g/\(∀i (h:i<xs.length),R (λj=>g (i*n+j)) xs[i] (os i))/\
    match own with
    |true=>o=a.block::(List.range xs.length).flatMap os
    |false=>fz a.block/\o=[]/\∀i,i<xs.length->os i=[]
def dec:Nat->Nat
 |0=>0
 |1=>0
 |d+2=>d+2
mutual
def L.rd:(l:L)->Nat->World->(Nat->Prop)->Value->l.D->It->Prop
 | .int k,_,_,_,v,x,o=>v=.int k x/\o=[]
 | .bool,_,_,_,v,x,o=>v=.bool x/\o=[]
 | .str,_,_,_,v,x,o=>v=.string ⟨x.toArray⟩/\o=[]
 | .sl _ e,d,w,fz,v,x,o=>Bw e.n (λg y o=>e.rd (dec d) w fz g y o) (decide (0<d)) w fz v x o
def Ls.rd:(ls:Ls)->Nat->World->(Nat->Prop)->(Nat->Option Value)->ls.D->It->Prop
 | .nil,_,_,_,_,_,o=>o=[]
 | .one l,d,w,fz,g,x,o=>∃v,g 0=some v/\l.rd d w fz v x o
 | .cons l ls,d,w,fz,g,x,o=>∃v o1 o2,g 0=some v/\l.rd d w fz v x.1 o1/\ls.rd d w fz (λj=>g (j+1)) x.2 o2/\o=o1++o2
end
theorem L.Ij{t:TypeId}{e:Ls}{d:Nat}{w:World}{fz:Nat->Prop}{v:Value}{x:(L.sl t e).D}{o:It}:
  (L.sl t e).rd d w fz v x o↔Bw (α:=e.D) e.n (λg y o=>e.rd (dec d) w fz g y o) (decide (0<d)) w fz v x o:=Iff.rfl
end Go.Ev
namespace Go.Ev
theorem Row.frame{w w':World}{a:Addr}{n:Nat}{bare:Bool}{g:Nat->Option Value}(h:Row w a n bare g)(e:w'.heap[a.block]?=w.heap[a.block]?):Row w' a n bare g:=by obtain⟨hs,arr,T,fr,hh,hn,hb,hg⟩:=h;exact⟨hs,arr,T,fr,e.trans hh,hn,hb,hg⟩
theorem Row.lt{w:World}{a:Addr}{n:Nat}{bare:Bool}{g:Nat->Option Value}(h:Row w a n bare g):a.block<w.heap.size:=by obtain⟨hs,arr,T,fr,hh,_⟩:=h;exact(AA2.1 hh).1
section
variable {α:Type}{n:Nat}{R R':(Nat->Option Value)->α->It->Prop}{own:Bool}{w w':World}{fz xy:Nat->Prop}{v:Value}{xs:List α}{o:It}
theorem Bw.imp(h:Bw n R own w fz v xs o)(hf:∀b,b∈o\/fz b->w'.heap[b]?=w.heap[b]?)(hz:∀b,fz b->xy b)
  (hr:∀g x oi,(∀b∈oi,b∈o)->R g x oi->R' g x oi):Bw n R' own w' xy v xs o:=by
 obtain⟨A,c,hv,hc,h⟩:=h;refine⟨A,c,hv,hc,?_⟩;cases A with
 |none=>exact h
 |some a=>
  rcases h with h|⟨g,os,yE,yS,ho⟩
  ·exact .inl h
  refine .inr ?_;cases own with
  |true=>
   refine⟨g,os,yE.frame (hf _ (.inl (by rw[ho];simp))),λi hi=>hr _ _ _ ?_ (yS i hi),ho⟩;intro b hb;rw[ho];exact AAQ _ (AAP.2 ⟨i,AAb.2 hi,hb⟩)
  |false=>
   refine⟨g,os,yE.frame (hf _ (.inr ho.1)),λi hi=>hr _ _ _ ?_ (yS i hi),hz _ ho.1,ho.2⟩;intro b hb;rw[ho.2.2 i hi]at hb;cases hb
theorem Bw.freeze(h:Bw n R own w fz v xs o)(hz:∀b,fz b\/b∈o->xy b)(hr:∀g x oi,(∀b∈oi,b∈o)->R g x oi->R' g x []):Bw n R' false w xy v xs []:=by
 obtain⟨A,c,hv,hc,h⟩:=h;refine⟨A,c,hv,hc,?_⟩;cases A with
 |none=>exact⟨h.1,rfl⟩
 |some a=>
  rcases h with h|⟨g,os,yE,yS,ho⟩
  ·exact .inl ⟨rfl,h.2.1,rfl⟩
  obtain⟨hs,arr,T,fr,hh,hn,hb,hg⟩:=yE;refine .inr ⟨g,λ_=>[],⟨hs,arr,T,fr,hh,hn,λh=>ADf,hg⟩,λi hi=>hr _ _ _ ?_ (yS i hi),hz _ ?_,rfl,λ_ _=>rfl⟩
  ·cases own with
   |true=>intro b hb;rw[ho];exact AAQ _ (AAP.2 ⟨i,AAb.2 hi,hb⟩)
   |false=>intro b hb;rw[ho.2.2 i hi]at hb;cases hb
  ·cases own with
   |true=>right;rw[ho];simp
   |false=>exact .inl ho.1
theorem Bw.zero(h:Bw n R false w fz v xs o):o=[]:=by
 obtain⟨A,c,hv,hc,h⟩:=h;cases A with
 |none=>exact h.2
 |some a=>
  rcases h with h|⟨g,os,yE,yS,ho⟩
  ·exact h.2.2
  ·exact ho.2.1
theorem Bw.dep(h:Bw n R own w fz v xs o)(hr:∀g x oi,R g x oi->∀b∈oi,b<w.heap.size):∀b∈o,b<w.heap.size:=by
 obtain⟨A,c,hv,hc,h⟩:=h;cases A with
 |none=>rw[h.2];simp
 |some a=>
  rcases h with h|⟨g,os,yE,yS,ho⟩
  ·rw[h.2.2];simp
  cases own with
  |false=>rw[ho.2.1];simp
  |true=>
   intro b hb;rw[ho]at hb;rcases AAj.1 hb with rfl|hb
   ·exact yE.lt
   ·obtain⟨i,hi,hb⟩:=AAP.1 hb;exact hr _ _ _ (yS i (AAb.1 hi)) b hb
end
mutual
theorem L.AN:∀(l:L) {d:Nat} {w w':World} {fz xy:Nat->Prop} {v:Value} {x:l.D} {o:It},
  l.rd d w fz v x o->(∀b,b∈o\/fz b->w'.heap[b]?=w.heap[b]?)->(∀b,fz b->xy b)->l.rd d w' xy v x o
 | .int _,_,_,_,_,_,_,_,_,h,_,_=>h
 | .bool,_,_,_,_,_,_,_,_,h,_,_=>h
 | .str,_,_,_,_,_,_,_,_,h,_,_=>h
 | .sl _ e,d,w,w',fz,xy,v,x,o,h,hf,hz=>by rw[L.Ij]at h ⊢;exact Bw.imp h hf hz λg y oi ho hr=>Ls.AN e hr (λb hb=>hf b (hb.imp (ho b) id)) hz
theorem Ls.AN:∀(ls:Ls) {d:Nat} {w w':World} {fz xy:Nat->Prop} {g:Nat->Option Value} {x:ls.D} {o:It},
  ls.rd d w fz g x o->(∀b,b∈o\/fz b->w'.heap[b]?=w.heap[b]?)->(∀b,fz b->xy b)->ls.rd d w' xy g x o
 | .nil,_,_,_,_,_,_,_,_,h,_,_=>h
 | .one l,d,w,w',fz,xy,g,x,o,h,hf,hz=>by simp only[Ls.rd]at h ⊢;obtain⟨v,hg,h⟩:=h;exact⟨v,hg,L.AN l h hf hz⟩
 | .cons l ls,d,w,w',fz,xy,g,x,o,h,hf,hz=>by simp only[Ls.rd]at h ⊢;obtain⟨v,o1,o2,hg,h1,h2,rfl⟩:=h;exact⟨v,o1,o2,hg,L.AN l h1 (λb hb=>hf b (hb.imp (AAY _) id)) hz,Ls.AN ls h2 (λb hb=>hf b (hb.imp (AAV _) id)) hz,rfl⟩
end
mutual
theorem L.Co:∀(l:L) {d:Nat} {w:World} {fz xy:Nat->Prop} {v:Value} {x:l.D} {o:It},
  l.rd d w fz v x o->(∀b,fz b\/b∈o->xy b)->l.rd 0 w xy v x []
 | .int _,_,_,_,_,_,_,_,h,_=>by simp only[L.rd]at h ⊢;exact⟨h.1,trivial⟩
 | .bool,_,_,_,_,_,_,_,h,_=>by simp only[L.rd]at h ⊢;exact⟨h.1,trivial⟩
 | .str,_,_,_,_,_,_,_,h,_=>by simp only[L.rd]at h ⊢;exact⟨h.1,trivial⟩
 | .sl _ e,d,w,fz,xy,v,x,o,h,hz=>by rw[L.Ij]at h ⊢;exact Bw.freeze h hz λg y oi ho hr=>Ls.Co e hr λb hb=>hz b (hb.imp id (ho b))
theorem Ls.Co:∀(ls:Ls) {d:Nat} {w:World} {fz xy:Nat->Prop} {g:Nat->Option Value} {x:ls.D} {o:It},
  ls.rd d w fz g x o->(∀b,fz b\/b∈o->xy b)->ls.rd 0 w xy g x []
 | .nil,_,_,_,_,_,_,_,_,_=>rfl
 | .one l,d,w,fz,xy,g,x,o,h,hz=>by simp only[Ls.rd]at h ⊢;obtain⟨v,hg,h⟩:=h;exact⟨v,hg,L.Co l h hz⟩
 | .cons l ls,d,w,fz,xy,g,x,o,h,hz=>by simp only[Ls.rd]at h ⊢;obtain⟨v,o1,o2,hg,h1,h2,rfl⟩:=h;exact⟨v,[],[],hg,L.Co l h1 (λb hb=>hz b (hb.imp id (AAY _))),Ls.Co ls h2 (λb hb=>hz b (hb.imp id (AAV _))),rfl⟩
end
mutual
theorem L.DE:∀(l:L) {w:World} {fz:Nat->Prop} {v:Value} {x:l.D} {o:It},l.rd 0 w fz v x o->o=[]
 | .int _,_,_,_,_,_,h=>h.2
 | .bool,_,_,_,_,_,h=>h.2
 | .str,_,_,_,_,_,h=>h.2
 | .sl _ e,w,fz,v,x,o,h=>by rw[L.Ij]at h;exact Bw.zero h
theorem Ls.DE:∀(ls:Ls) {w:World} {fz:Nat->Prop} {g:Nat->Option Value} {x:ls.D} {o:It},ls.rd 0 w fz g x o->o=[]
 | .nil,_,_,_,_,_,h=>h
 | .one l,w,fz,g,x,o,h=>by simp only[Ls.rd]at h;obtain⟨v,hg,h⟩:=h;exact L.DE l h
 | .cons l ls,w,fz,g,x,o,h=>by simp only[Ls.rd]at h;obtain⟨v,o1,o2,hg,h1,h2,rfl⟩:=h;rw[L.DE l h1,Ls.DE ls h2];rfl
end
mutual
theorem L.F7:∀(l:L) {d:Nat} {w:World} {fz:Nat->Prop} {v:Value} {x:l.D} {o:It},l.rd d w fz v x o->∀b∈o,b<w.heap.size
 | .int _,_,_,_,_,_,_,h=>by simp only[L.rd]at h;rw[h.2];simp
 | .bool,_,_,_,_,_,_,h=>by simp only[L.rd]at h;rw[h.2];simp
 | .str,_,_,_,_,_,_,h=>by simp only[L.rd]at h;rw[h.2];simp
 | .sl _ e,d,w,fz,v,x,o,h=>by rw[L.Ij]at h;exact Bw.dep h λg y oi hr=>Ls.F7 e hr
theorem Ls.F7:∀(ls:Ls) {d:Nat} {w:World} {fz:Nat->Prop} {g:Nat->Option Value} {x:ls.D} {o:It},ls.rd d w fz g x o->∀b∈o,b<w.heap.size
 | .nil,_,_,_,_,_,_,h=>by simp only[Ls.rd]at h;rw[h];simp
 | .one l,d,w,fz,g,x,o,h=>by simp only[Ls.rd]at h;obtain⟨v,hg,h⟩:=h;exact L.F7 l h
 | .cons l ls,d,w,fz,g,x,o,h=>by
  simp only[Ls.rd]at h;obtain⟨v,o1,o2,hg,h1,h2,rfl⟩:=h;intro b hb;rcases ABK.1 hb with hb|hb
  ·exact L.F7 l h1 b hb
  ·exact Ls.F7 ls h2 b hb
end
def AE(e:Ls)(d:Nat)(w:World)(fz:Nat->Prop)(v:Value)(xs:List e.D)(o:It):Prop:=
 Bw e.n (λg y o=>e.rd (dec d) w fz g y o) (decide (0<d)) w fz v xs o
theorem L.Nv{t:TypeId}{e:Ls}{d:Nat}{w:World}{fz:Nat->Prop}{v:Value}{x:(L.sl t e).D}{o:It}:
  (L.sl t e).rd d w fz v x o↔AE e d w fz v x o:=Iff.rfl
section
variable {e:Ls}{d:Nat}{w w':World}{fz xy:Nat->Prop}{v:Value}{xs:List e.D}{o:It}
theorem AE.frame(h:AE e d w fz v xs o)(hf:∀b,b∈o\/fz b->w'.heap[b]?=w.heap[b]?)(hz:∀b,fz b->xy b):AE e d w' xy v xs o:=L.AN (.sl 0 e) h hf hz
theorem AE.freeze(h:AE e d w fz v xs o)(hz:∀b,fz b\/b∈o->xy b):AE e 0 w xy v xs []:=L.Co (.sl 0 e) h hz
theorem AE.zero(h:AE e 0 w fz v xs o):o=[]:=L.DE (.sl 0 e) h
theorem AE.dep(h:AE e d w fz v xs o):∀b∈o,b<w.heap.size:=L.F7 (.sl 0 e) h
end
end Go.Ev
namespace Go.Ev
structure Loc where
 r:Nat
 j:Nat
 AB:Nat
 gen:Nat
 p:List (Nat×Nat)
inductive LA where
 |bad
 |undef
 |C6
 |I9
 |sc (l:L) (x:l.D)
 |ref (c:Loc)
 |D0 (c:Loc) (lo hi:Nat)
 |ptr (r j AB:Nat)
 |Ba (c:Loc)
 |Du (e:Ls) (x:e.D) (off:Nat)
 |fn (f:FuncId)
 |I0 (t:TypeId) (c:Loc)
 |D4 (g:FuncId) (ps qs:List (Nat×Nat))
 |arr (AB gen:Nat) (t:TypeId) (e:Ls) (xs:List e.D) (d:Nat)
inductive AV where
 |v (agg:Bool) (ls:List LA)
 |Db (vs:List (Bool×List LA))
 |bx (ls:List LA)
structure Bv where
 box:Bool
 AB:Nat
 ls:List LA
structure St where
 sl:List AV
 ro:List Bv
 Bd:Nat
def nth{α:Type}(d:α):List α->Nat->α
 | [],_=>d
 |x::_,0=>x
 |_::xs,n+1=>nth d xs n
def DL{α:Type}:List α->Nat->α->List α
 | [],_,_=>[]
 |_::xs,0,y=>y::xs
 |x::xs,n+1,y=>x::DL xs n y
def isNil{α:Type}:List α->Bool
 | []=>true
 |_::_=>false
def has(ms:It)(t:Nat):Bool:=match ms with
 | []=>false
 |m::ms=>m==t||has ms t
def dead:Bv:=⟨false,0,[]⟩
def St.slot(s:St)(t:Nat):AV:=nth (.v false [.bad]) s.sl t
def St.root(s:St)(r:Nat):Bv:=nth dead s.ro r
def St.leaf(s:St)(r j:Nat):LA:=nth .bad (s.root r).ls j
inductive Wr where
 |slot (t:Nat) (a:AV)
 |root (r:Nat) (x:Bv)
 |leaf (r j:Nat) (a:LA)
def St.AG(s:St):Wr->St
 | .slot t a=>{ s with sl:=DL s.sl t a }
 | .root r x=>{ s with ro:=DL s.ro r x }
 | .leaf r j a=>{ s with ro:=DL s.ro r { s.root r with ls:=DL (s.root r).ls j a } }
def St.app(s:St):List Wr->St
 | []=>s
 |w::ws=>(s.AG w).app ws
inductive Step(β:Type) where
 |none
 |go (s:β)
 |Mg {α:Type} (m:Option α) (f:α->Step β)
 |iff (b:Bool) (x y:Step β)
def Step.run{β R:Type}(k:β->Option R):Step β->Option R
 | .none=>Option.none
 | .go s=>k s
 | .Mg m f=>m.bind λx=>(f x).run k
 | .iff b x y=>bif b then x.run k else y.run k
def Step.leads{β:Type}(t:β):Step β->Prop
 | .none=>False
 | .go s=>s=t
 | .Mg m f=>∃x,m=some x/\(f x).leads t
 | .iff b x y=>match b with
  |true=>x.leads t
  |false=>y.leads t
theorem Step.Cp{β R:Type}{k:β->Option R}{r:R}:∀(s:Step β),s.run k=some r->∃t,s.leads t/\k t=some r
 | .none,h=>by simp[Step.run]at h
 | .go s,h=>⟨s,rfl,h⟩
 | .Mg m f,h=>by
  simp only[Step.run]at h;cases m with
  |none=>simp at h
  |some x=>obtain⟨t,a,b⟩:=Step.Cp (f x) h;exact⟨t,⟨x,rfl,a⟩,b⟩
 | .iff b x y,h=>by
  simp only[Step.run]at h;cases b with
  |true=>obtain⟨t,a,b⟩:=Step.Cp x h;exact⟨t,a,b⟩
  |false=>obtain⟨t,a,b⟩:=Step.Cp y h;exact⟨t,a,b⟩
variable {β:Type}
structure Ty where
 agg:Bool
 ls:Ls
 fs:List (Nat×TypeId)
 eq:Bool
def Hl{α:Type}:List α->Nat->Option α
 | [],_=>none
 |x::_,0=>some x
 |_::xs,n+1=>Hl xs n
def Ek:List L->Ls
 | []=>.nil
 | [l]=>.one l
 |l::m::r=>.cons l (Ek (m::r))
inductive PM where
 |val (agg:Bool) (ls:List L)
 |box (ls:List (L×Nat))
 |row (agg:Bool) (ls:List (L×Nat))
 |fn (f:FuncId)
def PM.ins:PM->List L
 | .val _ ls=>ls
 | .box ls=>ls.map (·.1)
 | .row _ ls=>ls.map (·.1)
 | .fn _=>[]
def PM.outs:PM->List (L×Nat)
 | .val _ _=>[]
 | .box ls=>ls
 | .row _ ls=>ls
 | .fn _=>[]
structure Sm where
 ps:List PM
 rs:List (Bool×List (L×Nat))
def Sm.ins(s:Sm):Ls:=Ek (s.ps.flatMap PM.ins)
def Sm.Gg(s:Sm):List (L×Nat):=s.rs.flatMap (·.2)++s.ps.flatMap PM.outs
def Sm.outs(s:Sm):Ls:=Ek (s.Gg.map (·.1))
def Sm.mk?(s:Sm):Bool:=match s.rs with
 | [(false,_::_::_)]=>true
 |_=>false
def PM.isVal:PM->Bool
 | .val _ _=>true
 |_=>false
def Sm.plain(s:Sm):Bool:=s.ps.all PM.isVal&&s.Gg.all λp=>p.2==0
structure Lj where
 s:Sm
 f:s.ins.D->Option s.outs.D
inductive KB where
 |box (ls:List L)
 |D4 (g:FuncId) (bs:List (List L))
 |row
def KB.kinds:KB->List L
 | .box ls=>ls
 | .D4 _ bs=>bs.flatten
 | .row=>[]
structure N1 where
 t:TypeId
 Iw:List KB
 lt:(Ek (Iw.flatMap KB.kinds)).D->Int->Int->Option Bool
structure Env where
 fn:FuncId->Option Lj
 Oy:FuncId->FuncId->Option N1
 Oi:TypeId->Bool
structure Cx where
 ty:TypeId->Option Ty
 env:Env
 lock:Nat->Bool
 Ew:Nat->Bool
 LL:Nat->Bool
def I5:(e:Ls)->Nat->e.D->((t:TypeId)->(f:Ls)->List f.D->Step β)->Step β
 | .nil,_,_,_=>.none
 | .one l,0,x,k=>match l,x with
  | .sl t f,xs=>k t f xs
  |_,_=>.none
 | .one _,_+1,_,_=>.none
 | .cons l ls,0,x,k=>match l,x with
  | .sl t f,xs=>k t f xs.1
  |_,_=>.none
 | .cons _ ls,j+1,x,k=>I5 ls j x.2 k
def OH(k:(t:TypeId)->(e:Ls)->List e.D->Nat->Step β):(p:List (Nat×Nat))->(t:TypeId)->(e:Ls)->List e.D->Nat->Step β
 | [],t,e,xs,d=>k t e xs d
 |(i,j)::p,_,e,xs,d=>.Mg (xs[i]?) λx=>I5 e j x λt f ys=>OH k p t f ys (dec d)
def St.content(s:St)(c:Loc)(k:(t:TypeId)->(e:Ls)->List e.D->Nat->Step β):Step β:=match s.leaf c.r c.j with
 | .arr AB gen t e xs d=>if AB==c.AB&&(isNil c.p||gen==c.gen)then OH k c.p t e xs d else .none
 |_=>.none
def Iz{α:Type}(xs:List α)(i:Int):Option α:=if 0<=i then xs[i.toNat]? else none
def OU{α:Type}(xs:List α)(i:Int):Bool:=decide (0<=i)&&decide (i<xs.length)
def sub{α:Type}(xs:List α)(lo hi:Nat):List α:=(xs.drop lo).take (hi-lo)
def St.datum(s:St)(l:L)(a:LA)(k:l.D->Step β):Step β:=match a with
 | .sc m x=>match L.cast l (a:=m) x with
  |some y=>k y
  |none=>.none
 | .C6=>match l,k with
  | .sl _ _,k=>k []
  |_,_=>.none
 | .ref c=>s.content c λt e xs _=>match L.cast l (a:=.sl t e) xs with
  |some y=>k y
  |none=>.none
 | .D0 c lo hi=>s.content c λt e xs _=>match L.cast l (a:=.sl t e) (sub xs lo hi)with
  |some y=>k y
  |none=>.none
 |_=>.none
def St.data(s:St):List L->List LA->(List Lv->Step β)->Step β
 | [],[],k=>k []
 |l::ls,a::as,k=>s.datum l a λx=>s.data ls as λvs=>k (⟨l,x⟩::vs)
 |_,_,_=>.none
def Bf:(e:Ls)->Nat->List Lv->Option (e.D->e.D)
 | .nil=>λ_ _=>none
 | .one l=>λoff vs=>match off,vs with
  |0,[v]=>match L.cast l v.x with
   |some y=>some λ_=>y
   |none=>none
  |_,_=>none
 | .cons l ls=>λoff vs=>match off with
  |0=>match vs with
   | []=>none
   | [v]=>match L.cast l v.x with
    |some y=>some λx=>(y,x.2)
    |none=>none
   |v::u::vs=>match L.cast l v.x,Bf ls 0 (u::vs)with
    |some y,some f=>some λx=>(y,f x.2)
    |_,_=>none
  |off+1=>match Bf ls off vs with
   |some f=>some λx=>(x.1,f x.2)
   |none=>none
def EJ:(e:Ls)->Nat->((t:TypeId)->(f:Ls)->Option (List f.D->List f.D))->Option (e.D->e.D)
 | .nil=>λ_ _=>none
 | .one l=>λj g=>match j with
  |0=>match l with
   | .sl t f=>g t f
   |_=>none
  |_+1=>none
 | .cons l ls=>λj g=>match j with
  |0=>match l with
   | .sl t f=>match g t f with
    |some h=>some λx=>(h x.1,x.2)
    |none=>none
   |_=>none
  |j+1=>match EJ ls j g with
   |some h=>some λx=>(x.1,h x.2)
   |none=>none
def I7(vs:List Lv):(p:List (Nat×Nat))->(e:Ls)->Option (List e.D->List e.D)
 | [],_=>none
 |(i,j)::p,e=>match p with
  | []=>match(if j==0&&vs.length==e.n then pack e vs else none)with
   |some y=>some λxs=>DL xs i y
   |none=>match Bf e j vs with
    |some f=>some λxs=>xs.modify i f
    |none=>none
  |_::_=>match EJ e j λ_ f=>I7 vs p f with
   |some h=>some λxs=>xs.modify i h
   |none=>none
def Jp(g:(t:TypeId)->(e:Ls)->Option (List e.D->List e.D)):(p:List (Nat×Nat))->(t:TypeId)->(e:Ls)->Option (List e.D->List e.D)
 | [],t,e=>g t e
 |(i,j)::p,_,e=>match EJ e j λt f=>Jp g p t f with
  |some h=>some λxs=>xs.modify i h
  |none=>none
def Nu(x:Lv)(t:TypeId)(e:Ls):Option (List e.D->List e.D):=match L.cast (a:=x.l) (.sl t e) x.x with
 |some y=>some λ_=>y
 |none=>none
def ofConst:Value->LA
 | .int k n=>.sc (.int k) (show Int from n)
 | .bool b=>.sc .bool (show Bool from b)
 | .string s=>.sc .str (show ADZ from s.data.toList)
 | .slice none 0 0=>.C6
 | .pointer none=>.I9
 |_=>.bad
def St.As(s:St):Operand->AV
 | .tmp t=>s.slot t
 | .const (.agg cs)=>.v true (cs.toList.map ofConst)
 | .const v=>.v false [ofConst v]
 | .func f=>.v false [.fn f]
 | .global _=>.v false [.bad]
def AV.one?:AV->LA
 | .v false [a]=>a
 |_=>.bad
def St.Ag(s:St)(x:Operand):LA:=(s.As x).one?
def Bj:L->Bool
 | .sl _ _=>true
 |_=>false
def Bx:Ls->Bool
 | .nil=>true
 | .one l => !Bj l
 | .cons l ls => !Bj l&&Bx ls
def Ip(v:Nat):L->LA
 | .int k=>.sc (.int k) (show Int from 0)
 | .bool=>.sc .bool (show Bool from false)
 | .str=>.sc .str (show ADZ from [])
 | .sl t e=>.arr v v t e [] 2
def Kw:(l:L)->l.D
 | .int _=>(0:Int)
 | .bool=>false
 | .str=>([]:ADZ)
 | .sl _ e=>([]:List e.D)
def FG:(ls:Ls)->ls.D
 | .nil=>()
 | .one l=>Kw l
 | .cons l ls=>(Kw l,FG ls)
def St.take(cx:Cx)(s:St)(v:Nat)(a:LA)(l:L)(k:LA->List (Nat×Nat)->Step β):Step β:=match a with
 | .sc m x=>if L.eq? m l then k (.sc m x) []else .none
 | .C6=>match l with
  | .sl t e=>k (.arr v v t e [] 2) []
  |_=>.none
 | .ref c=>match s.leaf c.r c.j with
  | .arr AB _ t e xs d=>match d with
   |0=>s.content c λt e ys _=>if L.eq? l (.sl t e)then k (.sc (.sl t e) ys) []else .none
   |d+1=>if AB==c.AB&&isNil c.p && !cx.LL c.r&&L.eq? l (.sl t e)then k (.arr v v t e xs (d+1)) [(c.r,c.j)]else .none
  |_=>.none
 | .D0 c lo hi=>match s.leaf c.r c.j with
  | .arr AB _ t e xs d=>if AB==c.AB&&isNil c.p && !cx.LL c.r&&L.eq? l (.sl t e)then k (.arr v v t e (sub xs lo hi) d) [(c.r,c.j)]else .none
  |_=>.none
 | .ptr r j AB=>if(s.root r).box&&(s.root r).AB==AB then k (.ptr r j AB) []else .none
 | .fn f=>k (.fn f) []
 |_=>.none
def St.Fo(cx:Cx)(s:St)(v:Nat):List L->List LA->(List LA->List (Nat×Nat)->Step β)->Step β
 | [],[],k=>k [] []
 |l::ls,a::as,k=>s.take cx v a l λb us=>s.Fo cx v ls as λbs vs=>if us.all λu => !vs.contains u then k (b::bs) (us++vs)else .none
 |_,_,_=>.none
def gone(us:List (Nat×Nat)):List Wr:=us.map λu=>.leaf u.1 u.2 .bad
end Go.Ev
namespace Go.Ev
variable {β:Type}
def one(a:LA):AV:=.v false [a]
def IC(k:IntKind)(n:Int):AV:=one (.sc (.int k) (show Int from n))
def IB(b:Bool):AV:=one (.sc .bool (show Bool from b))
def OZ(s:ADZ):AV:=one (.sc .str (show ADZ from s))
def isZero:Operand->Bool
 | .const (.int _ n)=>n==0
 |_=>true
def OA(k:IntKind)(x y:Int):Int:=k.wrap (BitVec.ofInt k.bits x &&& BitVec.ofInt k.bits y).toNat
def Ox(k:IntKind)(x y:Int):Int:=k.wrap (BitVec.ofInt k.bits x ||| BitVec.ofInt k.bits y).toNat
def OQ(k:IntKind)(x y:Int):Int:=k.wrap (BitVec.ofInt k.bits x ^^^ BitVec.ofInt k.bits y).toNat
def Ny(k:IntKind)(x y:Int):Int:=k.wrap (x*2 ^ (min y.toNat k.bits))
def Nz(k:IntKind)(x y:Int):Int:=x.fdiv (2 ^ (min y.toNat k.bits))
def Lu(op:BinOp)(y:Operand)(i:IntKind)(a b:Int)(k:AV->Step β):Step β:=match op with
 | .quo=>if isZero y then .iff (b==0) .none (k (IC i (i.wrap (Int.tdiv a b))))else k (IC i (i.wrap (Int.tdiv a b)))
 | .rem=>if isZero y then .iff (b==0) .none (k (IC i (Int.tmod a b)))else k (IC i (Int.tmod a b))
 | .add=>k (IC i (i.wrap (a+b)))
 | .sub=>k (IC i (i.wrap (a-b)))
 | .mul=>k (IC i (i.wrap (a*b)))
 | .eql=>k (IB (a==b))
 | .neq=>k (IB (a != b))
 | .lss=>k (IB (decide (a<b)))
 | .leq=>k (IB (decide (a<=b)))
 | .gtr=>k (IB (decide (a>b)))
 | .geq=>k (IB (decide (a>=b)))
 | .and=>k (IC i (OA i a b))
 | .or=>k (IC i (Ox i a b))
 | .xor=>k (IC i (OQ i a b))
 | .shl=>.iff (decide (0<=b)) (k (IC i (Ny i a b))) .none
 | .shr=>.iff (decide (0<=b)) (k (IC i (Nz i a b))) .none
 |_=>.none
def NZ(op:BinOp)(a b:Bool)(k:AV->Step β):Step β:=match op with
 | .eql=>k (IB (a==b))
 | .neq=>k (IB (a != b))
 |_=>.none
def Na(op:BinOp)(a b:ADZ)(k:AV->Step β):Step β:=match op with
 | .eql=>k (IB (a==b))
 | .neq=>k (IB (!(a==b)))
 | .add=>.iff (decide (a.length+b.length<=4611686018427387904)) (k (OZ (a++b))) .none
 |_=>.none
def IH(cx:Cx)(t:TypeId)(l:L):Bool:=match cx.ty t with
 |some ty => !ty.agg&&Ls.eq? ty.ls (.one l)
 |none=>false
def isRow(cx:Cx)(t:TypeId)(e:Ls):Bool:=match cx.ty t with
 |some ty => !ty.agg&&match ty.ls with
  | .one (.sl _ f)=>Ls.eq? f e
  |_=>false
 |none=>false
def Gp:BinOp->Bool
 | .shl=>true
 | .shr=>true
 |_=>false
def binop(isb:Bool)(op:BinOp)(y:Operand)(a b:LA)(k:AV->Step β):Step β:=match a,b with
 | .sc l a,.sc m b=>match l,a,m,b with
  | .int i,a,.int j,b=>if IntKind.code i==IntKind.code j||Gp op then Lu op y i a b k else .none
  | .bool,a,.bool,b=>if isb then NZ op a b k else .none
  | .str,a,.str,b=>Na op a b k
  |_,_,_,_=>.none
 |_,_=>.none
def Nx(l:L)(a b:LA):Option Bool:=match l with
 | .int k=>match a,b with
  | .sc (.int i) x,.sc (.int j) y=>if IntKind.code i==IntKind.code k&&IntKind.code j==IntKind.code k then some ((show Int from x)==(show Int from y))else none
  |_,_=>none
 | .bool=>match a,b with
  | .sc .bool x,.sc .bool y=>some ((show Bool from x)==(show Bool from y))
  |_,_=>none
 | .str=>match a,b with
  | .sc .str x,.sc .str y=>some ((show ADZ from x)==(show ADZ from y))
  |_,_=>none
 | .sl _ _=>none
def FL:List L->List LA->List LA->Option Bool
 | [],[],[]=>some true
 |l::ls,a::as,b::bs=>match Nx l a b,FL ls as bs with
  |some p,some q=>some (p&&q)
  |_,_=>none
 |_,_,_=>none
def Ln(cx:Cx)(op:BinOp)(tx:TypeId)(as bs:List LA)(k:AV->Step β):Step β:=match cx.ty tx with
 |some ty=>if ty.eq then match FL ty.ls.kinds as bs with
   |some q=>match op with
    | .eql=>k (IB q)
    | .neq=>k (IB (!q))
    |_=>.none
   |none=>.none
  else .none
 |none=>.none
def Nk(a:Int):Int:=0-a
def M1(a b:Int):Int:=bif decide (b<a)then b else a
def M0(a b:Int):Int:=bif decide (b>a)then b else a
def seen(r j:Nat)(a:LA):LA:=match a with
 | .arr AB _ _ _ _ _=>.ref ⟨r,j,AB,AB,[]⟩
 |b=>b
def A5(r:Nat):Nat->List LA->List LA
 |_,[]=>[]
 |j,a::as=>seen r j a::A5 r (j+1) as
def H2(r j:Nat)(a:LA):LA:=match a with
 | .arr AB gen t e xs d=>match d with
  |0=>.sc (.sl t e) xs
  |_+1=>.ref ⟨r,j,AB,AB,[]⟩
 |b=>b
def BC(r:Nat):Nat->List LA->List LA
 |_,[]=>[]
 |j,a::as=>H2 r j a::BC r (j+1) as
def Be(c:Loc)(i:Nat)(d:Nat):Nat->List Lv->List LA
 |_,[]=>[]
 |off,v::vs=>(if Bj v.l&&decide (0<d)then LA.ref { c with p:=c.p++[(i,off)] }else .sc v.l v.x)::Be c i d (off+1) vs
def Ah:List (Nat×Nat)->Option (List (Nat×Nat)×Nat×Nat)
 | []=>none
 | [x]=>some ([],x.1,x.2)
 |x::y::r=>match Ah (y::r)with
  |some (q,i,off)=>some (x::q,i,off)
  |none=>none
def St.Jj(s:St)(r j:Nat):Nat:=match s.leaf r j with
 | .arr _ gen _ _ _ _=>gen
 |_=>0
def St.C2(s:St)(a:LA)(n:Nat)(k:List LA->Step β):Step β:=match a with
 | .ptr r j AB=>if(s.root r).box&&(s.root r).AB==AB&&decide (j+n<=(s.root r).ls.length)then k (BC r j (((s.root r).ls.drop j).take n))else .none
 | .Du e x off=>k ((((unpack e x).drop off).take n).map λv=>.sc v.l v.x)
 | .Ba c=>match Ah c.p with
  |none=>.none
  |some (q,i,off)=>s.content { c with p:=q } λt e xs d=>.Mg (xs[i]?) λx=>k (Be { c with p:=q,gen:=s.Jj c.r c.j } i (dec d) off (((unpack e x).drop off).take n))
 |_=>.none
def St.E7(s:St)(a:AV)(n:Nat)(k:List LA->Step β):Step β:=match a with
 | .bx as=>if decide (n<=as.length)then k (as.take n)else .none
 |a=>s.C2 a.one? n k
def L7(s:St)(as:List LA):Bool:=as.any λa=>match a with
 | .ref c=>c.AB==1 && !(s.root c.r).box
 |_=>false
def St.alive(s:St):LA->Bool
 | .ptr r j AB=>(s.root r).box&&(s.root r).AB==AB
 | .Ba c=>match s.leaf c.r c.j with
  | .arr AB gen _ _ _ _=>AB==c.AB&&(decide (c.p.length<=1)||gen==c.gen)
  |_=>false
 | .Du _ _ _=>true
 |_=>false
def St.setAt(s:St)(g:Nat)(c:Loc)(h:(e:Ls)->Option (List e.D->List e.D)):Option (List Wr):=match s.leaf c.r c.j with
 | .arr AB gen t e xs d=>if AB==c.AB&&(isNil c.p||gen==c.gen)then match h e with
   |some f=>some [.leaf c.r c.j (.arr AB g t e (f xs) d)]
   |none=>none
  else none
 |_=>none
def St.J3(s:St)(g:Nat)(c:Loc)(vs:List Lv):Option (List Wr):=match s.leaf c.r c.j with
 | .arr AB gen t e xs d=>if AB==c.AB&&(decide (c.p.length<=1)||gen==c.gen)&&decide (0<d)&&(decide (c.p.length<=1)||d==2)then match I7 vs c.p e with
   |some f=>some [.leaf c.r c.j (.arr AB g t e (f xs) d)]
   |none=>none
  else none
 |_=>none
def A7(r:Nat):Nat->List LA->List Wr
 |_,[]=>[]
 |j,a::as=>.leaf r j a::A7 r (j+1) as
def St.GB(cx:Cx)(s:St)(v:Nat)(a:LA)(ls:List L)(as:List LA)(k:List Wr->Step β):Step β:=match a with
 | .ptr r j AB=>if(s.root r).box&&(s.root r).AB==AB&&decide (j+ls.length<=(s.root r).ls.length)then s.Fo cx v ls as λbs us=>k (gone us++A7 r j bs)else .none
 | .Ba c=>if ls.all λl => !Bj l then s.data ls as λvs=>match s.J3 v c vs with
   |some ws=>k ws
   |none=>.none
  else match c.p with
   | [_]=>s.Fo cx v ls as λbs us=>if us.all λu => !(u.1==c.r&&u.2==c.j)then match bs.mapM λb=>match b with
      | .arr _ _ t e xs 2=>some (⟨.sl t e,xs⟩:Lv)
      | .sc l x=>if Bj l then none else some ⟨l,x⟩
      |_=>none with
     |some vs=>match s.leaf c.r c.j with
      | .arr AB _ t e xs 2=>if AB==c.AB then match I7 vs c.p e with
        |some f=>k (gone us++[.leaf c.r c.j (.arr AB v t e (f xs) 2)])
        |none=>.none
       else .none
      |_=>.none
     |none=>.none
    else .none
   |_=>.none
 |_=>.none
def A6:LA->LA
 | .arr AB gen t e xs _=>.arr AB gen t e xs 0
 |a=>a
def Mw:LA->Bool
 | .arr _ _ _ _ _ (_+1)=>false
 |_=>true
def St.Bm(s:St)(r:Nat):Bool:=(s.root r).ls.all Mw
def Cy(s:St)(r:Nat):List Wr:=if s.Bm r then []else A7 r 0 ((s.root r).ls.map A6)
def Ap(cx:Cx)(s:St):It->Option (List Wr)
 | []=>some []
 |r::rs=>if cx.LL r then none else match Ap cx s rs with
  |some ws=>some (Cy s r++ws)
  |none=>none
def Hj:List LA->It
 | []=>[]
 | .ref c::as=>if isNil c.p then Hj as else c.r::Hj as
 |_::as=>Hj as
def MF(q:LA)(as:List LA):It:=match q with
 | .ptr _ _ _=>Hj as
 |_=>[]
def GA(cx:Cx)(v:Nat)(s:St)(dst:Option Tmp)(q:LA)(ls:List L)(as:List LA)(fs:List Wr):Step (List Wr):=s.GB cx v q ls as λws=>match dst with
 |none=>.go (fs++ws)
 |some _=>.none
def Nj(a:LA)(k:Int->Step β):Step β:=match a with
 | .sc l x=>match l,x with
  | .str,x=>k (List.length (α:=UInt8) x:Int)
  |_,_=>.none
 |_=>.none
def lenOf(s:St)(a:LA)(k:Int->Step β):Step β:=match a with
 | .sc l x=>match l,x with
  | .sl _ e,x=>k (List.length (α:=e.D) x:Int)
  |_,_=>.none
 | .C6=>k 0
 | .ref c=>s.content c λt e xs _=>k (xs.length:Int)
 | .D0 c lo hi=>s.content c λt e xs _=>k ((sub xs lo hi).length:Int)
 |_=>.none
def asInt(a:LA)(k:Int->Step β):Step β:=match a with
 | .sc l n=>match l,n with
  | .int _,n=>k n
  |_,_=>.none
 |_=>.none
def DQ(s:St)(x:Option Operand)(d:Int)(k:Int->Step β):Step β:=match x with
 |none=>k d
 |some x=>asInt (s.Ag x) k
def ownRow(d v:Nat)(t:TypeId)(e:Ls)(xs:List e.D):List Wr:=[.root d ⟨false,v,[.arr v v t e xs 2]⟩,.slot d (one (.ref ⟨d,0,v,v,[]⟩))]
def F6(d v:Nat)(ls:List LA):List Wr:=[.root d ⟨true,v,ls⟩,.slot d (one (.ptr d 0 v))]
def EK(cx:Cx)(s:St)(a:LA)(t:TypeId)(e:Ls)(k:List e.D->List (Nat×Nat)->Step β):Step β:=
 if Bx e then s.datum (.sl t e) a λys=>k ys []else match a with
  | .ref c=>match s.leaf c.r c.j with
   | .arr AB _ t' e' xs d=>if AB==c.AB&&isNil c.p && !cx.LL c.r&&d==2 then match L.cast (a:=.sl t' e') (.sl t e) xs with
     |some ys=>k ys [(c.r,c.j)]
     |none=>.none
    else .none
   |_=>.none
  |_=>.none
def E8:Nat:=68719476736
def Cs(cx:Cx)(s:St)(d v:Nat)(t:TypeId)(e:Ls)(a b:LA)(k:List Wr->Step β):Step β:=match a with
 | .C6=>EK cx s b t e λys us=>.iff (decide (ys.length<=E8)) (k (gone us++ownRow d v t e ys)) .none
 | .ref c=>match s.leaf c.r c.j with
  | .arr AB _ t' e' xs dd=>if AB==c.AB&&isNil c.p && !cx.LL c.r&&dd==2 then match L.cast (a:=.sl t' e') (.sl t e) xs with
    |some xs=>EK cx s b t e λys us=>if us.contains (c.r,c.j)then .none else .iff (decide (List.length (α:=e.D) xs+ys.length<=E8)) (k (gone ((c.r,c.j)::us)++ownRow d v t e (List.append (α:=e.D) xs ys))) .none
    |none=>.none
   else .none
  |_=>.none
 | .D0 c lo hi=>match s.leaf c.r c.j with
  | .arr AB _ t' e' xs dd=>if AB==c.AB&&isNil c.p && !cx.LL c.r&&dd==2&&Bx e then match L.cast (a:=.sl t' e') (.sl t e) xs with
    |some xs=>EK cx s b t e λys us=>if us.contains (c.r,c.j)then .none else .iff (decide ((sub (α:=e.D) xs lo hi).length+ys.length<=E8)) (k (gone ((c.r,c.j)::us)++ownRow d v t e (sub (α:=e.D) xs lo hi++ys))) .none
    |none=>.none
   else .none
  |_=>.none
 |_=>.none
def ES:List LA->Nat->List LA->List LA
 |ls,_,[]=>ls
 |ls,j,a::as=>ES (DL ls j a) (j+1) as
def St.sure(s:St):LA->Bool
 | .sc _ _=>true
 | .C6=>true
 | .I9=>true
 | .Du _ _ _=>true
 | .fn _=>true
 | .ptr r j AB=>(s.root r).box&&(s.root r).AB==AB
 | .ref c=>match s.leaf c.r c.j with
  | .arr AB gen _ _ _ _=>AB==c.AB&&(isNil c.p||gen==c.gen)
  |_=>false
 | .D0 c _ _=>match s.leaf c.r c.j with
  | .arr AB gen _ _ _ _=>AB==c.AB&&(isNil c.p||gen==c.gen)
  |_=>false
 | .Ba c=>s.alive (.Ba c)
 |_=>false
def HU(cx:Cx)(s:St)(fs:List (Nat×TypeId)):List (Nat×Operand)->List LA->Option (List LA)
 | [],ls=>some ls
 |(i,x)::ps,ls=>match s.As x,Hl fs i with
  | .v g as,some (off,t)=>match cx.ty t with
   |some tf=>if as.length==tf.ls.n&&decide (off+tf.ls.n<=ls.length)&&(g||as.all s.sure)then HU cx s fs ps (ES ls off as)else none
   |none=>none
  |_,_=>none
def zeroOf(l:L):LA:=match l with
 | .sl _ _=>.C6
 |l=>.sc l (Kw l)
def CO(cx:Cx)(s:St)(v:Nat)(e:Ls):List (Nat×Operand)->Nat->(List e.D->List (Nat×Nat)->Step β)->Step β
 | [],_,k=>k [] []
 |(i,x)::ps,n,k=>if i==n then match s.As x with
   | .v _ as=>(if Bx e then s.data e.kinds as λvs=>match pack e vs with
     |some y=>CO cx s v e ps (n+1) λys us=>k (y::ys) us
     |none=>.none
    else s.Fo cx v e.kinds as λbs vs=>match bs.mapM λb=>match b with
      | .arr _ _ t e xs 2=>some (⟨.sl t e,xs⟩:Lv)
      | .sc l x=>if Bj l then none else some ⟨l,x⟩
      |_=>none with
     |some ws=>match pack e ws with
      |some y=>CO cx s v e ps (n+1) λys us=>if vs.all λu => !us.contains u then k (y::ys) (vs++us)else .none
      |none=>.none
     |none=>.none)
   |_=>.none
  else .none
def EE:List (L×Nat)->List LA->Bool
 | [],[]=>true
 |(l,m)::ls,a::as=>(match a with
  | .arr _ _ _ _ _ d=>d==m||(m==3&&d==2)
  | .sc _ _ => !Bj l||m==0
  |_=>false)&&EE ls as
 |_,_=>false
abbrev Tg:=Nat×Option Nat
abbrev ADk:=List Tg
def Tg.DS(a b:Tg):Bool:=a.1==b.1&&match a.2,b.2 with
 |some i,some j=>i==j
 |_,_=>true
def FW(rs:ADk)(a:Tg):Bool:=rs.any λb=>Tg.DS b a
def JI(s:St)(l:L)(d:Nat)(a:LA)(k:Lv->ADk->Step β):Step β:=match l with
 | .sl t e=>match a with
  | .ref c=>if(match s.leaf c.r c.j with
    | .arr _ _ _ _ _ dd=>dd==d&&(isNil c.p||d==2)
    |_=>false)then s.datum (.sl t e) (.ref c) λx=>k ⟨.sl t e,x⟩ [(c.r,some c.j)]else .none
  |_=>.none
 |l=>s.datum l a λx=>k ⟨l,x⟩ []
def Ed(s:St):List (L×Nat)->List LA->(List Lv->ADk->Step β)->Step β
 | [],[],k=>k [] []
 |(l,d)::ls,a::as,k=>JI s l d a λx us=>Ed s ls as λy rs=>if us.any (FW rs)then .none else k (x::y) (us++rs)
 |_,_,_=>.none
def Ai(s:St):List PM->List AV->(List Lv->ADk->Step β)->Step β
 | [],[],k=>k [] []
 | .val g ls::ps,.v g' as::vs,k=>if g==g' then s.data ls as λx=>Ai s ps vs λy rs=>k (x++y) rs else .none
 | .box ls::ps,.v false [.ptr r 0 AB]::vs,k=>
  if(s.root r).box&&(s.root r).AB==AB&&EE ls (s.root r).ls then
   s.data (ls.map (·.1)) (A5 r 0 (s.root r).ls) λx=>Ai s ps vs λy rs=>if FW rs (r,none)then .none else k (x++y) ((r,none)::rs)
  else .none
 | .row g ls::ps,.v g' as::vs,k=>if g==g' then Ed s ls as λx us=>Ai s ps vs λy rs=>if us.any (FW rs)then .none else k (x++y) (us++rs)else .none
 | .fn f::ps,.v false [.fn g]::vs,k=>if f==g then Ai s ps vs k else .none
 |_,_,_=>.none
def LA.roots:LA->It
 | .ref c=>[c.r]
 | .D0 c _ _=>[c.r]
 | .Ba c=>[c.r]
 | .ptr r _ _=>[r]
 | .I0 _ c=>[c.r]
 | .D4 _ ps qs=>ps.map (·.1)++qs.map (·.1)
 |_=>[]
def AV.roots:AV->It
 | .v _ as=>as.flatMap LA.roots
 | .Db vs=>vs.flatMap λv=>v.2.flatMap LA.roots
 | .bx as=>as.flatMap LA.roots
def Af:List PM->List AV->It
 | .val _ _::ps,v::vs=>v.roots++Af ps vs
 |_::ps,_::vs=>Af ps vs
 |_,_=>[]
def JW(d v:Nat):List (L×Nat)->List Lv->Nat->Option (List LA×List LA×List Lv)
 | [],vs,_=>some ([],[],vs)
 |(l,m)::ls,vs,j=>match vs with
  | []=>none
  |⟨l',x⟩::vs=>match JW d v ls vs (j+1)with
    |some (as,rs,left)=>match l',x with
     | .sl t e,xs=>match m with
      |0=>some (.sc (.sl t e) xs::as,.bad::rs,left)
      |m+1=>some (.ref ⟨d,j,v,v,[]⟩::as,.arr v v t e xs (m+1)::rs,left)
     |l',x=>some (.sc l' x::as,.bad::rs,left)
    |none=>none
def Dm(d v:Nat):List (Bool×List (L×Nat))->List Lv->Nat->Option (List (Bool×List LA)×List LA×List Lv)
 | [],vs,_=>some ([],[],vs)
 |(g,ls)::rs,vs,j=>match JW d v ls vs j with
  |some (as,own,vs)=>match Dm d v rs vs (j+ls.length)with
   |some (bs,own',vs)=>some ((g,as)::bs,own++own',vs)
   |none=>none
  |none=>none
def BI(v m:Nat)(x:Lv):LA:=match x with
 |⟨.sl t e,xs⟩=>match m with
  |0=>.sc (.sl t e) xs
  |m+1=>.arr v v t e xs (m+1)
 |⟨l,x⟩=>.sc l x
def AX(v:Nat):List (L×Nat)->List Lv->List LA
 |(_,m)::ls,x::xs=>BI v m x::AX v ls xs
 |_,_=>[]
def CY(a:LA)(v m:Nat)(x:Lv):LA:=match(bif m==3 then a else .bad)with
 | .arr AB _ t e _ d=>bif d==2 then(match L.cast (.sl t e) (a:=x.l) x.x with
  |some y=>.arr AB v t e y d
  |none=>BI v m x)else BI v m x
 |_=>BI v m x
def AU(s:St)(r v:Nat):Nat->List (L×Nat)->List Lv->List LA
 |j,(_,m)::ls,x::xs=>CY (s.leaf r j) v m x::AU s r v (j+1) ls xs
 |_,_,_=>[]
def putRow(s:St)(v:Nat):List (L×Nat)->List LA->List Lv->Option (List Wr)
 | [],[],_=>some []
 |(l,_)::ls,a::as,x::vs=>match putRow s v ls as vs with
  |some ws=>match l with
   | .sl _ _=>match a with
    | .ref c=>match s.leaf c.r c.j with
     | .arr AB _ t0 e0 xs0 d0=>match Jp (Nu x) c.p t0 e0 with
      |some f=>some (.leaf c.r c.j (.arr AB v t0 e0 (f xs0) d0)::ws)
      |none=>none
     |_=>none
    |_=>none
   |_=>some ws
  |none=>none
 |_,_,_=>none
def AR(s:St)(v:Nat):List PM->List AV->List Lv->Option (List Wr)
 | [],[],[]=>some []
 | .val _ _::ps,_::as,vs=>AR s v ps as vs
 | .fn _::ps,_::as,vs=>AR s v ps as vs
 | .box ls::ps,.v false [.ptr r 0 AB]::as,vs=>match AR s v ps as (vs.drop ls.length)with
  |some ws=>some (A7 r 0 (AU s r v 0 ls vs)++ws)
  |none=>none
 | .row _ ls::ps,.v _ bs::as,vs=>match putRow s v ls bs vs,AR s v ps as (vs.drop ls.length)with
  |some us,some ws=>some (us++ws)
  |_,_=>none
 |_,_,_=>none
def OE:L->Bool
 | .sl _ e=>Bx e
 |_=>true
def fresh(ls:List (L×Nat)):Bool:=ls.all λp => !Bj p.1||p.2==2||p.2==3||(p.2==1&&OE p.1)
def OL(lt:Int->Int->Option Bool)(x y:Int):Bool:=match lt x y with
 |some b=>b
 |none=>false
def Ma(lt:Int->Int->Option Bool)(xs:By):Option By:=
 bif decide (xs.length<=1)then some xs else bif decide (xs.length<=20)&&xs.all λx=>xs.all λy=>(lt x y).isSome then some (Go.Sort.insertionSort (OL lt) xs.toArray 0 xs.length).toList else none
def NR:LA->Bool
 | .arr _ _ _ _ _ _=>true
 | .sc _ _=>true
 |_=>false
def C9(s:St)(not:Nat):List (List L)->List (Nat×Nat)->(List Lv->Step β)->Step β
 | [],[],k=>k []
 |ls::bs,(r,AB)::ps,k=>if(s.root r).box&&(s.root r).AB==AB&&r != not&&(s.root r).ls.length==ls.length&&(s.root r).ls.all NR then
   s.data ls (A5 r 0 (s.root r).ls) λx=>C9 s not bs ps λy=>k (x++y)
  else .none
 |_,_,_=>.none
def Bi(s:St)(c:Loc)(qs:List (Nat×Nat)):List KB->List (Nat×Nat)->(List Lv->Step β)->Step β
 | [],[],k=>k []
 | .box ls::cs,p::ps,k=>C9 s c.r [ls] [p] λx=>Bi s c qs cs ps λy=>k (x++y)
 | .D4 g bs::cs,(r,AB)::ps,k=>match(s.root r).ls with
  | [.D4 g' ps' _]=>if(s.root r).box&&(s.root r).AB==AB&&r != c.r&&g==g'&&ps'.all λq=>qs.contains q then C9 s c.r bs ps' λx=>Bi s c qs cs ps λy=>k (x++y)else .none
  |_=>.none
 | .row::cs,(r,AB)::ps,k=>if(s.root r).box&&(s.root r).AB==AB&&r==c.r&&c.j==0&&(s.root r).ls.length==1 then Bi s c qs cs ps k else .none
 |_,_,_=>.none
def Dg(cx:Cx)(s:St)(d v:Nat)(f:FuncId)(vs:List AV)(k:List Wr->Step β):Step β:=match vs with
 | [.v false [.I0 t c],.v false [.D4 g ps qs]]=>match cx.env.Oy f g with
  |some σ=>match s.leaf c.r c.j with
   | .arr AB _ t0 (.one (.int .i64)) xs 2=>if AB==c.AB&&isNil c.p && !cx.LL c.r&&t==σ.t then Bi s c qs σ.Iw ps λx=>match pack (Ek (σ.Iw.flatMap KB.kinds)) x with
     |some y=>.Mg (Ma (σ.lt y) (show By from xs)) λzs=>k [.leaf c.r c.j (.arr AB v t0 (.one (.int .i64)) (show By from zs) 2),.slot d (.Db [])]
     |none=>.none
    else .none
   |_=>.none
  |none=>.none
 |_=>.none
def DU(s:St):List AV->Option (List (Nat×Nat))
 | []=>some []
 | .v false [.ptr r 0 AB]::vs=>if(s.root r).box&&(s.root r).AB==AB then match DU s vs with
   |some ps=>some ((r,AB)::ps)
   |none=>none
  else none
 |_::_=>none
def behind(s:St):List (Nat×Nat)->List (Nat×Nat)
 | []=>[]
 |(r,_)::ps=>(match(s.root r).ls with
  | [.D4 _ qs _]=>qs
  |_=>[])++behind s ps
def KZ(bs:List (Bool×List LA)):AV:=match bs with
 | [(g,as)]=>.v g as
 |bs=>.Db bs
def call(cx:Cx)(s:St)(d v:Nat)(f:FuncId)(vs:List AV)(k:List Wr->Step β):Step β:=match cx.env.fn f with
 |none=>Dg cx s d v f vs k
 |some g=>if g.s.mk? then Ai s g.s.ps vs λx _=>if g.s.plain&&isNil (Af g.s.ps vs)then match pack g.s.ins x with
   |none=>.none
   |some y=>.Mg (g.f y) λz=>k (F6 d v (AX v g.s.Gg (unpack g.s.outs z)))
  else .none
  else Ai s g.s.ps vs λx ws=>if(Af g.s.ps vs).all λr => !FW ws (r,none)then match pack g.s.ins x with
   |none=>.none
   |some y=>.Mg (g.f y) λz=>match Dm d v g.s.rs (unpack g.s.outs z) 0 with
    |none=>.none
    |some (bs,own,left)=>match AR s v g.s.ps vs left,(if fresh g.s.Gg then some []else Ap cx s (Af g.s.ps vs))with
     |some ws,some fs=>k (fs++ws++[.root d ⟨false,v,own⟩,.slot d (KZ bs)])
     |_,_=>.none
  else .none
def H5(cx:Cx)(s:St)(t:TypeId)(q:LA)(p:AV)(dst:Option Tmp):Step (List Wr):=match p with
 | .v false [.D4 g ps qs]=>if cx.env.Oi t then match q with
  | .ptr r j AB=>match dst with
   |none=>if(s.root r).box&&(s.root r).AB==AB&&decide (j+1<=(s.root r).ls.length)then .go [.leaf r j (.D4 g ps qs)]else .none
   |some _=>.none
  |_=>.none
 else .none
 |_=>.none
def Hf:AV->Bool
 | .v false [.C6]=>true
 |_=>false
def bytesOf(xs:By):ADZ:=xs.map λn=>UInt8.ofNat n.toNat
def AA(cx:Cx)(v:Nat)(o:Oper)(s:St):Step (List Wr):=
 let out (a:AV):Step (List Wr):=match o.dst with
  |some d=>.go [.slot d a]
  |none=>.go []
 match o.op with
 | .move x=>if Hf (s.As x)then match cx.ty o.type,o.dst with
   |some ty,some d=>if ty.agg then .none else match ty.ls with
    | .one (.sl t e)=>.go (ownRow d v t e [])
    |_=>.none
   |_,_=>.none
  else out (s.As x)
 | .assign x=>match o.dst with
  |none=>.none
  |some d=>match s.Ag x with
   | .sc l x=>.go [.slot d (one (.sc l x))]
   | .ptr r j AB=>.go [.slot d (one (.ptr r j AB))]
   | .fn f=>.go [.slot d (one (.fn f))]
   | .I9=>.go [.slot d (one .I9)]
   | .Ba c=>.go [.slot d (one (.Ba c))]
   | .Du e x off=>.go [.slot d (one (.Du e x off))]
   |a=>if cx.LL d then .none else match cx.ty o.type with
    |some ty=>match ty.ls with
     | .one l=>s.take cx v a l λb us=>match b with
      | .arr _ _ t e xs dd=>.go (gone us++[.root d ⟨false,v,[.arr v v t e xs dd]⟩,.slot d (one (.ref ⟨d,0,v,v,[]⟩))])
      |_=>.none
     |_=>.none
    |none=>.none
 | .pick c a b=>match s.Ag c with
  | .sc .bool t=>.iff t (out (s.As a)) (out (s.As b))
  |_=>.none
 | .alloc t=>match cx.ty t,o.dst with
  |some ty,some d=>.go (F6 d v (ty.ls.kinds.map (Ip v)))
  |none,some d=>if cx.env.Oi t then .go (F6 d v [.bad])else .none
  |_,_=>.none
 | .box t x=>match cx.ty t,o.dst,s.As x with
  |some ty,some d,.v g as=>if g&&L7 s as then .go [.slot d (.bx as)]else s.Fo cx v ty.ls.kinds as λbs us=>if us.all λu => !(u.1==d)then .go (gone us++F6 d v bs)else .none
  |_,_,_=>.none
 | .build t parts=>match cx.ty t with
  |some ty=>match(if ty.agg then HU cx s ty.fs parts.toList (ty.ls.kinds.map zeroOf)else none)with
   |some ls=>out (.v true ls)
   |none=>.none
  |none=>.none
 | .buildSlice t len parts=>match cx.ty t,o.dst with
  |some ty,some d=>if ty.agg then .none else match ty.ls with
   | .one (.sl t e)=>if len==parts.size&&decide (len*e.n<=16777216)then CO cx s v e parts.toList 0 (λys us=>if us.all λu => !(u.1==d)then .go (gone us++ownRow d v t e ys)else .none)else .none
   |_=>.none
  |_,_=>.none
 | .load t x=>match cx.ty t with
  |some ty=>s.E7 (s.As x) ty.ls.n λas=>if as.length==ty.ls.n then out (.v ty.agg as)else .none
  |none=>.none
 | .store t x y=>match cx.ty t,s.As y with
  |some ty,.v _ as=>match MF (s.Ag x) as with
   | []=>GA cx v s o.dst (s.Ag x) ty.ls.kinds as []
   |r::rs=>match Ap cx s (r::rs)with
    |some fs=>GA cx v (s.app fs) o.dst (s.Ag x) ty.ls.kinds as fs
    |none=>.none
  |none,p=>H5 cx s t (s.Ag x) p o.dst
  |_,_=>.none
 | .makeInterface t x=>match cx.ty t,s.Ag x with
  |some ty,.ref c=>if ty.agg then .none else match ty.ls with
   | .one (.sl _ _)=>out (one (.I0 t c))
   |_=>.none
  |_,_=>.none
 | .makeFunc (.func g) first captured=>if first.size==0 then match DU s (captured.toList.map s.As)with
   |some ps=>out (one (.D4 g ps (behind s ps)))
   |none=>.none
  else .none
 | .nilCheck x=>match s.As x with
  | .bx as=>out (.bx as)
  |a=>if s.alive a.one? then out (one a.one?)else .none
 | .binOp op tx x y _=>match s.As x,s.As y with
  | .v true as,.v true bs=>Ln cx op tx as bs λa=>out a
  |p,q=>binop (IH cx tx .bool) op y p.one? q.one? λa=>out a
 | .unOp op _ x=>match op,s.Ag x with
  | .not,.sc .bool b=>out (IB (!b))
  | .neg,.sc (.int k) n=>out (IC k (k.wrap (Nk n)))
  |_,_=>.none
 | .convert a b x=>match cx.ty a,cx.ty b,s.Ag x with
  |some ta,some ty,.sc (.int _) n=>if ty.agg then .none else match ty.ls with
   | .one (.int k)=>out (IC k (k.wrap n))
   |_=>.none
  |some ta,some ty,y=>if ta.agg||ty.agg then .none else match ta.ls,ty.ls with
   | .one (.sl t0 (.one (.int .u8))),.one .str=>if IH cx t0 (.int .u8)then s.datum (.sl t0 (.one (.int .u8))) y λxs=>out (OZ (bytesOf xs))else .none
   |_,_=>.none
  |_,_,_=>.none
 | .makeSlice t l c=>match cx.ty t,o.dst with
  |some ty,some d=>if ty.agg then .none else match ty.ls with
   | .one (.sl t e)=>asInt (s.Ag l) λn=>asInt (s.Ag c) λm=>
     .iff (decide (0<=n)&&decide (n<=(E8:Int))&&decide (m=n)) (.go (ownRow d v t e (List.replicate n.toNat (FG e)))) .none
   |_=>.none
  |_,_=>.none
 | .slice ti x lo hi none=>match s.Ag x with
  | .sc .str b=>if IH cx ti .str then DQ s lo 0 λl=>DQ s hi (List.length (α:=UInt8) b:Int) λh=>
    .iff (decide (0<=l)&&decide (l<=h)&&decide (h<=(List.length (α:=UInt8) b:Int))) (out (OZ (sub (α:=UInt8) b l.toNat h.toNat))) .none
   else .none
  | .sc (.sl t e) b=>if isRow cx ti e then DQ s lo 0 λl=>DQ s hi (List.length (α:=e.D) b:Int) λh=>
    .iff (decide (0<=l)&&decide (l<=h)&&decide (h<=(List.length (α:=e.D) b:Int))) (out (one (.sc (.sl t e) (sub (α:=e.D) b l.toNat h.toNat)))) .none
   else .none
  | .ref c=>s.content c λt e xs _=>if isRow cx ti e then DQ s lo 0 λl=>DQ s hi (xs.length:Int) λh=>
    .iff (decide (0<=l)&&decide (l<=h)&&decide (h<=(xs.length:Int))) (out (one (.D0 c l.toNat h.toNat))) .none
   else .none
  |_=>.none
 | .fieldAddr t x f=>match cx.ty t with
  |some ty=>match(if ty.agg then Hl ty.fs f else none)with
   |some (fo,ft)=>match cx.ty ft with
    |some tf=>if tf.ls.n==0 then .none else match s.As x with
     | .bx as=>out (.bx (as.drop fo))
     |a=>if !s.alive a.one? then .none else match a.one? with
     | .ptr r j AB=>out (one (.ptr r (j+fo) AB))
     | .Du e y j=>out (one (.Du e y (j+fo)))
     | .Ba c=>match Ah c.p with
      |some (q,i,off)=>out (one (.Ba { c with p:=q++[(i,off+fo)] }))
      |none=>.none
     |_=>.none
    |none=>.none
   |none=>.none
  |none=>.none
 | .field t x f=>match cx.ty t,s.As x with
  |some ty,.v true as=>match(if ty.agg then Hl ty.fs f else none)with
   |some (fo,ft)=>match cx.ty ft with
    |some tf=>if decide (fo+tf.ls.n<=as.length)then out (.v tf.agg ((as.drop fo).take tf.ls.n))else .none
    |none=>.none
   |none=>.none
  |_,_=>.none
 | .indexAddr ti x i=>asInt (s.Ag i) λn=>match s.Ag x with
  | .sc (.sl t e) xs=>if isRow cx ti e then .Mg (Iz (α:=e.D) xs n) λy=>out (one (.Du e y 0))else .none
  | .ref c=>s.content c λt e xs _=>if isRow cx ti e then .iff (OU xs n) (out (one (.Ba { c with p:=c.p++[(n.toNat,0)] }))) .none else .none
  | .D0 c lo hi=>s.content c λt e xs _=>if isRow cx ti e then .iff (OU (sub xs lo hi) n) (out (one (.Ba { c with p:=c.p++[(lo+n.toNat,0)] }))) .none else .none
  |_=>.none
 | .index ti x i=>asInt (s.Ag i) λn=>match s.Ag x with
  | .sc .str b=>if IH cx ti .str then .Mg (Iz (α:=UInt8) b n) λy=>out (IC .u8 (y.toNat:Int))else .none
  |_=>.none
 | .extract x i=>match s.As x with
  | .Db vs=>match Hl vs i with
   |some (g,as)=>out (.v g as)
   |none=>.none
  |_=>.none
 | .call c=>match c.callee with
  | .builtin .len=>match c.args.toList,c.argTypes.toList with
   | [x],[t]=>match cx.ty t with
    |some ty=>if ty.agg then .none else match ty.ls with
     | .one .str=>Nj (s.Ag x) λn=>out (IC .i64 n)
     | .one (.sl _ _)=>lenOf s (s.Ag x) λn=>out (IC .i64 n)
     |_=>.none
    |none=>.none
   |_,_=>.none
  | .builtin .append=>match c.args.toList,c.argTypes.toList,cx.ty o.type,o.dst with
   | [x,y],[t1,t2],some ty,some d=>match ty.ls with
    | .one (.sl t e)=>if t1==t2&&isRow cx t1 e then Cs cx s d v t e (s.Ag x) (s.Ag y) λws=>.go ws else .none
    |_=>.none
   |_,_,_,_=>.none
  | .builtin .min=>match c.args.toList with
   | [x,y]=>match s.Ag x,s.Ag y with
    | .sc (.int k) a,.sc (.int j) b=>out (IC k (M1 a b))
    |_,_=>.none
   |_=>.none
  | .builtin .max=>match c.args.toList with
   | [x,y]=>match s.Ag x,s.Ag y with
    | .sc (.int k) a,.sc (.int j) b=>out (IC k (M0 a b))
    |_,_=>.none
   |_=>.none
  | .value f=>match s.Ag f,o.dst with
   | .fn f,some d=>call cx s d v f (c.args.toList.map s.As) λws=>.go ws
   |_,_=>.none
  |_=>.none
 |_=>.none
end Go.Ev
namespace Go.Ev
variable {β:Type}
def number{α:Type}:Nat->List α->List (Nat×α)
 |_,[]=>[]
 |n,x::xs=>(n,x)::number (n+1) xs
inductive VP where
 |slot (s:Nat) (l:L)
 |own (s:Nat) (t:TypeId) (e:Ls) (d:Nat) (k:Bool)
 |box (r:Nat) (ls:List (Option (L×Nat)))
def VP.kinds:VP->List L
 | .slot _ l=>[l]
 | .own _ t e _ _=>[.sl t e]
 | .box _ ls=>ls.filterMap λx=>x.map (·.1)
def VP.roots:VP->It
 | .slot _ _=>[]
 | .own s _ _ _ _=>[s]
 | .box r _=>[r]
def VP.AM:VP->It
 | .slot s _=>[s]
 | .own s _ _ _ _=>[s]
 | .box _ _=>[]
def C4(ps:List VP):Ls:=Ek (ps.flatMap VP.kinds)
def Df(s:St):List (Option (L×Nat))->List LA->(List Lv->Step β)->Step β
 | [],[],k=>k []
 |none::ls,_::as,k=>Df s ls as k
 |some (l,d)::ls,a::as,k=>match a with
  | .arr AB _ t e xs d'=>if(d==0||d==d')&&(!(d==3)||AB==1)then match L.cast (a:=.sl t e) l xs with
    |some y=>Df s ls as λvs=>k (⟨l,y⟩::vs)
    |none=>.none
   else .none
  |a=>match d with
   |0=>s.datum l a λy=>Df s ls as λvs=>k (⟨l,y⟩::vs)
   |_+1=>match l with
    | .sl _ _=>.none
    |l=>s.datum l a λy=>Df s ls as λvs=>k (⟨l,y⟩::vs)
 |_,_,_=>.none
def St.still(s:St)(l:L)(a:LA):Bool:=match l with
 | .sl _ _=>match a with
  | .sc _ _=>true
  | .C6=>true
  | .ref c=>match s.leaf c.r c.j with
   | .arr _ _ _ _ _ 0=>true
   |_=>false
  | .D0 c _ _=>match s.leaf c.r c.j with
   | .arr _ _ _ _ _ 0=>true
   |_=>false
  |_=>false
 |_=>true
def Jx(s:St)(v:VP)(k:List Lv->Step β):Step β:=match v with
 | .slot t l=>if s.still l (s.slot t).one? then s.datum l (s.slot t).one? λx=>k [⟨l,x⟩]else .none
 | .own t ty e d k0=>match s.slot t,s.root t with
  | .v false [.ref c],⟨false,_,[.arr AB _ t' e' xs d']⟩=>if c.r==t&&c.j==0&&isNil c.p&&AB==c.AB&&d==d'&&(!k0||AB==1)then match L.cast (a:=.sl t' e') (.sl ty e) xs with
    |some y=>k [⟨.sl ty e,y⟩]
    |none=>.none
   else .none
  |_,_=>.none
 | .box r ls=>if(s.root r).box then Df s ls (s.root r).ls k else .none
def Kj(s:St):List VP->(List Lv->Step β)->Step β
 | [],k=>k []
 |v::vs,k=>Jx s v λx=>Kj s vs λy=>k (x++y)
def Am(ps:List VP)(s:St):Option (C4 ps).D:=(Kj s ps .go).run (pack (C4 ps))
def FB(v:Nat)(k:Bool):Nat:=match k with
 |true=>1
 |false=>v
def Bu(v d:Nat)(k:Bool)(x:Lv):LA:=match BI v d x with
 | .arr _ g t e xs d=>.arr (FB v k) g t e xs d
 |a=>a
def AO(v:Nat):List (Option (L×Nat))->List Lv->List LA
 | [],_=>[]
 |none::ls,vs=>.bad::AO v ls vs
 |some (l,d)::ls,x::vs=>Bu v d (d==3) x::AO v ls vs
 |some _::ls,[]=>.bad::AO v ls []
def B8(v:Nat)(s:St):List VP->List Lv->List Wr
 | [],_=>[]
 | .slot t _::ps,x::vs=>.slot t (one (.sc x.l x.x))::B8 v s ps vs
 | .own t ty e d k::ps,x::vs=>.root t ⟨false,v,[Bu v d k x]⟩::.slot t (one (.ref ⟨t,0,FB v k,v,[]⟩))::B8 v s ps vs
 | .box r ls::ps,vs=>.root r ⟨true,(s.root r).AB,AO v ls vs⟩::B8 v s ps (vs.drop (ls.filterMap id).length)
 |_,[]=>[]
def LA.clean(ms ch:Nat->Bool)(a:LA):LA:=match a with
 | .ref c=>if ch c.r then .bad else .ref c
 | .D0 c lo hi=>if ch c.r then .bad else .D0 c lo hi
 | .Ba c=>if ch c.r then .bad else .Ba c
 | .ptr r j AB=>if ms r then .bad else .ptr r j AB
 | .I0 t c=>if ch c.r then .bad else .I0 t c
 | .D4 g ps qs=>if ps.any λp=>ms p.1 then .bad else .D4 g ps qs
 |a=>a
def AV.clean(ms ch:Nat->Bool):AV->AV
 | .v g as=>.v g (as.map (LA.clean ms ch))
 | .Db _=>one .bad
 | .bx _=>one .bad
def KN{α γ:Type}(f:Nat->α->γ):Nat->List α->List γ
 |_,[]=>[]
 |n,x::xs=>f n x::KN f (n+1) xs
def base(ms:It)(ps:List VP)(s:St):St:=
 {sl:=KN (λt x=>if has ms t then one .bad else x.clean (λr=>has ms r||has (ps.flatMap VP.AM) r) λr=>has ms r||has (ps.flatMap VP.roots) r) 0 s.sl
  ro:=KN (λr x=>if has ms r then dead else x) 0 s.ro
  Bd:=s.Bd+1 }
def Bk(ms:It)(ps:List VP)(s:St)(x:(C4 ps).D):St:=(base ms ps s).app (B8 s.Bd s ps (unpack (C4 ps) x))
def Cx.in(cx:Cx)(ms:It)(ps:List VP):Cx:=
 { cx with lock:=λr=>cx.lock r || !(has ms r||has (ps.flatMap VP.roots) r),Ew:=λt=>cx.Ew t || !(has ms t||has (ps.flatMap VP.AM) t) }
def distinct:It->Bool
 | []=>true
 |x::xs => !has xs x&&distinct xs
def Cb(cx:Cx)(ms:It)(ps:List VP):Bool:=distinct (ps.flatMap VP.roots)&&distinct (ps.flatMap VP.AM)&&ps.all λp=>match p with
 | .slot s _ => !cx.Ew s
 | .own s _ _ _ _ => !cx.lock s && !cx.Ew s && !cx.LL s
 | .box r _ => !has ms r && !cx.lock r && !has (ps.flatMap VP.AM) r
structure An where
 Oj:Nat->Option (List VP)
 blk:Nat->Option (List VP×Bool)
 O3:Nat->Option (List VP×Bool)
 pre:Nat->It
def Gf:List (Nat×Oper)->It
 | []=>[]
 |(_,o)::r=>match o.dst with
  |some d=>d::Gf r
  |none=>Gf r
def Bz:Code->It
 | .region _ ops _=>Gf (number 0 ops.toList)
 | .seq a b=>Bz a++Bz b
 | .cond _ a b=>Bz a++Bz b
 | .block _ c=>Bz c
 | .loop c=>Bz c
 |_=>[]
def Fz:Code->Nat
 | .region id _ _=>id
 | .seq a _=>Fz a
 | .block _ c=>Fz c
 | .loop c=>Fz c
 |_=>0
def Ni:Code->Nat
 | .seq a _=>3*Fz a+3
 | .block id _=>3*id+4
 | .cond _ x y=>3*(match Fz x with
  |0=>Fz y
  |n+1=>n+1)+5
 |_=>0
def mask(t:Nat):Nat:=2 ^ t
def J0(r:Nat):Nat:=2 ^ (4*r+1)
def LB(r:Nat):Nat:=2 ^ (4*r+3)
def AV.mask(a:AV):Nat:=a.roots.foldr (λr m=>Nat.lor (J0 r) (Nat.lor (LB r) m)) 0
def BM(ops:Array Oper)(o:Oper):Nat:=match o.guard with
 |some (g,_)=>match(ops[g]?).bind (·.dst)with
  |some t=>2 ^ (2*t)
  |none=>0
 |none=>0
def Ax(ops:Array Oper)(o:Oper)(s:St):Nat:=match o.op with
 | .move (.tmp t)=>Nat.lor (2 ^ (2*t)) (BM ops o)
 | .extract (.tmp t) _=>Nat.lor (2 ^ (2*t)) (BM ops o)
 | .field _ (.tmp t) _=>Nat.lor (2 ^ (2*t)) (BM ops o)
 | .load _ (.tmp t)=>Nat.lor (2 ^ (2*t)) (Nat.lor (match s.slot t with
  | .v _ [.ptr r _ _]=>J0 r
  |a=>a.mask) (BM ops o))
 | .fieldAddr _ (.tmp t) _=>Nat.lor (2 ^ (2*t)) (Nat.lor (match s.slot t with
  | .v _ [.ptr r _ _]=>J0 r
  |a=>a.mask) (BM ops o))
 |_=>o.op.operands.toList.foldr (λx m=>match x with
  | .tmp t=>Nat.lor (2 ^ (2*t)) (Nat.lor (s.slot t).mask m)
  |_=>m) (BM ops o)
def Wr.mask:Wr->Nat
 | .slot t _=>2 ^ (2*t)
 | .root r _=>Nat.lor (J0 r) (LB r)
 | .leaf r _ _=>Nat.lor (J0 r) (LB r)
def AD(ws:List Wr):Nat:=ws.foldr (λw m=>Nat.lor w.mask m) 0
def bit(m i:Nat):Bool:=m.testBit i
def Ei:List Oper->It->It
 | [],acc=>acc
 |o::r,acc=>Ei r (acc++[o.after.toList.foldr (λe m=>if Region.binds .any e then Nat.lor (2 ^ e.on) (Nat.lor (nth 0 acc e.on) m)else m) 0])
def indep(b rm wm:Nat):Nat->List (Nat×Nat)->Bool
 |_,[]=>true
 |j,(r,w)::lg=>(bit b j||(Nat.land w (Nat.lor rm wm)==0&&Nat.land r wm==0))&&indep b rm wm (j+1) lg
def LA.AF:LA->It
 | .ref c=>[c.AB,c.gen]
 | .D0 c _ _=>[c.AB,c.gen]
 | .Ba c=>[c.AB,c.gen]
 | .ptr _ _ AB=>[AB]
 | .I0 _ c=>[c.AB,c.gen]
 | .D4 _ ps _=>ps.map (·.2)
 | .arr AB gen _ _ _ _=>[AB,gen]
 |_=>[]
def AV.AF:AV->It
 | .v _ as=>as.flatMap LA.AF
 | .Db vs=>vs.flatMap λv=>v.2.flatMap LA.AF
 | .bx as=>as.flatMap LA.AF
def Bv.AF(r:Bv):It:=r.AB::r.ls.flatMap LA.AF
def Wr.AF:Wr->It
 | .slot _ a=>a.AF
 | .root _ x=>x.AF
 | .leaf _ _ a=>a.AF
def LA.Ce:LA->Bool
 | .ref _=>false
 | .D0 _ _ _=>false
 | .Ba _=>false
 | .I0 _ _=>false
 |_=>true
def Wr.ok(cx:Cx)(dst:Option Nat):Wr->Bool
 | .slot t _=>match dst with
  |some d=>t==d
  |none=>false
 | .root r x => !cx.lock r&&x.ls.all LA.Ce&&match dst with
  |some d=>r==d
  |none=>false
 | .leaf r _ a => !cx.lock r&&a.Ce
def JB(cx:Cx)(dst:Option Nat)(v0 v b:Nat)(ws:List Wr):Bool:=
 ws.all λw=>w.ok cx dst&&w.AF.all λn=>decide (n<v0)||n==v||(decide (v0<=n)&&bit b (n-v0))
def Cg(dst:Option Nat):List Wr:=match dst with
 |some d=>[.slot d (one .undef)]
 |none=>[]
structure Rg where
 ops:Array Oper
 v0:Nat
 draw:Bool
def EG{R:Type}(cx:Cx)(g:Rg):List (Nat×Oper)->It->List (Nat×Nat)->St->(St->Option R)->Option R
 | [],_,_,s,k=>k s
 |(i,o)::r,bs,lg,s,k=>
  let b:=nth 0 bs i
  let rm:=Ax g.ops o s
  let exec (s:St):Option R:=(AA cx (g.v0+i) o s).run λws=>
   if JB cx o.dst g.v0 (g.v0+i) b ws&&(!g.draw||indep b rm (AD ws) 0 lg)then EG cx g r bs (lg++[(rm,AD ws)]) (s.app ws) k else none
  let skip (s:St):Option R:=if !g.draw||indep b rm (AD (Cg o.dst)) 0 lg then EG cx g r bs (lg++[(rm,AD (Cg o.dst))]) (s.app (Cg o.dst)) k else none
  match o.guard with
  |none=>exec s
  |some (j,want)=>match(g.ops[j]?).bind (·.dst)with
   |none=>none
   |some t=>match s.slot t with
    | .v false [.undef]=>skip s
    | .v false [.sc .bool c]=>match want with
     |true=>bif c then exec (s.AG (.slot t (IB true)))else skip (s.AG (.slot t (IB false)))
     |false=>bif c then skip (s.AG (.slot t (IB true)))else exec (s.AG (.slot t (IB false)))
    |_=>none
def I4(os:List Oper):List VP:=match os.getLast? with
 |some o=>match o.dst with
  |some d=>[.slot d .bool]
  |none=>[]
 |none=>[]
def EZ{R:Type}(cx:Cx)(an:An)(id:Nat)(ops:Array Oper)(draw:Bool)(s:St)(k:St->Option R):Option R:=
 let os:=number 0 ops.toList
 let g:Rg:=⟨ops,s.Bd,draw⟩
 let bs:=Ei ops.toList []
 if ops.toList.all λo=>match o.guard with
  |none=>true
  |some _=>false
 then EG cx g os bs [] s λs'=>k { s' with Bd:=s.Bd+ops.size }
 else
  let ps:=match an.Oj id with
   |some p=>p
   |none=>I4 ops.toList
  let ms:=Gf os
  if Cb cx ms ps then(EG (cx.in ms ps) g os bs [] s (Am ps)).bind λx=>k (Bk ms ps s x)else none
def HQ{R:Type}(cx:Cx)(an:An)(id:Nat)(ops:Array Oper)(draw:Bool)(s:St)(k:St->Option R):Option R:=match an.pre id with
 | []=>EZ cx an id ops draw s k
 |r::rs=>if(r::rs).all λr => !cx.lock r then match Ap cx s (r::rs)with
   |some fs=>EZ cx an id ops draw (s.app fs) k
   |none=>none
  else none
def iter{α γ:Type}:Nat->(α->Option (α⊕γ))->α->Option γ
 |0,_,_=>none
 |n+1,f,x=>(f x).bind λy=>match y with
  | .inl x=>iter n f x
  | .inr z=>some z
def ev(an:An)(n:Nat){RD:Type}(rp:St->Option RD):Code->{R:Type}->Cx->St->(St->Option R)->(Nat->St->Option R)->(RD->Option R)->Option R
 | .skip,_,cx,s,kn,kx,kr=>kn s
 | .region id ops draw,_,cx,s,kn,kx,kr=>HQ cx an id ops draw s kn
 | .seq a b,_,cx,s,kn,kx,kr=>match an.O3 (Ni a)with
  |none=>ev an n rp a cx s (λs=>ev an n rp b cx s kn kx kr) kx kr
  |some (ps,rets)=>
   let ms:=Bz a
   if Cb cx ms ps then match rets with
    |false=>(ev an n rp a (R:=(C4 ps).D) (cx.in ms ps) s (Am ps) (λ_ _=>none) (λ_=>none)).bind λx=>ev an n rp b cx (Bk ms ps s x) kn kx kr
    |true=>(ev an n rp a (R:=(C4 ps).D⊕RD) (cx.in ms ps) s (λs=>(Am ps s).bind λx=>some (.inl x)) (λ_ _=>none) (λr=>some (.inr r))).bind λq=>match q with
     | .inl x=>ev an n rp b cx (Bk ms ps s x) kn kx kr
     | .inr r=>kr r
   else none
 | .cond c x y,_,cx,s,kn,kx,kr=>match s.Ag c with
  | .sc .bool b=>bif b then ev an n rp x cx s kn kx kr else ev an n rp y cx s kn kx kr
  |_=>none
 | .block id c,_,cx,s,kn,kx,kr=>match an.blk id with
  |none=>ev an n rp c cx s kn (λi s=>if i==id then kn s else kx i s) kr
  |some (ps,rets)=>match c with
   | .loop c=>
    let ms:=Bz c
    if Cb cx ms ps then match rets with
     |false=>(Am ps s).bind λx0=>(iter (α:=(C4 ps).D) (γ:=(C4 ps).D) n (λx=>ev an n rp c (cx.in ms ps) (Bk ms ps s x)
        (λs=>(Am ps s).bind λx=>some (.inl x)) (λi s=>if i==id then(Am ps s).bind λx=>some (.inr x)else none) (λ_=>none)) x0).bind λx=>
       kn (Bk ms ps s x)
     |true=>(Am ps s).bind λx0=>(iter (α:=(C4 ps).D) (γ:=(C4 ps).D⊕RD) n (λx=>ev an n rp c (cx.in ms ps) (Bk ms ps s x)
        (λs=>(Am ps s).bind λx=>some (.inl x)) (λi s=>if i==id then(Am ps s).bind λx=>some (.inr (.inl x))else none) (λr=>some (.inr (.inr r)))) x0).bind λq=>match q with
       | .inl x=>kn (Bk ms ps s x)
       | .inr r=>kr r
    else none
   |_=>none
 | .exit id,_,cx,s,kn,kx,kr=>kx id s
 | .ret,_,cx,s,kn,kx,kr=>(rp s).bind kr
 |_,_,_,_,_,_,_=>none
def Dt:Nat->List Oper->Bool
 |_,[]=>true
 |i,o::r=>o.after.toList.all (λe => !Region.binds .any e||decide (e.on<i))&&Dt (i+1) r
def codeOk(n:Nat):Code->Bool
 | .region _ ops _=>Dt 0 ops.toList&&ops.toList.all λo=>match o.dst with
  |some d=>decide (d<n)
  |none=>true
 | .seq a b=>codeOk n a&&codeOk n b
 | .cond _ a b=>codeOk n a&&codeOk n b
 | .block _ c=>codeOk n c
 | .loop c=>codeOk n c
 |_=>true
def Az(i:Nat):Nat->List (L×Nat)->List Lv->List LA
 |j,(l,_)::ls,x::vs=>(match l with
  | .sl _ _=>LA.ref ⟨i,j,1,1,[]⟩
  |_=>.sc x.l x.x)::Az i (j+1) ls vs
 |_,_,_=>[]
def C1:Nat->List PM->List Lv->Option (List Wr)
 |_,[],[]=>some []
 |_,[],_::_=>none
 |i,.val g ls::ps,vs=>match C1 (i+1) ps (vs.drop ls.length)with
  |some ws=>some (.slot i (.v g ((vs.take ls.length).map λx=>.sc x.l x.x))::ws)
  |none=>none
 |i,.box ls::ps,vs=>match C1 (i+1) ps (vs.drop ls.length)with
  |some ws=>some (.root i ⟨true,1,AX 1 ls vs⟩::.slot i (one (.ptr i 0 1))::ws)
  |none=>none
 |i,.row g ls::ps,vs=>match C1 (i+1) ps (vs.drop ls.length)with
  |some ws=>some (.root i ⟨false,1,AX 1 ls vs⟩::.slot i (.v g (Az i 0 ls vs))::ws)
  |none=>none
 |i,.fn f::ps,vs=>match C1 (i+1) ps vs with
  |some ws=>some (.slot i (one (.fn f))::ws)
  |none=>none
def blank(n:Nat):St:={sl:=List.replicate n (one .bad),ro:=List.replicate n dead,Bd:=2 }
def FN(s:St)(us:List (Nat×Nat))(l:L)(m:Nat)(a:LA)(k:Lv->List (Nat×Nat)->Step β):Step β:=match l with
 | .sl t e=>match m with
  |0=>if s.still (.sl t e) a then s.datum (.sl t e) a λx=>k ⟨.sl t e,x⟩ us else .none
  |m+1=>match a with
   | .C6=>k ⟨.sl t e,([]:List e.D)⟩ us
   | .ref c=>match s.leaf c.r c.j with
    | .arr AB _ t' e' xs d=>if AB==c.AB&&isNil c.p&&d==m+1 && !us.contains (c.r,c.j)then match L.cast (a:=.sl t' e') (.sl t e) xs with
      |some y=>k ⟨.sl t e,y⟩ ((c.r,c.j)::us)
      |none=>.none
     else .none
    |_=>.none
   | .D0 c lo hi=>match s.leaf c.r c.j with
    | .arr AB _ t' e' xs d=>if AB==c.AB&&isNil c.p&&d==m+1 && !us.contains (c.r,c.j)then match L.cast (a:=.sl t' e') (.sl t e) (sub xs lo hi)with
      |some y=>k ⟨.sl t e,y⟩ ((c.r,c.j)::us)
      |none=>.none
     else .none
    |_=>.none
   |_=>.none
 |l=>s.datum l a λx=>k ⟨l,x⟩ us
def CI(s:St):List (L×Nat)->List LA->List (Nat×Nat)->(List Lv->List (Nat×Nat)->Step β)->Step β
 | [],[],us,k=>k [] us
 |(l,m)::ls,a::as,us,k=>FN s us l m a λx us=>CI s ls as us λxs us=>k (x::xs) us
 |_,_,_,_=>.none
def Dq(ty:TypeId->Option Ty)(s:St):List (Bool×List (L×Nat))->List ResultVar->List (Nat×Nat)->(List Lv->List (Nat×Nat)->Step β)->Step β
 | [],[],us,k=>k [] us
 |(g,ls)::rs,.tmp t::vs,us,k=>match s.slot t with
  | .v g' as=>if g==g' then CI s ls as us λxs us=>Dq ty s rs vs us λys us=>k (xs++ys) us else .none
  |_=>.none
 |(g,ls)::rs,.cell t T::vs,us,k=>match ty T,s.slot t with
  |some y,.v false [.ptr r 0 AB]=>if y.agg==g&&y.ls.n==ls.length then s.C2 (.ptr r 0 AB) ls.length λas=>if as.length==ls.length then CI s ls as us λxs us=>Dq ty s rs vs us λys us=>k (xs++ys) us else .none else .none
  |_,_=>.none
 |_,_,_,_=>.none
def EX(s:St)(i:Nat):Nat->List (L×Nat)->List Lv->List (Nat×Nat)->(List Lv->List (Nat×Nat)->Step β)->Step β
 |_,[],_,us,k=>k [] us
 |_,_::_,[],_,_=>.none
 |j,(l,d)::ls,x::vs,us,k=>match l with
  | .sl t e=>FN s us (.sl t e) d (match s.leaf i j with
    | .arr 1 gen _ _ _ _=>.ref ⟨i,j,1,gen,[]⟩
    |_=>.bad) λy us=>EX s i (j+1) ls vs us λys us=>k (y::ys) us
  |_=>EX s i (j+1) ls vs us λys us=>k (x::ys) us
def I3(s:St)(i:Nat):Nat->List (L×Nat)->Bool
 |_,[]=>true
 |j,(_,m)::ls=>(bif m==3 then(match s.leaf i j with
  | .arr AB _ _ _ _ _=>AB==1
  |_=>false)else true)&&I3 s i (j+1) ls
def Ct(s:St):Nat->List PM->List Lv->List (Nat×Nat)->(List Lv->Step β)->Step β
 |_,[],_,_,k=>k []
 |i,.box ls::ps,vs,us,k=>if(s.root i).box&&(s.root i).AB==1&&(s.root i).ls.length==ls.length&&I3 s i 0 ls then s.C2 (.ptr i 0 1) ls.length λas=>CI s ls as us λxs us=>Ct s (i+1) ps (vs.drop ls.length) us λys=>k (xs++ys)else .none
 |i,.row _ ls::ps,vs,us,k=>EX s i 0 ls vs us λxs us=>Ct s (i+1) ps (vs.drop ls.length) us λys=>k (xs++ys)
 |i,.val _ ls::ps,vs,us,k=>Ct s (i+1) ps (vs.drop ls.length) us k
 |i,.fn _::ps,vs,us,k=>Ct s (i+1) ps vs us k
def DD:List L->List LA->Option (List Lv)
 | [],[]=>some []
 |l::ls,.sc m x::as=>match L.cast l (a:=m) x,DD ls as with
  |some y,some vs=>some (⟨l,y⟩::vs)
  |_,_=>none
 |_,_=>none
def NS(sm:Sm)(rv:List ResultVar)(s:St):Option sm.outs.D:=match rv with
 | [.tmp t]=>match s.slot t with
  | .v false [.ptr r 0 AB]=>if sm.plain&&(s.root r).box&&(s.root r).AB==AB then match DD (sm.Gg.map (·.1)) (s.root r).ls with
    |some vs=>pack sm.outs vs
    |none=>none
   else none
  |_=>none
 |_=>none
def KP(s:St):List (L×Nat)->List LA->It
 |(l,m)::ls,a::as=>(if Bj l&&m==0 && !s.still l a then match a with
   | .ref c=>[c.r]
   | .D0 c _ _=>[c.r]
   |_=>[]
  else [])++KP s ls as
 |_,_=>[]
def MT(s:St):List (Bool×List (L×Nat))->List ResultVar->It
 |(_,ls)::rs,.tmp t::vs=>(match s.slot t with
  | .v _ as=>KP s ls as
  |_=>[])++MT s rs vs
 |(_,ls)::rs,.cell t _::vs=>(match s.slot t with
  | .v false [.ptr r 0 _]=>KP s ls (A5 r 0 (s.root r).ls)
  |_=>[])++MT s rs vs
 |_,_=>[]
def Hw(ty:TypeId->Option Ty)(sm:Sm)(rv:List ResultVar)(vs:List Lv)(s:St):Option sm.outs.D:=
 (Dq ty s sm.rs rv [] λxs us=>Ct s 0 sm.ps vs us λys=>.go (xs++ys)).run (pack sm.outs)
def O2:Cx:={ty:=λ_=>none,env:=⟨λ_=>none,λ_ _=>none,λ_=>false⟩,lock:=λ_=>false,Ew:=λ_=>false,LL:=λ_=>false }
def DF(ty:TypeId->Option Ty)(sm:Sm)(rv:List ResultVar)(vs:List Lv)(s:St):Option sm.outs.D:=if sm.mk? then NS sm rv s else
 match Ap O2 s (MT s sm.rs rv)with
 |some fs=>Hw ty sm rv vs (s.app fs)
 |none=>none
def Lx(ty:TypeId->Option Ty)(env:Env)(an:An)(n:Nat)(fn:Func)(sm:Sm)(x:sm.ins.D):Option sm.outs.D:=
 match fn.body,C1 0 sm.ps (unpack sm.ins x)with
 |some c,some ws=>if !codeOk fn.ntmps c then none else ev an n (DF ty sm fn.results.toList (unpack sm.ins x)) c {ty:=ty,env:=env,lock:=λ_=>false,Ew:=λ_=>false,LL:=λ_=>false } ((blank fn.ntmps).app ws) (DF ty sm fn.results.toList (unpack sm.ins x)) (λ_ _=>none) some
 |_,_=>none
end Go.Ev
namespace Go.Ev
theorem Ae{α:Type}(d:α):∀(l:List α)(n:Nat),nth d l n=(l[n]?).getD d
 | [],n=>by simp[nth]
 |x::xs,0=>by simp[nth]
 |x::xs,n+1=>by simp[nth,Ae d xs n]
theorem CF{α:Type}:∀(l:List α)(n:Nat)(y:α),(DL l n y).length=l.length
 | [],_,_=>rfl
 |_::xs,0,_=>rfl
 |_::xs,n+1,y=>by simp[DL,CF xs n y]
theorem CG{α:Type}:∀(l:List α)(n:Nat)(y:α),DL l n y=l.set n y
 | [],_,_=>rfl
 |_::xs,0,_=>rfl
 |x::xs,n+1,y=>by simp[DL,CG xs n y]
theorem BX{α:Type}(d:α)(l:List α)(n m:Nat)(y:α):nth d (DL l n y) m=if n=m/\n<l.length then y else nth d l m:=by rw[Ae,Ae,CG,List.getElem?_set];grind
theorem Au{α:Type}(d:α){l:List α}{n:Nat}(h:l.length<=n):nth d l n=d:=by rw[Ae];grind
structure Ci where
 base:Nat
 io:Nat->Prop
 fa:Nat->Prop
 w0:World
 N2:Nat->Nat->Option Value
 Ou:Nat->Nat
 NI:List (String×Array Value)
def at_(a:Addr)(k:Nat):Addr:=⟨a.block,a.off+k,none⟩
def JK(w:World):List (Nat×Nat)->Ls->Value->Ls->Value->Prop
 | [],e,h,e',v=>e'=e/\v=h
 |(i,j)::p,e,h,e',v=>∃a len c t f h',h=.slice (some a) len c/\a.spot=none/\i<len/\e.kinds[j]?=some (.sl t f)/\w.cell? (at_ a (i*e.n+j))=some h'/\JK w p f h' e' v
inductive Key where
 |blk (r:Nat)
 |lf (r j:Nat)
 |fl (k:Nat)
 deriving DecidableEq
structure Wd where
 w:World
 fz:Nat->Prop
 cv:Nat->Nat->Option Value
 bk:Nat->Nat
 om:Key->It
def AT(s:St)(W:Wd):LA->Value->Prop
 | .bad,_=>True
 | .undef,v=>v=Go.undef
 | .C6,v=>v=.slice none 0 0
 | .I9,v=>v=.pointer none
 | .sc l x,v=>l.rd 0 W.w W.fz v x []
 | .ref c,v=>∀gen t e xs d,s.leaf c.r c.j=.arr c.AB gen t e xs d->(c.p=[]\/gen=c.gen)->∃h e',W.cv c.r c.j=some h/\JK W.w c.p e h e' v
 | .D0 c lo hi,v=>∀gen t e xs d,s.leaf c.r c.j=.arr c.AB gen t e xs d->(c.p=[]\/gen=c.gen)->∃h e' A n k,W.cv c.r c.j=some h/\JK W.w c.p e h e' (.slice A n k)/\
   lo<=hi/\hi<=n/\v=.slice (if k=lo then A else A.map (·.add (lo*e'.n))) (hi-lo) (k-lo)
 | .ptr r j AB,v=>(s.root r).box=true->(s.root r).AB=AB->v=.pointer (some ⟨W.bk r,j,none⟩)
 | .Ba c,v=>∀gen t e xs d,s.leaf c.r c.j=.arr c.AB gen t e xs d->(c.p.length<=1\/gen=c.gen)->∃q i off h e' a n k,Ah c.p=some (q,i,off)/\W.cv c.r c.j=some h/\
   JK W.w q e h e' (.slice (some a) n k)/\a.spot=none/\i<n/\v=.pointer (some (at_ a (i*e'.n+off)))
 | .Du e x off,v=>∃(a:Addr) (g:Nat->Option Value) (arr:Array Value) (T:TypeId) (fr:Nat×Nat),v=.pointer (some (at_ a off))/\W.fz a.block/\W.w.heap[a.block]?=some (.cells arr T fr)/\
   (∀j,g j=arr[a.off+j]?)/\e.rd 0 W.w W.fz g x []
 | .fn f,v=>v=.func (.func f) #[] #[]
 | .I0 t c,v=>∃u,v=.iface t u/\∀gen t e xs d,s.leaf c.r c.j=.arr c.AB gen t e xs d->(c.p=[]\/gen=c.gen)->∃h e',W.cv c.r c.j=some h/\JK W.w c.p e h e' u
 | .D4 g ps _,v=>∃bs:It,v=.func (.func g) #[] (bs.map λb=>Value.pointer (some ⟨b,0,none⟩)).toArray/\bs.length=ps.length/\∀(k:Nat)(p:Nat×Nat)(b:Nat),ps[k]?=some p->bs[k]?=some b->(s.root p.1).box=true->(s.root p.1).AB=p.2->b=W.bk p.1
 | .arr ..,_=>False
def Ez(s:St)(W:Wd)(g:Bool)(as:List LA)(v:Value):Prop:=match g with
 |false=>match as with
  | [a]=>AT s W a v
  |_=>False
 |true=>∃cs:Array Value,v=.agg cs/\cs.size=as.length/\∀(j:Nat)(a:LA),as[j]?=some a->∃u,cs[j]?=some u/\AT s W a u
def BQ(s:St)(W:Wd):AV->Value->Prop
 | .v g as,v=>Ez s W g as v
 | .Db vs,v=>∃us:Array Value,v=.tuple us/\us.size=vs.length/\∀(j:Nat)(p:Bool×List LA),vs[j]?=some p->∃u,us[j]?=some u/\Ez s W p.1 p.2 u
 | .bx as,v=>∃(b off:Nat) (arr:Array Value) (T:TypeId) (fr:Nat×Nat),v=.pointer (some ⟨b,off,none⟩)/\W.fz b/\W.w.heap[b]?=some (.cells arr T fr)/\(∀j,j<arr.size->¬(fr.1<=j/\j<fr.2))/\∀(j:Nat)(a:LA),as[j]?=some a->∃u,arr[off+j]?=some u/\AT s W a u
def Aa(s:St)(W:Wd)(a:LA)(v?:Option Value)(o:It):Prop:=match a with
 | .arr _ _ t e xs d=>∃v,v?=some v/\AE e d W.w W.fz v xs o
 |a=>o=[]/\∀v,v?=some v->AT s W a v
def D7(s:St)(W:Wd)(r:Nat)(x:Bv):Prop:=
 (∀j,Aa s W (nth .bad x.ls j) (W.cv r j) (W.om (.lf r j)))/\
 (if x.box then W.om (.blk r)=[W.bk r]/\∃arr T fr,W.w.heap[W.bk r]?=some (.cells arr T fr)/\(∀j,j<arr.size->¬(fr.1<=j/\j<fr.2))/\arr.size=x.ls.length/\∀j,W.cv r j=arr[j]?
  else W.om (.blk r)=[])
structure Sep(E:Ci)(W:Wd):Prop where
 nodup:∀k,(W.om k).Nodup
 A4:∀k k',k≠k'->∀b∈W.om k,b∉W.om k'
 own:∀k,∀b∈W.om k,¬W.fz b/\b<W.w.heap.size/\(E.base<=b\/E.io b)
 fz:∀b,W.fz b->b<W.w.heap.size/\(E.fa b\/E.base<=b\/E.io b)
 frame:∀b,b<E.base->¬E.io b->W.w.heap[b]?=E.w0.heap[b]?
 size:E.base<=W.w.heap.size
 rest:W.w.os=E.w0.os/\W.w.tape=E.w0.tape/\W.w.output=E.w0.output
structure AW(E:Ci)(s:St)(tm:Array Value)(W:Wd):Prop where
 DT:s.sl.length=tm.size
 Bb:s.ro.length=tm.size
 AM:∀t,BQ s W (s.slot t) (tm.getD t Go.undef)
 roots:∀r,D7 s W r (s.root r)
 sep:Sep E W
 init:(∀(r j gen:Nat)(t:TypeId)(e:Ls)(xs:List e.D)(d:Nat),s.leaf r j=.arr 1 gen t e xs d->W.cv r j=E.N2 r j)/\∀r,(s.root r).box=true->(s.root r).AB=1->W.bk r=E.Ou r
theorem Ls.JG:∀(e:Ls)(j:Nat) {d:Nat} {w:World} {fz:Nat->Prop} {g:Nat->Option Value} {x:e.D} {o:It} {t:TypeId} {f:Ls},
  e.rd d w fz g x o->e.kinds[j]?=some (.sl t f)->∃(h:Value) (ys:List f.D) (o':It),g j=some h/\AE f d w fz h ys o'/\∀b∈o',b∈o
 | .nil,j,_,_,_,_,_,_,_,_,_,hk=>by simp[Ls.kinds]at hk
 | .one l,j,d,w,fz,g,x,o,t,f,h,hk=>by
  simp only[Ls.rd]at h;obtain⟨v,hg,h⟩:=h;cases j with
  |zero=>simp[Ls.kinds]at hk;subst hk;exact⟨v,x,o,hg,h,λb hb=>hb⟩
  |succ j=>simp[Ls.kinds]at hk
 | .cons l ls,j,d,w,fz,g,x,o,t,f,h,hk=>by
  simp only[Ls.rd]at h;obtain⟨v,o1,o2,hg,h1,h2,rfl⟩:=h;cases j with
  |zero=>simp[Ls.kinds]at hk;subst hk;exact⟨v,x.1,o1,hg,h1,λb hb=>AAY _ hb⟩
  |succ j=>
   simp only[Ls.kinds,AA6]at hk;obtain⟨h',ys,o',a,b,c⟩:=Ls.JG ls j h2 hk;grind
theorem Row.cell{w:World}{a:Addr}{n:Nat}{own:Bool}{g:Nat->Option Value}(h:Row w a n own g)(j:Nat):w.cell? (at_ a j)=g j:=by obtain⟨hs,arr,T,fr,hh,hn,hb,hg⟩:=h;simp[World.cell?,at_,hh,hg]
theorem ME{w:World}:∀(p:List (Nat×Nat)) {e:Ls} {d:Nat} {fz:Nat->Prop} {h:Value} {xs:List e.D} {o:It} {e':Ls} {v:Value},
  AE e d w fz h xs o->JK w p e h e' v->∃(d':Nat) (ys:List e'.D) (o':It),AE e' d' w fz v ys o'/\∀b∈o',b∈o
 | [],e,d,fz,h,xs,o,e',v,hr,hn=>by obtain⟨rfl,rfl⟩:=hn;grind
 |(i,j)::p,e,d,fz,h,xs,o,e',v,hr,hn=>by
  obtain⟨a,len,c,t',f,h',rfl,hs,hi,hk,hc,hn⟩:=hn;obtain⟨A,c',hv,hle,hr⟩:=hr;injection hv with hA hl yk
  subst hA;have zc:i<xs.length:=hl▸hi;rcases hr with hr|⟨g,os,yE,yS,ho⟩
  ·have:=hr.2.1;omega
  obtain⟨h2,ys,o',hg,yD,yu⟩:=Ls.JG e j (yS i zc) hk
  have:h2=h':=by have:=yE.cell (i*e.n+j);rw[this,hg]at hc;exact Option.some.inj hc
  subst this;obtain⟨d2,zs,o2,hz,hs2⟩:=ME p yD hn;grind
theorem BN{w w':World}:∀(p:List (Nat×Nat)) {e:Ls} {d:Nat} {fz:Nat->Prop} {h:Value} {xs:List e.D} {o:It} {e':Ls} {v:Value},
  AE e d w fz h xs o->JK w p e h e' v->(∀b,b∈o\/fz b->w'.heap[b]?=w.heap[b]?)->JK w' p e h e' v
 | [],e,d,fz,h,xs,o,e',v,hr,hn,hf=>hn
 |(i,j)::p,e,d,fz,h,xs,o,e',v,hr,hn,hf=>by
  obtain⟨a,len,c,t',f,h',rfl,hs,hi,hk,hc,hn⟩:=hn;obtain⟨A,c',hv,hle,hr⟩:=hr;injection hv with hA hl yk
  subst hA;have zc:i<xs.length:=hl▸hi;rcases hr with hr|⟨g,os,yE,yS,ho⟩
  ·have:=hr.2.1;omega
  obtain⟨h2,ys,o',hg,yD,yu⟩:=Ls.JG e j (yS i zc) hk
  have yR:a.block∈o\/fz a.block:=by
   revert ho
   cases decide (0<d)with
   |true=>intro ho;left;rw[ho];simp
   |false=>intro ho;exact .inr ho.1
  have:h2=h':=by have:=yE.cell (i*e.n+j);rw[this,hg]at hc;exact Option.some.inj hc
  subst this;refine⟨a,len,c,t',f,h2,rfl,hs,hi,hk,?_,BN p yD hn λb hb=>hf b ?_⟩
  ·rw[(yE.frame (hf _ yR)).cell,hg]
  grind
section
variable {E:Ci}{s s':St}{tm:Array Value}{W:Wd}{w':World}
theorem D7.row{r:Nat}(h:D7 s W r (s.root r)){j AB gen:Nat}{t:TypeId}{e:Ls}{xs:List e.D}{d:Nat}(hl:s.leaf r j=.arr AB gen t e xs d):
  ∃v,W.cv r j=some v/\AE e d W.w W.fz v xs (W.om (.lf r j)):=by
 have:=h.1 j;unfold St.leaf at hl;rw[hl]at this;exact this
def Still(W:Wd)(w':World):Prop:=∀b,(W.fz b\/∃k,b∈W.om k)->w'.heap[b]?=W.w.heap[b]?
theorem AT.world(hr:∀r,D7 s W r (s.root r))(hf:Still W w'){a:LA}{v:Value}(h:AT s W a v):AT s { W with w:=w' } a v:=by
 cases a with
 |bad=>trivial
 |undef=>exact h
 |C6=>exact h
 |I9=>exact h
 |sc l x=>exact L.AN l h (λb hb=>hf b (hb.elim (λhb=>by cases hb) .inl)) λb hb=>hb
 |ref c=>
  intro gen t e xs d hl hp;obtain⟨h',e',hc,hn⟩:=h gen t e xs d hl hp;obtain⟨u,hu,yD⟩:=(hr c.r).row hl;have:u=h':=Option.some.inj (hu.symm.trans hc);subst this;exact⟨u,e',hc,BN _ yD hn λb hb=>hf b (hb.elim (λhb=>.inr ⟨_,hb⟩) .inl)⟩
 |D0 c lo hi=>
  intro gen t e xs d hl hp;obtain⟨h',e',A,n,k,hc,hn,rest⟩:=h gen t e xs d hl hp;obtain⟨u,hu,yD⟩:=(hr c.r).row hl;have:u=h':=Option.some.inj (hu.symm.trans hc);subst this;exact⟨u,e',A,n,k,hc,BN _ yD hn λb hb=>hf b (hb.elim (λhb=>.inr ⟨_,hb⟩) .inl),rest⟩
 |ptr r j AB=>exact h
 |Ba c=>
  intro gen t e xs d hl hp;obtain⟨q,i,off,h',e',a,n,k,hs,hc,hn,rest⟩:=h gen t e xs d hl hp;obtain⟨u,hu,yD⟩:=(hr c.r).row hl;have:u=h':=Option.some.inj (hu.symm.trans hc);subst this;exact⟨q,i,off,u,e',a,n,k,hs,hc,BN _ yD hn λb hb=>hf b (hb.elim (λhb=>.inr ⟨_,hb⟩) .inl),rest⟩
 |Du e x off=>
  obtain⟨a,g,arr,T,fr,hv,hz,hh,hg,yD⟩:=h;exact⟨a,g,arr,T,fr,hv,hz,(hf _ (.inl hz)).trans hh,hg,Ls.AN e yD (λb hb=>hf b (hb.elim (λhb=>by cases hb) .inl)) λb hb=>hb⟩
 |fn f=>exact h
 |I0 t c=>
  obtain⟨u,hv,h⟩:=h;refine⟨u,hv,λgen t e xs d hl hp=>?_⟩;obtain⟨h',e',hc,hn⟩:=h gen t e xs d hl hp;obtain⟨u',hu,yD⟩:=(hr c.r).row hl;have:u'=h':=Option.some.inj (hu.symm.trans hc);subst this;exact⟨u',e',hc,BN _ yD hn λb hb=>hf b (hb.elim (λhb=>.inr ⟨_,hb⟩) .inl)⟩
 |D4 g ps qs=>exact h
 |arr=>exact h
theorem Ez.map{s s':St}{W W':Wd}(f:∀a v,AT s W a v->AT s' W' a v){g:Bool}{as:List LA}{v:Value}(h:Ez s W g as v):Ez s' W' g as v:=by unfold Ez at *;grind
theorem BQ.map{s s':St}{W W':Wd}(hz:∀b,W.fz b->W'.fz b/\W'.w.heap[b]?=W.w.heap[b]?)(f:∀a v,AT s W a v->AT s' W' a v){a:AV}{v:Value}(h:BQ s W a v):BQ s' W' a v:=by
 cases a with
 |v g as=>exact Ez.map f h
 |Db vs=>
  obtain⟨us,hv,hs,h⟩:=h;exact⟨us,hv,hs,λj p hp=>let ⟨u,hu,hl⟩:=h j p hp;⟨u,hu,Ez.map f hl⟩⟩
 |bx as=>
  obtain⟨b,off,arr,T,fr,hv,h1,h2,h3,h⟩:=h;exact⟨b,off,arr,T,fr,hv,(hz b h1).1,(hz b h1).2.trans h2,h3,λj a ha=>let ⟨u,hu,hl⟩:=h j a ha;⟨u,hu,f _ _ hl⟩⟩
theorem Aa.map{s s':St}{W W':Wd}(f:∀a v,AT s W a v->AT s' W' a v){a:LA}{v?:Option Value}{o:It}
  (g:∀(e:Ls)(d:Nat)(xs:List e.D)(v:Value),AE e d W.w W.fz v xs o->AE e d W'.w W'.fz v xs o) (h:Aa s W a v? o):Aa s' W' a v? o:=by
 unfold Aa at *;grind
theorem AW.world(h:AW E s tm W)(hf:Still W w')(hb:∀b,b<E.base->¬E.io b->w'.heap[b]?=W.w.heap[b]?)(hs:W.w.heap.size<=w'.heap.size)(ho:w'.os=W.w.os/\w'.tape=W.w.tape/\w'.output=W.w.output):AW E s tm { W with w:=w' } where
 DT:=h.DT
 Bb:=h.Bb
 AM t:=BQ.map (W:=W) (W':={ W with w:=w' }) (λb hb=>⟨hb,hf b (.inl hb)⟩) (λ_ _=>AT.world h.roots hf) (h.AM t)
 roots r:=by
  obtain⟨h1,h2⟩:=h.roots r;refine⟨λj=>(h1 j).map (λ_ _=>AT.world h.roots hf) λe d xs v yD=>yD.frame (λb hb=>hf b (hb.elim (λhb=>.inr ⟨_,hb⟩) .inl)) λb hb=>hb,?_⟩;split
  ·rename_i hbx;rw[AAS hbx]at h2;obtain⟨ho,arr,T,fr,hh,rest⟩:=h2;exact⟨ho,arr,T,fr,(hf _ (.inr ⟨.blk r,by rw[ho];simp⟩)).trans hh,rest⟩
  grind
 sep:={
  nodup:=h.sep.nodup
  A4:=h.sep.A4
  own:=λk b hb=>let ⟨a,c,d⟩:=h.sep.own k b hb;⟨a,AA9 c hs,d⟩
  fz:=λb yH=>let ⟨a,c⟩:=h.sep.fz b yH;⟨AA9 a hs,c⟩
  frame:=λb zg hb2=>(hb b zg hb2).trans (h.sep.frame b zg hb2)
  size:=AA5 h.sep.size hs
  rest:=⟨ho.1.trans h.sep.rest.1,ho.2.1.trans h.sep.rest.2.1,ho.2.2.trans h.sep.rest.2.2⟩ }
 init:=h.init
theorem AW.J7(h:AW E s tm W)(hf:∀b,b<W.w.heap.size->w'.heap[b]?=W.w.heap[b]?):Still W w':=by
 intro b hb;rcases hb with hb|⟨k,hb⟩
 ·exact hf b (h.sep.fz b hb).1
 ·exact hf b (h.sep.own k b hb).2.1
end
end Go.Ev
namespace Go.Ev
def LA.B3:LA->Bool
 | .arr _ _ _ _ _ _=>true
 |_=>false
def Aj(s:St)(v:Nat):Prop:=(∀t,v∉(s.slot t).AF)/\(∀r j,(s.leaf r j).B3=true\/v∉(s.leaf r j).AF)/\1<v
structure Eh(v:Nat)(s s':St)(W W':Wd):Prop where
 fz:∀b,W.fz b->W'.fz b
 Lf:∀b,W.fz b->W'.w.heap[b]?=W.w.heap[b]?
 leaf:∀r j AB gen t e xs d,s'.leaf r j=.arr AB gen t e xs d->AB≠v->W'.cv r j=W.cv r j/\
  ∃gen0 t0 xs0 d0,s.leaf r j=.arr AB gen0 t0 e xs0 d0/\(gen≠v->gen=gen0/\∀p h e' u,W.cv r j=some h->JK W.w p e h e' u->JK W'.w p e h e' u)
 box:∀r,(s'.root r).box=true->(s'.root r).AB≠v->(s.root r).box=true/\(s.root r).AB=(s'.root r).AB/\W'.bk r=W.bk r
section
variable {v:Nat}{E:Ci}{s s':St}{tm tm':Array Value}{W W':Wd}
theorem CR:∀ {p q:List (Nat×Nat)} {i off:Nat},Ah p=some (q,i,off)->p=q++[(i,off)]
 | [],_,_,_,h=>by simp[Ah]at h
 | [x],q,i,off,h=>by simp[Ah]at h;grind
 |x::y::r,q,i,off,h=>by
  simp only[Ah]at h;split at h
  ·rename_i q' i' off' hq;injection h with h
   injection h with h1 h2
   injection h2 with h2 h3
   subst h1;subst h2;subst h3;rw[CR hq];rfl
  ·cases h
theorem AT.Dh(h:Eh v s s' W W'){a:LA}{u:Value}(hv:v∉a.AF)(ha:AT s W a u):AT s' W' a u:=by
 cases a with
 |bad=>trivial
 |undef=>exact ha
 |C6=>exact ha
 |I9=>exact ha
 |sc l x=>exact L.AN l ha (λb hb=>h.Lf b (hb.elim (λhb=>by cases hb) id)) h.fz
 |ref c=>
  intro gen t e xs d hl hp;have yF:c.AB≠v/\c.gen≠v:=by simp[LA.AF]at hv;exact⟨λe=>hv.1 e.symm,λe=>hv.2 e.symm⟩
  obtain⟨hc,gen0,t0,xs0,d0,zQ,hg⟩:=h.leaf _ _ _ _ _ _ _ _ hl yF.1;by_cases hn:c.p=[]
  ·obtain⟨h',e',yk,hn'⟩:=ha _ _ _ _ _ zQ (.inl hn);rw[hn]at hn';exact⟨h',e',hc.trans yk,by rw[hn];exact hn'⟩
  ·have yx:gen=c.gen:=hp.resolve_left hn;obtain⟨rfl,hnav⟩:=hg (by rw[yx];exact yF.2);obtain⟨h',e',yk,hn'⟩:=ha _ _ _ _ _ zQ (.inr yx);grind
 |D0 c lo hi=>
  intro gen t e xs d hl hp;have yF:c.AB≠v/\c.gen≠v:=by simp[LA.AF]at hv;exact⟨λe=>hv.1 e.symm,λe=>hv.2 e.symm⟩
  obtain⟨hc,gen0,t0,xs0,d0,zQ,hg⟩:=h.leaf _ _ _ _ _ _ _ _ hl yF.1;by_cases hn:c.p=[]
  ·obtain⟨h',e',A,n,k,yk,hn',rest⟩:=ha _ _ _ _ _ zQ (.inl hn);rw[hn]at hn';exact⟨h',e',A,n,k,hc.trans yk,by rw[hn];exact hn',rest⟩
  ·have yx:gen=c.gen:=hp.resolve_left hn;obtain⟨rfl,hnav⟩:=hg (by rw[yx];exact yF.2);obtain⟨h',e',A,n,k,yk,hn',rest⟩:=ha _ _ _ _ _ zQ (.inr yx);grind
 |ptr r j AB=>
  intro hb yB;have yF:AB≠v:=by simp[LA.AF]at hv;exactλe=>hv e.symm
  obtain⟨b1,b2,b3⟩:=h.box r hb J;rw[b3];exact ha b1 (b2.trans yB)
 |Ba c=>
  intro gen t e xs d hl hp;have yF:c.AB≠v/\c.gen≠v:=by simp[LA.AF]at hv;exact⟨λe=>hv.1 e.symm,λe=>hv.2 e.symm⟩
  obtain⟨hc,gen0,t0,xs0,d0,zQ,hg⟩:=h.leaf _ _ _ _ _ _ _ _ hl yF.1;by_cases hn:c.p.length<=1
  ·obtain⟨q,i,off,h',e',a,n,k,hs,yk,hn',rest⟩:=ha _ _ _ _ _ zQ (.inl hn)
   have hq:q=[]:=by have h1:=CR hs;rw[h1,ABE]at hn;simpa using hn
   subst hq;exact⟨[],i,off,h',e',a,n,k,hs,hc.trans yk,hn',rest⟩
  ·have yx:gen=c.gen:=hp.resolve_left hn;obtain⟨rfl,hnav⟩:=hg (by rw[yx];exact yF.2);obtain⟨q,i,off,h',e',a,n,k,hs,yk,hn',rest⟩:=ha _ _ _ _ _ zQ (.inr yx);grind
 |Du e x off=>
  obtain⟨a,g,arr,T,fr,zy,hz,hh,hg,yD⟩:=ha;exact⟨a,g,arr,T,fr,zy,h.fz _ hz,(h.Lf _ hz).trans hh,hg,Ls.AN e yD (λb hb=>h.Lf b (hb.elim (λhb=>by cases hb) id)) h.fz⟩
 |fn f=>exact ha
 |I0 tt c=>
  obtain⟨u',zy,ha⟩:=ha;refine⟨u',zy,λgen t e xs d hl hp=>?_⟩;have yF:c.AB≠v/\c.gen≠v:=by simp[LA.AF]at hv;exact⟨λe=>hv.1 e.symm,λe=>hv.2 e.symm⟩
  obtain⟨hc,gen0,t0,xs0,d0,zQ,hg⟩:=h.leaf _ _ _ _ _ _ _ _ hl yF.1;by_cases hn:c.p=[]
  ·obtain⟨h',e',yk,hn'⟩:=ha _ _ _ _ _ zQ (.inl hn);rw[hn]at hn';exact⟨h',e',hc.trans yk,by rw[hn];exact hn'⟩
  grind
 |D4 g ps qs=>
  obtain⟨bs,hu,hlen,hk⟩:=ha;refine⟨bs,hu,hlen,λk p b hp hb h1 h2=>?_⟩;have yF:p.2≠v:=λe=>hv (by simp only[LA.AF];exact AAw.2 ⟨p,AAR hp,e⟩);obtain⟨b1,b2,b3⟩:=h.box p.1 h1 (by rw[h2];exact yF);grind
 |arr=>exact ha
theorem Ez.Dh(h:Eh v s s' W W'){g:Bool}{as:List LA}{u:Value}(hv:∀a∈as,v∉a.AF)(ha:Ez s W g as u):Ez s' W' g as u:=by
 unfold Ez at *;cases g with
 |false=>cases as with
  |nil=>exact ha
  |cons a as=>cases as with
   |nil=>exact AT.Dh h (hv a so) ha
   |cons=>exact ha
 |true=>
  obtain⟨cs,hc,hs,ha⟩:=ha;exact⟨cs,hc,hs,λj a hj=>let ⟨u,hu,hl⟩:=ha j a hj;⟨u,hu,AT.Dh h (hv a (AAR hj)) hl⟩⟩
theorem BQ.Dh(h:Eh v s s' W W'){a:AV}{u:Value}(hv:v∉a.AF)(ha:BQ s W a u):BQ s' W' a u:=by
 cases a with
 |v g as=>exact Ez.Dh h (λa hm hx=>hv (AAP.2 ⟨a,hm,hx⟩)) ha
 |Db vs=>
  obtain⟨us,hu,hs,ha⟩:=ha;refine⟨us,hu,hs,λj p hp=>?_⟩;obtain⟨u,hu,hl⟩:=ha j p hp;exact⟨u,hu,Ez.Dh h (λa hm hx=>hv (AAP.2 ⟨p,AAR hp,AAP.2 ⟨a,hm,hx⟩⟩)) hl⟩
 |bx as=>
  obtain⟨b,off,arr,T,fr,hu,h1,h2,h3,ha⟩:=ha;refine⟨b,off,arr,T,fr,hu,h.fz b h1,(h.Lf b h1).trans h2,h3,λj a hj=>?_⟩;obtain⟨u,hu,hl⟩:=ha j a hj;exact⟨u,hu,AT.Dh h (λhx=>hv (AAP.2 ⟨a,AAR hj,hx⟩)) hl⟩
theorem Ki{α:Type}{d:α}{l:List α}{n:Nat}(h:n<l.length):nth d l n∈l:=by rw[Ae,AAM h];simp
theorem Aa.Dh(h:Eh v s s' W W'){a:LA}{v?:Option Value}{o:It}(hv:a.B3=true\/v∉a.AF)(ho:∀b∈o,W'.w.heap[b]?=W.w.heap[b]?)(ha:Aa s W a v? o):Aa s' W' a v? o:=by
 unfold Aa at *;cases a with
 |arr AB gen t e xs d=>
  obtain⟨u,hu,hr⟩:=ha;exact⟨u,hu,hr.frame (λb hb=>hb.elim (ho b) (h.Lf b)) h.fz⟩
 |_=>exact⟨ha.1,λu hu=>AT.Dh h (hv.resolve_left (by simp[LA.B3])) (ha.2 u hu)⟩
theorem Sep.IG(h:Sep E W)(ch:Key->Prop)(zi:W'.fz=W.fz)(yP:W.w.heap.size<=W'.w.heap.size)
  (yw:∀b,b<E.base->¬E.io b->W'.w.heap[b]?=W.w.heap[b]?) (ho:W'.w.os=W.w.os/\W'.w.tape=W.w.tape/\W'.w.output=W.w.output)
  (yA:∀k,¬ch k->W'.om k=W.om k) (zG:∀k,ch k->(W'.om k).Nodup) (yv:∀k k',ch k->ch k'->k≠k'->∀b∈W'.om k,b∉W'.om k')
  (zC:∀k,ch k->∀b∈W'.om k,(∃k0,ch k0/\b∈W.om k0)\/(W.w.heap.size<=b/\b<W'.w.heap.size)):Sep E W' where
 nodup k:=by
  by_cases hk:ch k
  ·grind
  ·rw[yA k hk];exact h.nodup k
 A4 k k' yF b hb yH:=by
  by_cases hk:ch k<;>by_cases zJ:ch k'
  ·grind
  ·rw[yA k' zJ]at yH;rcases zC k hk b hb with⟨k0,hk0,h0⟩|⟨h0,_⟩
   ·exact h.A4 k0 k' (λe=>zJ (e▸hk0)) b h0 yH
   ·have:=(h.own k' b yH).2.1;omega
  ·rw[yA k hk]at hb;rcases zC k' zJ b yH with⟨k0,hk0,h0⟩|⟨h0,_⟩
   ·exact h.A4 k0 k (λe=>hk (e▸hk0)) b h0 hb
   ·have:=(h.own k b hb).2.1;omega
  ·rw[yA k hk]at hb;rw[yA k' zJ]at yH;exact h.A4 k k' yF b hb yH
 own k b hb:=by
  rw[zi];by_cases hk:ch k
  ·rcases zC k hk b hb with⟨k0,_,h0⟩|⟨h0,h1⟩
   ·obtain⟨a,c,d⟩:=h.own k0 b h0;grind
   ·exact⟨λhz=>by have:=(h.fz b hz).1;omega,h1,.inl (by have:=h.size;omega)⟩
  ·rw[yA k hk]at hb;obtain⟨a,c,d⟩:=h.own k b hb;grind
 fz b hb:=by rw[zi]at hb;obtain⟨a,c⟩:=h.fz b hb;grind
 frame b h1 h2:=(yw b h1 h2).trans (h.frame b h1 h2)
 size:=AA5 h.size yP
 rest:=⟨ho.1.trans h.rest.1,ho.2.1.trans h.rest.2.1,ho.2.2.trans h.rest.2.2⟩
theorem AW.IG(h:AW E s tm W)(hv:Aj s v)(ht:Eh v s s' W W')(zu:Sep E W')(l1:s'.sl.length=tm'.size)(l2:s'.ro.length=tm'.size)
  (hs:∀t,(s'.slot t=s.slot t/\tm'.getD t Go.undef=tm.getD t Go.undef)\/BQ s' W' (s'.slot t) (tm'.getD t Go.undef))
  (hr:∀r,D7 s' W' r (s'.root r)):AW E s' tm' W' where
 DT:=l1
 Bb:=l2
 AM t:=by
  rcases hs t with⟨a,b⟩|a
  ·rw[a,b];exact BQ.Dh ht (hv.1 t) (h.AM t)
  ·exact a
 roots:=hr
 sep:=zu
 init:=by
  have h1:1≠v:=Nat.ne_of_lt hv.2.2;refine⟨λr j gen t e xs d hl=>?_,λr hb yB=>?_⟩
  ·obtain⟨hc,gen0,t0,xs0,d0,zQ,_⟩:=ht.leaf r j 1 gen t e xs d hl h1;exact hc.trans (h.init.1 _ _ _ _ _ _ _ zQ)
  ·obtain⟨b1,b2,b3⟩:=ht.box r hb J;exact b3.trans (h.init.2 r b1 (b2.trans yB))
end
end Go.Ev
namespace Go.Ev
def B4:L->Value
 | .int k=>.int k 0
 | .bool=>.bool false
 | .str=>.string .empty
 | .sl _ _=>.slice none 0 0
structure NV(P:Program)(t:TypeId)(e:Ls):Prop where
 info:∃i,P.info? t=some i/\i.size=e.n/\i.bytes<=1024/\∃z,i.zero=some z/\z.cells=(e.kinds.map B4).toArray
 pos:0<e.n
def GF(P:Program)(t:TypeId):L->Prop
 | .int k=>P.underlying t=some (.int k)
 | .bool=>P.underlying t=some .bool
 | .str=>P.underlying t=some .string
 | .sl t' e=>P.underlying t=some (.slice t')/\NV P t' e
def Iq(P:Program)(t:TypeId):L->Prop
 | .int k=>P.underlying t=some (.int k)
 | .bool=>P.underlying t=some .bool
 | .str=>P.underlying t=some .string
 | .sl _ _=>False
def Gh(P:Program):Nat->List Field->List L->Prop
 |_,[],[]=>True
 | n, f :: fs, l :: ls => f.name ≠ "_" /\ f.offset = n /\ Iq P f.type l /\ Gh P (n + 1) fs ls
 |_,_,_=>False
structure Oq(P:Program)(t:TypeId)(ls:List L):Prop where
 held:P.stoodInHeld t=false
 guard:P.eqGuardType P.depth t=false
 fields:∃fs:Array Field,P.underlying t=some (.struct fs)/\Gh P 0 fs.toList ls
structure NN(P:Program)(t:TypeId)(ty:Ty):Prop where
 info:∃i,P.info? t=some i/\i.size=ty.ls.n/\∃z,i.zero=some z/\z.cells=(ty.ls.kinds.map B4).toArray/\(z=.agg (ty.ls.kinds.map B4).toArray\/ty.agg=false)
 agg:ty.agg=true->∃fs:Array Field,P.underlying t=some (.struct fs)/\fs.toList.map (λf=>(f.offset,f.type))=ty.fs/\∃pl,fs.toList.mapM (λf=>(P.info? f.type).map λi=>(f.offset,i.size))=some pl
 lone:ty.agg=false->∃l,ty.ls=.one l/\GF P t l
 eqs:ty.eq=true->Oq P t ty.ls.kinds
def N9(P:Program)(t:TypeId):Prop:=∃i z c,P.info? t=some i/\i.size=1/\i.zero=some z/\z.cells = #[c]/\c.oneCell'=true
def Lg(P:Program)(env:Env):Prop:=∀t,env.Oi t=true->N9 P t
def Di(P:Program)(cx:Cx):Prop:=∀t ty,cx.ty t=some ty->NN P t ty
theorem GF.JA{P:Program}{t:TypeId}{l:L}(h:GF P t l):∃d,P.underlying t=some d/\(match d with | .struct _ | .array _ _=>true|_=>false)=false:=by
 cases l with
 |int k=>exact⟨_,h,rfl⟩
 |bool=>exact⟨_,h,rfl⟩
 |str=>exact⟨_,h,rfl⟩
 |sl t' e=>exact⟨_,h.1,rfl⟩
def BU(P:Program)(E:Ci)(o:Oper)(a:Act)(w:World)(s':St):Prop:=
 ∀(next:Act->World->Prop)(Q:Exit->Act->World->Prop),(∀a' W',a'.defers=a.defers->AW E s' a'.tmps W'->next a' W'.w)->o.wp P a w next Q
section
variable {P:Program}{E:Ci}{s:St}{tm:Array Value}{W:Wd}{o:Oper}{a:Act}
theorem BF(s:St)(d:Nat)(x:AV)(t:Nat):(s.AG (.slot d x)).slot t=if d=t/\d<s.sl.length then x else s.slot t:=BX _ _ _ _ _
theorem Aq(s:St)(d:Nat)(x:Bv)(t:Nat):(s.AG (.root d x)).root t=if d=t/\d<s.ro.length then x else s.root t:=BX _ _ _ _ _
theorem AW.slot(h:AW E s tm W)(d:Nat){x:AV}{u:Value}(hx:BQ s W x u):AW E (s.AG (.slot d x)) (tm.setIfInBounds d u) W where
 DT:=by simp[St.AG,CF,h.DT]
 Bb:=by simp[St.AG,h.Bb]
 AM t:=by
  rw[BF];by_cases hd:d=t/\d<s.sl.length
  ·obtain⟨rfl,xz⟩:=hd;rw[AAS ⟨rfl,xz⟩]
   have:(tm.setIfInBounds d u).getD d Go.undef=u:=by rw[h.DT]at xz;simp[AAz,xz]
   rw[this];exact hx
  ·rw[AAT hd]
   have:(tm.setIfInBounds d u).getD t Go.undef=tm.getD t Go.undef:=by
    by_cases hdt:d=t
    ·have:¬d<tm.size:=λhl=>hd ⟨hdt,by rw[h.DT];exact hl⟩;grind
    ·simp[AAz,hdt]
   rw[this];exact h.AM t
 roots r:=h.roots r
 sep:=h.sep
 init:=h.init
theorem AW.outs(h:AW E s tm W)(dst:Option Nat){x:AV}{u:Value}(hx:BQ s W x u):
  AW E (s.app (match dst with|some d=>[.slot d x]|none=>[])) (match dst with|some d=>tm.setIfInBounds d u|none=>tm) W:=by
 cases dst with
 |none=>exact h
 |some d=>exact h.slot d hx
theorem BE(v:Value):AT s W (ofConst v) v:=by
 cases v with
 |int k n=>exact⟨rfl,rfl⟩
 |bool b=>exact⟨rfl,rfl⟩
 |string b=>exact⟨so,rfl⟩
 |slice A n c=>
  cases A with
  |none=>cases n with
   |zero=>cases c with
    |zero=>exact rfl
    |succ c=>trivial
   |succ n=>trivial
  |some a=>trivial
 |pointer A=>cases A with
  |none=>exact rfl
  |some a=>trivial
 |_=>trivial
theorem BK(h:AW E s a.tmps W)(x:Operand):BQ s W (s.As x) (a.eval x):=by
 cases x with
 |tmp t=>exact h.AM t
 |const v=>
  cases v with
  |agg cs=>
   refine⟨cs,rfl,so,λj b hj=>?_⟩;simp only[AAe]at hj;cases hc:cs.toList[j]? with
   |none=>grind
   |some u=>
    rw[hc]at hj;injection hj with hj;subst hj
    exact⟨u,No,BE u⟩
  |bool b=>exact BE (s:=s) (W:=W) (.bool b)
  |int k n=>exact BE (s:=s) (W:=W) (.int k n)
  |float k n=>exact BE (s:=s) (W:=W) (.float k n)
  |complex k x y=>exact BE (s:=s) (W:=W) (.complex k x y)
  |string b=>exact BE (s:=s) (W:=W) (.string b)
  |pointer b=>exact BE (s:=s) (W:=W) (.pointer b)
  |slice b n c=>exact BE (s:=s) (W:=W) (.slice b n c)
  |map r=>exact BE (s:=s) (W:=W) (.map r)
  |chan r=>exact BE (s:=s) (W:=W) (.chan r)
  |func f x y=>exact BE (s:=s) (W:=W) (.func f x y)
  |nilFunc=>exact BE (s:=s) (W:=W) .nilFunc
  |iface t x=>exact BE (s:=s) (W:=W) (.iface t x)
  |nilIface=>exact BE (s:=s) (W:=W) .nilIface
  |tuple vs=>exact BE (s:=s) (W:=W) (.tuple vs)
 |global g=>exact trivial
 |func f=>exact rfl
theorem Ad(h:AW E s a.tmps W)(x:Operand):AT s W (s.Ag x) (a.eval x):=by
 have:=BK h x;unfold St.Ag
 revert this
 cases s.As x with
 |Db vs=>intro _;trivial
 |bx as=>intro _;trivial
 |v g as=>
  cases g with
  |true=>intro _;cases as with
   |nil=>trivial
   |cons b bs=>cases bs<;>trivial
  |false=>cases as with
   |nil=>intro _;trivial
   |cons b bs=>cases bs with
    |nil=>intro h;exact h
    |cons=>intro _;trivial
theorem KJ(h:AW E s a.tmps W){u:Value}{x:AV}(yK:(execOp a.eval o).run P W.w=.ok (.value u) W.w)(hx:BQ s W x u):
  BU P E o a W.w (s.app (match o.dst with|some d=>[.slot d x]|none=>[])):=by
 intro next Q hn
 unfold Oper.wp;rw[yK];show next (a.put o.dst u) W.w
 refine hn _ W ?_ ?_
 ·cases o.dst<;>rfl
 ·have:=h.outs o.dst hx;cases hd:o.dst with
  |none=>rw[hd]at this;exact this
  |some d=>rw[hd]at this;exact this
theorem IntKind.HD{i j:IntKind}(h:(IntKind.code i==IntKind.code j)=true):i=j:=IntKind.EC ADh
theorem BY(k:IntKind)(n:Int):BQ s W (IC k n) (.int k n):=⟨rfl,rfl⟩
theorem Cf(b:Bool):BQ s W (IB b) (.bool b):=⟨rfl,rfl⟩
theorem KX(b:ADZ):BQ s W (OZ b) (.string ⟨b.toArray⟩):=⟨rfl,rfl⟩
theorem Lb{cx:Cx}(hc:Di P cx){t:TypeId}(h:IH cx t .bool=true):P.underlying t=some .bool:=by
 unfold IH at h;split at h
 ·rename_i ty ht;simp at h;obtain⟨l,hl,hf⟩:=(hc t ty ht).lone h.1;rw[hl]at h;have:=h.2;simp only[Ls.eq?]at this;obtain rfl:=L.Dd this;exact hf
 ·cases h
variable {T:Type}{β:Type}
theorem Al{b:Bool}{x y:Step β}{t:β}(h:(Step.iff b x y).leads t):(b=true/\x.leads t)\/(b=false/\y.leads t):=by
 cases b
 ·exact .inr ⟨rfl,h⟩
 ·exact .inl ⟨rfl,h⟩
theorem Mo{op:BinOp}{y:Operand}{i:IntKind}{m n:Int}{k:AV->Step β}{t:β}(hz:isZero y=false->n≠0)(h:(Lu op y i m n k).leads t)(tx:TypeId)(x:Operand)(w:World):
  ∃z r,(k z).leads t/\BQ s W z r/\(do eqGuard op tx x y (.int i m) (.int i n);binOp op tx (.int i m) (.int i n):Sem Value).run P w=.ok r w:=by
 cases op<;>simp only[Lu]at h
 case add=>exact⟨_,_,h,BY _ _,by simp[eqGuard,binOp,Op.intArith]⟩
 case sub=>exact⟨_,_,h,BY _ _,by simp[eqGuard,binOp,Op.intArith]⟩
 case mul=>exact⟨_,_,h,BY _ _,by simp[eqGuard,binOp,Op.intArith]⟩
 case quo=>
  have h0:n≠0/\(k (IC i (i.wrap (Int.tdiv m n)))).leads t:=by
   split at h
   ·rcases Al h with⟨_,h⟩|⟨hb,h⟩
    ·exact h.elim
    grind
   ·grind
  exact⟨_,_,h0.2,BY _ _,by simp[eqGuard,binOp,Op.intDiv,h0.1]⟩
 case rem=>
  have h0:n≠0/\(k (IC i (Int.tmod m n))).leads t:=by
   split at h
   ·rcases Al h with⟨_,h⟩|⟨hb,h⟩
    ·exact h.elim
    grind
   ·grind
  exact⟨_,_,h0.2,BY _ _,by simp[eqGuard,binOp,Op.intDiv,h0.1]⟩
 case eql=>exact⟨_,_,h,Cf _,by simp[eqGuard,binOp,Op.intCmp]⟩
 case neq=>exact⟨_,_,h,Cf _,by simp[eqGuard,binOp,Op.intCmp]⟩
 case lss=>exact⟨_,_,h,Cf _,by simp[eqGuard,binOp,Op.intCmp]⟩
 case leq=>exact⟨_,_,h,Cf _,by simp[eqGuard,binOp,Op.intCmp]⟩
 case gtr=>exact⟨_,_,h,Cf _,by simp[eqGuard,binOp,Op.intCmp]⟩
 case geq=>exact⟨_,_,h,Cf _,by simp[eqGuard,binOp,Op.intCmp]⟩
 case and=>exact⟨_,_,h,BY _ _,by simp[eqGuard,binOp,Op.intBits,OA]⟩
 case or=>exact⟨_,_,h,BY _ _,by simp[eqGuard,binOp,Op.intBits,Ox]⟩
 case xor=>exact⟨_,_,h,BY _ _,by simp[eqGuard,binOp,Op.intBits,OQ]⟩
 case shl=>
  rcases Al h with⟨hb,h⟩|⟨_,h⟩
  ·have hb:¬n<0:=by have:=AAx hb;omega
   exact⟨_,_,h,BY _ _,by simp[eqGuard,binOp,Op.shift,Ny,hb]⟩
  ·exact h.elim
 case shr=>
  rcases Al h with⟨hb,h⟩|⟨_,h⟩
  ·have hb:¬n<0:=by have:=AAx hb;omega
   exact⟨_,_,h,BY _ _,by simp[eqGuard,binOp,Op.shift,Nz,hb]⟩
  ·exact h.elim
 all_goals exact h.elim
theorem MZ{op:BinOp}(hs:Gp op=true){y:Operand}{i j:IntKind}{m n:Int}{k:AV->Step β}{t:β}(h:(Lu op y i m n k).leads t)(tx:TypeId)(x:Operand)(w:World):
  ∃z r,(k z).leads t/\BQ s W z r/\(do eqGuard op tx x y (.int i m) (.int j n);binOp op tx (.int i m) (.int j n):Sem Value).run P w=.ok r w:=by
 cases op<;>simp only[Gp,ABO]at hs<;>simp only[Lu]at h
 case shl=>
  rcases Al h with⟨hb,h⟩|⟨_,h⟩
  ·have hb:¬n<0:=by have:=AAx hb;omega
   exact⟨_,_,h,BY _ _,by simp[eqGuard,binOp,Op.shift,Ny,hb]⟩
  ·exact h.elim
 case shr=>
  rcases Al h with⟨hb,h⟩|⟨_,h⟩
  ·have hb:¬n<0:=by have:=AAx hb;omega
   exact⟨_,_,h,BY _ _,by simp[eqGuard,binOp,Op.shift,Nz,hb]⟩
  ·exact h.elim
theorem Mn{op:BinOp}{y:Operand}{m n:Bool}{k:AV->Step β}{t:β}(h:(NZ op m n k).leads t)(tx:TypeId)(htx:P.underlying tx=some .bool)(x:Operand)(w:World):
  ∃z r,(k z).leads t/\BQ s W z r/\(do eqGuard op tx x y (.bool m) (.bool n);binOp op tx (.bool m) (.bool n):Sem Value).run P w=.ok r w:=by
 cases op<;>simp only[NZ]at h
 case eql=>exact⟨_,_,h,Cf _,by simp[eqGuard,run_eql_bool _ tx m n htx]⟩
 case neq=>exact⟨_,.bool (!(m==n)),h,⟨rfl,rfl⟩,by simp[eqGuard,run_neq_bool _ tx m n htx]⟩
 all_goals exact h.elim
theorem Mp{op:BinOp}{y:Operand}{m n:ADZ}{k:AV->Step β}{t:β}(h:(Na op m n k).leads t)(tx:TypeId)(x:Operand)(w:World):
  ∃z r,(k z).leads t/\BQ s W z r/\(do eqGuard op tx x y (.string ⟨m.toArray⟩) (.string ⟨n.toArray⟩);binOp op tx (.string ⟨m.toArray⟩) (.string ⟨n.toArray⟩):Sem Value).run P w=.ok r w:=by
 have tl:∀l:ADZ,(⟨l.toArray⟩:ByteArray).toList=l:=λl=>so
 cases op<;>simp only[Na]at h
 case eql=>exact⟨_,_,h,Cf _,by simp[eqGuard,binOp,Op.stringOp,tl]⟩
 case neq=>exact⟨_,_,h,Cf _,by simp[eqGuard,binOp,Op.stringOp,tl]⟩
 case add=>
  rcases Al h with⟨hb,h⟩|⟨_,h⟩
  ·refine⟨_,_,h,KX _,?_⟩;have hb:m.length+n.length<=4611686018427387904:=AAx hb;have hr:=run_string_add_sum (P:=P) w ⟨m.toArray⟩ ⟨n.toArray⟩ (by simp[ByteArray.size];omega);rw[ByteArray.mk_append_mk]at hr;simp only[eqGuard,binOp];grind
  ·exact h.elim
 all_goals exact h.elim
theorem Lw{cx:Cx}(hc:Di P cx){op:BinOp}{tx:TypeId}{x y:Operand}(h:AW E s a.tmps W){k:AV->Step β}{t:β}
  (hl:(binop (IH cx tx .bool) op y (s.Ag x) (s.Ag y) k).leads t):
  ∃z r,(k z).leads t/\BQ s W z r/\(do eqGuard op tx x y (a.eval x) (a.eval y);binOp op tx (a.eval x) (a.eval y):Sem Value).run P W.w=.ok r W.w:=by
 have h1:=Ad h x;have h2:=Ad h y
 have hz:∀(k:IntKind)(n:Int),s.Ag y=.sc (.int k) n->isZero y=false->n≠0:=by
  intro k n hy h0;cases y with
  |const v=>
   cases v with
   |int j m=>
    simp only[St.Ag,St.As,AV.one?,ofConst]at hy;injection hy with e1 e2
    injection e1 with e1
    subst e1;subst e2;simp[isZero]at h0;exact h0
   |_=>simp[isZero]at h0
  |_=>simp[isZero]at h0
 revert h1 h2 hl hz
 generalize s.Ag x=p;generalize s.Ag y=q;intro hl h1 h2 hz;unfold binop at hl;split at hl
 ·rename_i l m n r;cases l with
  |int i=>cases n with
   |int j=>
    simp only at hl;split at hl
    ·rename_i hij;rw[h1.1,h2.1];cases hs:Gp op with
     |true=>exact MZ hs hl tx x _
     |false=>
      rw[hs,Bool.or_false]at hij;obtain rfl:=IntKind.HD hij;exact Mo (hz _ _ rfl) hl tx x _
    ·exact hl.elim
   |_=>exact hl.elim
  |bool=>cases n with
   |bool=>
    simp only at hl;split at hl
    ·rename_i hb;rw[h1.1,h2.1];exact Mn hl tx (Lb hc hb) x _
    ·exact hl.elim
   |_=>exact hl.elim
  |str=>cases n with
   |str=>
    rw[h1.1,h2.1];exact Mp hl tx x _
   |_=>exact hl.elim
  |sl t e=>cases n<;>exact hl.elim
 ·exact hl.elim
theorem IZ{d:Nat}{w:World}{fz:Nat->Prop}{k:(t:TypeId)->(f:Ls)->List f.D->Step β}{t:β}:∀(e:Ls)(j:Nat) {g:Nat->Option Value} {x:e.D} {o:It} {t':TypeId} {f:Ls} {h:Value},
  (I5 e j x k).leads t->e.rd d w fz g x o->e.kinds[j]?=some (.sl t' f)->g j=some h->∃(ys:List f.D) (o':It),(k t' f ys).leads t/\AE f d w fz h ys o'/\∀b∈o',b∈o
 | .nil,j,_,_,_,_,_,_,hl,_,_,_=>hl.elim
 | .one l,0,g,x,o,t',f,h,hl,hr,hk,hg=>by
  simp only[Ls.rd]at hr;obtain⟨v,hv,hr⟩:=hr;simp[Ls.kinds]at hk;subst hk;rw[hg]at hv;injection hv with hv;subst hv
  exact⟨x,o,hl,hr,λb hb=>hb⟩
 | .one _,_+1,_,_,_,_,_,_,hl,_,_,_=>hl.elim
 | .cons l ls,0,g,x,o,t',f,h,hl,hr,hk,hg=>by
  simp only[Ls.rd]at hr;obtain⟨v,o1,o2,hv,hr,hr2,rfl⟩:=hr;simp[Ls.kinds]at hk;subst hk;rw[hg]at hv;injection hv with hv;subst hv
  exact⟨x.1,o1,hl,hr,λb hb=>AAY _ hb⟩
 | .cons l ls,j+1,g,x,o,t',f,h,hl,hr,hk,hg=>by simp only[Ls.rd]at hr;obtain⟨v,o1,o2,hv,hr,hr2,rfl⟩:=hr;obtain⟨ys,o',a,b,c⟩:=IZ ls j hl hr2 (by simpa[Ls.kinds]using hk) hg;grind
theorem Lz{w:World}{fz:Nat->Prop}{k:(t:TypeId)->(e:Ls)->List e.D->Nat->Step β}{t:β}:∀(p:List (Nat×Nat)) {t0:TypeId} {e:Ls} {xs:List e.D} {d:Nat} {h:Value} {o:It} {e':Ls} {v:Value},
  (OH k p t0 e xs d).leads t->AE e d w fz h xs o->JK w p e h e' v->∃(t':TypeId) (ys:List e'.D) (d':Nat) (o':It),(k t' e' ys d').leads t/\AE e' d' w fz v ys o'/\∀b∈o',b∈o
 | [],t0,e,xs,d,h,o,e',v,hl,hr,hn=>by obtain⟨rfl,rfl⟩:=hn;exact⟨t0,xs,d,o,hl,hr,λb hb=>hb⟩
 |(i,j)::p,t0,e,xs,d,h,o,e',v,hl,hr,hn=>by
  obtain⟨a,len,c,t',f,h',rfl,hs,hi,hk,hc,hn⟩:=hn;obtain⟨A,c',hv,hle,hr⟩:=hr;injection hv with hA zZ yk
  subst hA;have zc:i<xs.length:=zZ▸hi;rcases hr with hr|⟨g,os,yE,yS,ho⟩
  ·have:=hr.2.1;omega
  obtain⟨x,hx,hl⟩:=hl;rw[AAM zc]at hx;injection hx with hx;subst hx
  have hg:(λj=>g (i*e.n+j)) j=some h':=by rw[yE.cell (i*e.n+j)]at hc;exact hc
  obtain⟨ys,o',hl,yD,yu⟩:=IZ e j hl (yS i zc) hk hg;obtain⟨t2,zs,d2,o2,hl,hz,hs2⟩:=Lz p hl yD hn;grind
theorem CJ(h:AW E s tm W){c:Loc}{k:(t:TypeId)->(e:Ls)->List e.D->Nat->Step β}{t:β}(hl:(s.content c k).leads t):
  ∃(t0:TypeId) (e0:Ls) (xs0:List e0.D) (d0 gen:Nat),s.leaf c.r c.j=.arr c.AB gen t0 e0 xs0 d0/\(c.p=[]\/gen=c.gen)/\
   ∀(u:Value)(e':Ls)(v:Value),W.cv c.r c.j=some u->JK W.w c.p e0 u e' v->∃(t':TypeId) (ys:List e'.D) (d':Nat) (o':It),(k t' e' ys d').leads t/\AE e' d' W.w W.fz v ys o'/\∀b∈o',b∈W.om (.lf c.r c.j):=by
 unfold St.content at hl;split at hl
 ·rename_i AB gen t0 e0 xs0 d0 xt;split at hl
  ·rename_i yC;simp only[AAN,AAX,AAg]at yC;obtain⟨hv,hg⟩:=yC;subst hv;refine⟨t0,e0,xs0,d0,gen,xt,hg.imp (λh=>by cases hp:c.p<;>simp_all[isNil]) id,λu e' v hu hn=>?_⟩;obtain⟨u',yG,hr⟩:=(h.roots c.r).row xt;rw[hu]at yG;injection yG with yG;subst yG
   exact Lz c.p hl hr hn
  ·exact hl.elim
 ·exact hl.elim
theorem DA(h:AW E s tm W){c:Loc}{v:Value}(hv:AT s W (.ref c) v){k:(t:TypeId)->(e:Ls)->List e.D->Nat->Step β}{t:β}(hl:(s.content c k).leads t):
  ∃(t':TypeId) (e':Ls) (ys:List e'.D) (d':Nat) (o':It),(k t' e' ys d').leads t/\AE e' d' W.w W.fz v ys o'/\∀b∈o',b∈W.om (.lf c.r c.j):=by
 obtain⟨t0,e0,xs0,d0,gen,xt,hp,hk⟩:=CJ h hl;obtain⟨u,e',hu,hn⟩:=hv gen t0 e0 xs0 d0 xt hp;grind
theorem AE.len{e:Ls}{d:Nat}{w:World}{fz:Nat->Prop}{v:Value}{xs:List e.D}{o:It}(h:AE e d w fz v xs o):∃A c,v=.slice A xs.length c/\xs.length<=c:=by obtain⟨A,c,hv,hc,_⟩:=h;grind
theorem Bw.sub{α:Type}{n:Nat}{R:(Nat->Option Value)->α->It->Prop}{own:Bool}{w:World}{fz:Nat->Prop}{A:Option Addr}{len c:Nat}{xs:List α}{o:It}
  (h:Bw n R own w fz (.slice A len c) xs o) {lo hi:Nat} (h1:lo<=hi) (h2:hi<=len):
  ∃o',Bw n R own w fz (.slice (if c=lo then A else A.map (·.add (lo*n))) (hi-lo) (c-lo)) (Ev.sub xs lo hi) o'/\(∀b∈o',b∈o)/\(o.Nodup->o'.Nodup):=by
 obtain⟨A',c',hv,hc,h⟩:=h;injection hv with hA hl yk
 subst hA;subst hl;subst yk;have hlen:(Ev.sub xs lo hi).length=hi-lo:=by simp[Ev.sub];omega
 cases A with
 |none=>
  refine⟨[],⟨none,c-lo,?_,by rw[hlen];omega,?_⟩,so,so⟩
  all_goals grind
 |some a=>
  rcases h with h|⟨g,os,yE,yS,ho⟩
  ·obtain⟨rfl,rfl,rfl⟩:=h;have zQ:xs.length=0:=J
   have hhi:hi=0:=J
   have zR:lo=0:=J
   subst hhi;subst zR;have hnil:xs=[]:=AAU zQ;subst hnil;exact⟨[],⟨some a,0,by simp[Ev.sub],by simp[Ev.sub],.inl ⟨rfl,rfl,rfl⟩⟩,so,so⟩
  obtain⟨hs,arr,T,fr,hh,hn,hb,hg⟩:=yE
  have yL:∀i (zc:i<(Ev.sub xs lo hi).length),∃hx:lo+i<xs.length,(Ev.sub xs lo hi)[i]=xs[lo+i]:=by
   intro i zc;have:lo+i<xs.length:=by rw[hlen]at zc;omega
   exact⟨this,by simp[Ev.sub]⟩
  by_cases hcl:c=lo
  ·have hhi:hi=lo:=J
   have hnil:Ev.sub xs lo hi=[]:=by simp[Ev.sub,hhi]
   rw[AAS hcl,hnil,hhi];refine⟨match own with|true=>[a.block]|false=>[],⟨some a,c-lo,so,so,.inr ⟨λj=>arr[a.off+j]?,λ_=>[],⟨hs,arr,T,fr,hh,by rw[hcl];simp;omega,hb,λj=>rfl⟩,λi hi=>by simp at hi,?_⟩⟩,?_,?_⟩
   ·cases own with
    |true=>simp
    |false=>exact⟨ho.1,rfl,λ_ _=>rfl⟩
   all_goals grind
  ·rw[AAT hcl]
   have zz:(a.add (lo*n)).block=a.block/\(a.add (lo*n)).off=a.off+lo*n/\(a.add (lo*n)).spot=none:=by
    unfold Addr.add;split
    ·grind
    ·grind
   refine⟨match own with|true=>a.block::(List.range (hi-lo)).flatMap λi=>os (lo+i)|false=>[],
    ⟨some (a.add (lo*n)),c-lo,No,J,.inr ⟨λj=>g (lo*n+j),λi=>os (lo+i),⟨zz.2.2,arr,T,fr,No,?_,hb,λj=>No⟩,λi zc=>?_,?_⟩⟩,?_,?_⟩
   ·rw[zz.2.1];have:lo*n+(c-lo)*n=c*n:=by rw[<-AAt];congr 1;omega
    omega
   ·grind
   ·grind
   ·grind
   ·cases own with
    |false=>simp
    |true=>
     intro zG;rw[ho]at zG;obtain⟨zT,h2'⟩:=AAf.1 zG;refine AAf.2 ⟨λhm=>?_,?_⟩
     ·grind
     ·have e:(List.range (hi-lo)).flatMap (λi=>os (lo+i))=((List.range (hi-lo)).map (lo + ·)).flatMap os:=by simp[List.flatMap_map]
      rw[e,<-List.range'_eq_map_range];rw[List.range_eq_range']at h2'
      have:List.range' 0 xs.length=List.range' 0 lo++(List.range' lo (hi-lo)++List.range' hi (xs.length-hi)):=by have e1:=List.range'_append_1 (s:=lo) (m:=hi-lo) (n:=xs.length-hi);have e2:=List.range'_append_1 (s:=0) (m:=lo) (n:=xs.length-lo);rw[show lo+(hi-lo)=hi by omega]at e1;rw[e1,show hi-lo+(xs.length-hi)=xs.length-lo by omega];rw[AAd]at e2;rw[e2];congr 1;omega
      grind
end
end Go.Ev
namespace Go.Ev
def Seen(W:Wd)(rs:It)(b:Nat):Prop:=W.fz b\/∃r∈rs,∃j,b∈W.om (.lf r j)
theorem F8:∀(ls:Ls) {d:Nat} {w:World} {fz:Nat->Prop} {g:Nat->Option Value} {x:ls.D} {o:It},
  ls.rd d w fz g x o->∀(j:Nat)(lv:Lv),(unpack ls x)[j]?=some lv->∃u o',g j=some u/\lv.l.rd d w fz u lv.x o'/\∀b∈o',b∈o
 | .nil,_,_,_,_,_,_,_,j,lv,hj=>by simp[unpack]at hj
 | .one l,d,w,fz,g,x,o,h,j,lv,hj=>by
  simp only[Ls.rd]at h;obtain⟨v,hg,h⟩:=h;cases j with
  |zero=>simp[unpack]at hj;grind
  |succ j=>simp[unpack]at hj
 | .cons l ls,d,w,fz,g,x,o,h,j,lv,hj=>by
  simp only[Ls.rd]at h;obtain⟨v,o1,o2,hg,h1,h2,rfl⟩:=h;cases j with
  |zero=>simp[unpack]at hj;grind
  |succ j=>
   simp only[unpack,AA6]at hj;obtain⟨u,o',a,b,c⟩:=F8 ls h2 j lv hj;grind
theorem Cj:∀(ls:Ls) {w:World} {fz:Nat->Prop} {g:Nat->Option Value} {x:ls.D},
  (∀(j:Nat)(lv:Lv),(unpack ls x)[j]?=some lv->∃u,g j=some u/\lv.l.rd 0 w fz u lv.x [])->ls.rd 0 w fz g x []
 | .nil,_,_,_,_,_=>by simp only[Ls.rd]
 | .one l,w,fz,g,x,h=>by simp only[Ls.rd];exact h 0 ⟨l,x⟩ rfl
 | .cons l ls,w,fz,g,x,h=>by simp only[Ls.rd];obtain⟨u,hu,hr⟩:=h 0 ⟨l,x.1⟩ rfl;exact⟨u,[],[],hu,hr,Cj ls λj lv hj=>h (j+1) lv (by simpa[unpack]using hj),rfl⟩
theorem Bt{e:Ls}{d:Nat}{w:World}{fz:Nat->Prop}:AE e d w fz (.slice none 0 0) ([]:List e.D) []:=⟨none,0,rfl,AAi _,rfl,rfl⟩
section
variable {P:Program}{E:Ci}{s:St}{tm:Array Value}{W:Wd}{o:Oper}{a:Act}{β:Type}{t:β}
theorem Seen.mono{rs rs':It}(h:∀r∈rs,r∈rs'){b:Nat}(hb:Seen W rs b):Seen W rs' b:=hb.imp id λ⟨r,hr,x⟩=>⟨r,h r hr,x⟩
theorem ED(h:AW E s tm W){c:Loc}{lo hi:Nat}{v:Value}(hv:AT s W (.D0 c lo hi) v){k:(t:TypeId)->(e:Ls)->List e.D->Nat->Step β}(hl:(s.content c k).leads t):
  ∃(t':TypeId) (e':Ls) (ys:List e'.D) (d':Nat) (o':It),(k t' e' ys d').leads t/\AE e' d' W.w W.fz v (sub ys lo hi) o'/\(∀b∈o',b∈W.om (.lf c.r c.j)):=by
 obtain⟨t0,e0,xs0,d0,gen,xt,hp,hk⟩:=CJ h hl;obtain⟨u,e',A,n,k',hu,hn,h1,h2,rfl⟩:=hv gen t0 e0 xs0 d0 xt hp;obtain⟨t',ys,d',o',a,b,c'⟩:=hk u e' _ hu hn;obtain⟨o2,q1,q2,_⟩:=Bw.sub b h1 h2;exact⟨t',e',ys,d',o2,a,q1,λb hb=>c' b (q2 b hb)⟩
theorem Bq(h:AW E s tm W){l:L}{la:LA}{v:Value}(hv:AT s W la v){k:l.D->Step β}(hl:(s.datum l la k).leads t):
  ∃x,(k x).leads t/\l.rd 0 W.w (Seen W la.roots) v x []:=by
 unfold St.datum at hl;cases la with
 |sc m x=>
  simp only at hl;split at hl
  ·rename_i y hy;obtain⟨e,he⟩:=L.AH hy;subst e;subst he;exact⟨x,hl,L.AN m hv (λb hb=>rfl) λb hb=>.inl hb⟩
  ·exact hl.elim
 |C6=>
  cases l with
  |sl t' e=>exact⟨_,hl,by rw[show v=.slice none 0 0 from hv];exact Bt⟩
  |_=>exact hl.elim
 |ref c=>
  obtain⟨t',e',ys,d',o',hl,hr,ho⟩:=DA h hv hl;split at hl
  ·rename_i y hy;obtain⟨e,he⟩:=L.AH hy;subst e;subst he;exact⟨ys,hl,hr.freeze λb hb=>hb.elim .inl λhb=>.inr ⟨c.r,by simp[LA.roots],c.j,ho b hb⟩⟩
  ·exact hl.elim
 |D0 c lo hi=>
  obtain⟨t',e',ys,d',o',hl,hr,ho⟩:=ED h hv hl;split at hl
  ·rename_i y hy;obtain⟨e,he⟩:=L.AH hy;subst e;subst he;exact⟨_,hl,hr.freeze λb hb=>hb.elim .inl λhb=>.inr ⟨c.r,by simp[LA.roots],c.j,ho b hb⟩⟩
  ·exact hl.elim
 |_=>exact hl.elim
theorem FR(h:AW E s tm W):∀ {ls:List L} {as:List LA} {g:Nat->Option Value} {k:List Lv->Step β},(∀(j:Nat)(b:LA),as[j]?=some b->∃u,g j=some u/\AT s W b u)->(s.data ls as k).leads t->
  ∃vs:List Lv,(k vs).leads t/\vs.length=as.length/\vs.map (·.l)=ls/\∀(j:Nat)(lv:Lv),vs[j]?=some lv->∃u,g j=some u/\lv.l.rd 0 W.w (Seen W (as.flatMap LA.roots)) u lv.x []
 | [],[],g,k,hg,hl=>⟨[],hl,rfl,rfl,λj lv hj=>ADr⟩
 | [],_::_,g,k,hg,hl=>hl.elim
 |_::_,[],g,k,hg,hl=>hl.elim
 |l::ls,b::as,g,k,hg,hl=>by
  obtain⟨u,hu,hb⟩:=hg 0 b rfl;obtain⟨x,hl,hx⟩:=Bq h hb hl;obtain⟨vs,hl,hn,hm,hvs⟩:=FR h (g:=λj=>g (j+1)) (λj b hj=>hg (j+1) b No) hl;refine⟨⟨l,x⟩::vs,hl,by simp[hn],by simp[hm],λj lv hj=>?_⟩;cases j with
  |zero=>
   simp at hj;subst hj;exact⟨u,hu,L.AN l hx (λ_ _=>rfl) λb hb=>Seen.mono (λr hr=>by simp[hr]) hb⟩
  |succ j=>
   obtain⟨u',yG,hr⟩:=hvs j lv ADs;refine⟨u',yG,L.AN lv.l hr (λ_ _=>rfl) λb hb=>Seen.mono (λr hr=>?_) hb⟩;grind
theorem Ck(r:Nat):∀(as:List LA)(j i:Nat),(A5 r j as)[i]?=(as[i]?).map (seen r (j+i))
 | [],j,i=>by simp[A5]
 |b::as,j,0=>by simp[A5]
 |b::as,j,i+1=>by simp only[A5,AA6];rw[Ck r as (j+1) i,show j+1+i=j+(i+1) by omega]
theorem Et(r:Nat):∀(as:List LA)(j i:Nat),(BC r j as)[i]?=(as[i]?).map (H2 r (j+i))
 | [],j,i=>by simp[BC]
 |b::as,j,0=>by simp[BC]
 |b::as,j,i+1=>by simp only[BC,AA6];rw[Et r as (j+1) i,show j+1+i=j+(i+1) by omega]
theorem Eu(r:Nat):∀(as:List LA)(j:Nat),(BC r j as).length=as.length
 | [],j=>rfl
 |b::as,j=>by simp[BC,Eu r as (j+1)]
theorem Kp(h:AW E s tm W){r j:Nat}{b:LA}{v:Value}(hb:s.leaf r j=b)(hc:W.cv r j=some v):AT s W (seen r j b) v:=by
 have hr:=(h.roots r).1 j;unfold St.leaf at hb;rw[hb,hc]at hr;cases b with
 |arr AB gen t' e xs d=>
  intro zW t2 e2 xs2 d2 hl _;have:s.leaf r j=.arr AB gen t' e xs d:=hb;rw[this]at hl;injection hl with h1 h2 h3 h4
  subst h4;exact⟨v,e,hc,rfl,rfl⟩
 |_=>exact hr.2 v rfl
theorem MW(h:AW E s tm W){r j:Nat}{b:LA}{v:Value}(hb:s.leaf r j=b)(hc:W.cv r j=some v):AT s W (H2 r j b) v:=by
 have hs:=Kp h hb hc;cases b with
 |arr AB gen t' e xs d=>
  cases d with
  |succ d=>exact hs
  |zero=>
   obtain⟨u,hu,yD⟩:=(h.roots r).row hb;have:u=v:=Option.some.inj (hu.symm.trans hc);subst this;show AE e 0 W.w W.fz u xs [];have hz:=AE.zero yD;grind
 |_=>exact hs
theorem EF(c:Loc)(i d:Nat):∀(vs:List Lv)(off j:Nat),(Be c i d off vs)[j]?=(vs[j]?).map λv=>if Bj v.l&&decide (0<d)then LA.ref { c with p:=c.p++[(i,off+j)] }else .sc v.l v.x
 | [],off,j=>by simp[Be]
 |v::vs,off,0=>by simp[Be]
 |v::vs,off,j+1=>by simp only[Be,AA6];rw[EF c i d vs (off+1) j,show off+1+j=off+(j+1) by omega]
theorem Jr{w:World}:∀(q:List (Nat×Nat)) {e:Ls} {h:Value} {e':Ls} {a:Addr} {n k:Nat} {i off:Nat} {t':TypeId} {f:Ls} {u:Value},
  JK w q e h e' (.slice (some a) n k)->a.spot=none->i<n->e'.kinds[off]?=some (.sl t' f)->w.cell? (at_ a (i*e'.n+off))=some u->JK w (q++[(i,off)]) e h f u
 | [],e,h,e',a,n,k,i,off,t',f,u,hn,hs,hi,hk,hc=>by obtain⟨rfl,rfl⟩:=hn;exact⟨a,n,k,t',f,u,rfl,hs,hi,hk,hc,rfl,rfl⟩
 |(i0,j0)::q,e,h,e',a,n,k,i,off,t',f,u,hn,hs,hi,hk,hc=>by obtain⟨a0,len,c0,t0,f0,h0,e0,s0,i1,k1,c1,hn⟩:=hn;exact⟨a0,len,c0,t0,f0,h0,e0,s0,i1,k1,c1,Jr q hn hs hi hk hc⟩
theorem Dz:∀(ls:Ls)(x:ls.D),(unpack ls x).map (·.l)=ls.kinds
 | .nil,_=>rfl
 | .one _,_=>rfl
 | .cons l ls,x=>by simp[unpack,Ls.kinds,Dz ls x.2]
theorem Fe(h:AW E s tm W){la:LA}{v:Value}(hv:AT s W la v){n:Nat}{k:List LA->Step β}(hl:(s.C2 la n k).leads t):
  ∃as:List LA,(k as).leads t/\as.length<=n/\∃(b off:Nat),v=.pointer (some ⟨b,off,none⟩)/\∀(j:Nat)(x:LA),as[j]?=some x->∃u,W.w.cell? ⟨b,off+j,none⟩=some u/\AT s W x u:=by
 unfold St.C2 at hl;cases la with
 |ptr r j AB=>
  simp only at hl;split at hl
  ·rename_i yC;simp only[AAN,AAX,AAh]at yC;obtain⟨⟨hb,yB⟩,hlen⟩:=yC;refine⟨_,hl,by rw[Eu];simp;omega,W.bk r,j,hv hb yB,λi x hx=>?_⟩;rw[Et]at hx;obtain⟨_,yc⟩:=h.roots r;rw[AAS hb]at yc;obtain⟨_,arr,T,fr,hh,_,yP,yW⟩:=yc;cases hy:((s.root r).ls.drop j |>.take n)[i]? with
   |none=>grind
   |some y=>
    rw[hy]at hx;injection hx with hx;subst hx
    have hi:i<n/\(s.root r).ls[j+i]?=some y:=by
     rw[List.getElem?_take]at hy;split at hy
     ·grind
     ·cases hy
    have xz:j+i<(s.root r).ls.length:=(AAO.1 hi.2).1;have xt:s.leaf r (j+i)=y:=by unfold St.leaf;rw[Ae,hi.2];rfl
    have yV:W.cv r (j+i)=some (arr[j+i]'(by omega)):=by rw[yW];exact AAk _
    refine⟨arr[j+i]'(by omega),?_,MW h xt yV⟩;rw[<-yV,yW];simp[World.cell?,hh]
  ·exact hl.elim
 |Du e x off=>
  obtain⟨a,g,arr,T,fr,hv,hz,hh,hg,yD⟩:=hv;refine⟨_,hl,ADb,a.block,a.off+off,hv,λi y hy=>?_⟩;simp only[AAe]at hy;cases hq:(((unpack e x).drop off).take n)[i]? with
  |none=>grind
  |some lv=>
   rw[hq]at hy;injection hy with hy;subst hy
   have hi:(unpack e x)[off+i]?=some lv:=by
    rw[List.getElem?_take]at hq;split at hq
    ·rw[List.getElem?_drop]at hq;exact hq
    ·cases hq
   obtain⟨u,o',hu,hr,ho⟩:=F8 e yD _ lv hi;have:o'=[]:=L.DE lv.l hr;subst this;refine⟨u,?_,hr⟩;rw[hg]at hu;simp only[World.cell?,hh];grind
 |Ba c=>
  simp only at hl;split at hl
  ·exact hl.elim
  ·rename_i q i off hq;obtain⟨t0,e0,xs0,d0,gen,xt,hp,hk⟩:=CJ h hl;dsimp only at xt hp hk
   have hpl:c.p.length<=1\/gen=c.gen:=by
    rcases hp with hp|hp
    ·left;rw[CR hq,hp];simp
    ·exact .inr hp
   obtain⟨q',i',off',u,e',a,n',k',hq',hu,hn,hs,hi,rfl⟩:=hv gen t0 e0 xs0 d0 xt hpl;rw[hq]at hq';injection hq' with hq'
   injection hq' with q1 q2
   injection q2 with q2 q3
   subst q1;subst q2;subst q3;obtain⟨t',ys,d',o',hl,hr,ho⟩:=hk u e' _ hu hn;obtain⟨x,hx,hl⟩:=hl;obtain⟨A,c',hv,hle,hr⟩:=hr;injection hv with hA hlen zP
   subst hA;have zc:i<ys.length:=hlen▸hi;rcases hr with hr|⟨g,os,yE,yS,hos⟩
   ·omega
   rw[AAM zc]at hx;injection hx with hx;subst hx
   refine⟨_,hl,?_,a.block,a.off+(i*e'.n+off),rfl,λj y hy=>?_⟩
   ·have:∀(vs:List Lv)(off:Nat),(Be { c with p:=q,gen:=s.Jj c.r c.j } i (dec d') off vs).length=vs.length:=by
     intro vs;induction vs with
     |nil=>intro _;rfl
     |cons v vs ih=>intro off;simp[Be,ih]
    grind
   ·rw[EF]at hy;cases hz:(((unpack e' ys[i]).drop off).take n)[j]? with
    |none=>grind
    |some lv=>
     rw[hz]at hy;injection hy with hy
     have hj:(unpack e' ys[i])[off+j]?=some lv:=by
      rw[List.getElem?_take]at hz;split at hz
      ·grind
      ·cases hz
     obtain⟨w1,o1,hw1,hr1,ho1⟩:=F8 e' (yS i zc) _ lv hj;have yV:W.w.cell? (at_ a (i*e'.n+(off+j)))=some w1:=by rw[yE.cell];exact hw1
     refine⟨w1,by rw[show a.off+(i*e'.n+off)+j=a.off+(i*e'.n+(off+j)) by omega];exact yV,?_⟩;subst hy;dsimp only;split
     ·rename_i zo;simp only[AAN,AAh]at zo;obtain⟨ll,lx⟩:=lv;cases ll with
      |sl t2 f=>
       intro gen2 t3 e3 xs3 d3 hl3 hp3;dsimp only at hl3 hp3;rw[xt]at hl3;injection hl3 with z1 z2 z3 z4
       subst z4;refine⟨u,f,hu,?_⟩
       have hkd:e'.kinds[off+j]?=some (.sl t2 f):=by rw[<-Dz e' ys[i],AAe,hj];rfl
       exact Jr q hn hs hi hkd yV
      |_=>simp[Bj]at zo
     ·rename_i zo
      have hzero:lv.l.rd 0 W.w W.fz w1 lv.x []:=by
       obtain⟨ll,lx⟩:=lv;cases ll with
       |sl t2 f=>
        have hd:dec d'=0:=by simp[Bj]at zo;exact zo
        rw[hd]at hr1;have:o1=[]:=L.DE _ hr1;grind
       |int k=>exact⟨hr1.1,rfl⟩
       |bool=>exact⟨hr1.1,rfl⟩
       |str=>exact⟨hr1.1,rfl⟩
      exact hzero
 |_=>exact hl.elim
end
end Go.Ev
namespace Go.Ev
def ON(dst:Option Nat)(x:AV):List Wr:=match dst with
 |some d=>[.slot d x]
 |none=>[]
theorem AK{dst:Option Nat}{x:AV}{ws:List Wr}(h:(match dst with|some d=>Step.go [Wr.slot d x]|none=>Step.go []).leads ws):ws=ON dst x:=by
 cases dst<;>exact h.symm
section
variable {P:Program}{E:Ci}{s:St}{W:Wd}{o:Oper}{a:Act}{ws:List Wr}{cx:Cx}{v:Nat}{β:Type}
theorem AP(h:AW E s a.tmps W){u:Value}{x:AV}(yK:(execOp a.eval o).run P W.w=.ok (.value u) W.w)(hx:BQ s W x u):BU P E o a W.w (s.app (ON o.dst x)):=KJ h yK hx
theorem K9{l:L}{la lb:LA}{u w:Value}{q:Bool}(ha:AT s W la u)(hb:AT s W lb w)(h:Nx l la lb=some q){t:TypeId}(ht:Iq P t l)(d:Nat)(w0:World):(Op.equalIn (d+1) t u w).run P w0=.ok q w0:=by
 unfold Nx at h;cases l with
 |int k=>
  simp only at h;split at h
  ·rename_i i x j y;split at h
   ·rename_i hc;simp only[AAN]at hc;obtain rfl:=IntKind.HD hc.1;obtain rfl:=IntKind.HD hc.2;injection h with h
    rw[show u=.int j x from ha.1,show w=.int j y from hb.1,run_equalIn_int w0 d t j j x y ht];subst h;rfl
   ·cases h
  ·cases h
 |bool=>
  simp only at h;split at h
  ·rename_i x y;injection h with h
   rw[show u=.bool x from ha.1,show w=.bool y from hb.1,run_equalIn_bool' w0 d t x y ht];subst h;rfl
  ·cases h
 |str=>
  simp only at h;split at h
  ·rename_i x y;injection h with h
   rw[show u=.string ⟨(show ADZ from x).toArray⟩from ha.1,show w=.string ⟨(show ADZ from y).toArray⟩from hb.1,run_equalIn_string w0 d t _ _ ht];have tl:∀l:ADZ,(⟨l.toArray⟩:ByteArray).toList=l:=λl=>so
   subst h;rw[tl,tl]
  ·cases h
 |sl t' e=>cases h
theorem Ie{t:TypeId}{l:L}(h:Iq P t l)(cs:Array Value)(n:Nat)(x:Value)(hx:cs[n]?=some x)(w:World):(part t cs n).run P w=.ok x w:=by
 unfold part;rw[Sem.run_bind]
 have zq:(isAgg t).run P w=.ok false w:=by
  unfold isAgg;rw[Sem.run_bind];cases l with
  |int k=>rw[run_underlying (show P.underlying t=some (.int k)from h)];rfl
  |bool=>rw[run_underlying (show P.underlying t=some .bool from h)];rfl
  |str=>rw[run_underlying (show P.underlying t=some .string from h)];rfl
  |sl t' e=>exact h.elim
 rw[zq];simp[hx]
theorem GO{d:Nat}{xs ys:Array Value}{w0:World}:∀(fs:List Field)(ls:List L)(as bs:List LA)(n:Nat)(q:Bool),Gh P n fs ls->FL ls as bs=some q->
  (∀(j:Nat)(b:LA),as[j]?=some b->∃u,xs[n+j]?=some u/\AT s W b u)->(∀(j:Nat)(b:LA),bs[j]?=some b->∃u,ys[n+j]?=some u/\AT s W b u)->
  (Op.eqFields (d+1) xs ys fs).run P w0=.ok q w0
 | [],[],[],[],n,q,hf,hq,h1,h2=>by simp only[FL,Option.some.injEq]at hq;subst hq;rfl
 |f::fs,l::ls,a::as,b::bs,n,q,hf,hq,h1,h2=>by
  obtain⟨f1,f2,f3,f4⟩:=hf;simp only[FL]at hq;split at hq
  ·rename_i p r hp hr;injection hq with hq;subst hq
   obtain⟨u,hu,hua⟩:=h1 0 a rfl;obtain⟨v,hv,hvb⟩:=h2 0 b rfl;have ih:=GO (d:=d) (xs:=xs) (ys:=ys) (w0:=w0) fs ls as bs (n+1) r f4 hr (λj b hj=>by rw[show n+1+j=n+(j+1) by omega];exact h1 (j+1) b No) (λj b hj=>by rw[show n+1+j=n+(j+1) by omega];exact h2 (j+1) b No);simp only[Op.eqFields];rw[AAS f1,f2,Sem.run_bind,Ie f3 xs n u J];simp only[Result.andThen_ok];rw[Sem.run_bind,Ie f3 ys n v J];simp only[Result.andThen_ok];rw[Sem.run_bind,K9 hua hvb hp f3 d w0];simp only[Result.andThen_ok];cases p with
   |true=>grind
   |false=>simp
  ·cases hq
 | [],[],[],_::_,n,q,hf,hq,h1,h2=>by simp[FL]at hq
 | [],[],_::_,_,n,q,hf,hq,h1,h2=>by simp[FL]at hq
 |f::fs,l::ls,[],_,n,q,hf,hq,h1,h2=>by simp[FL]at hq
 |f::fs,l::ls,_::_,[],n,q,hf,hq,h1,h2=>by simp[FL]at hq
 | [],_::_,as,bs,n,q,hf,hq,h1,h2=>hf.elim
 |_::_,[],as,bs,n,q,hf,hq,h1,h2=>hf.elim
theorem Lo(hc:Di P cx){op:BinOp}{tx:TypeId}{x y:Operand}{as bs:List LA}{u w:Value}(hu:Ez s W true as u)(hw:Ez s W true bs w){k:AV->Step β}{t:β}(hl:(Ln cx op tx as bs k).leads t)(w0:World):
  ∃z r,(k z).leads t/\BQ s W z r/\(do eqGuard op tx x y u w;binOp op tx u w:Sem Value).run P w0=.ok r w0:=by
 unfold Ln at hl;split at hl
 ·rename_i ty zv;split at hl
  ·rename_i heq;split at hl
   ·rename_i q hq;obtain⟨cs,rfl,_,h1⟩:=hu;obtain⟨ds,rfl,_,h2⟩:=hw;obtain⟨e1,e2,fs,e3,e4⟩:=(hc tx ty zv).eqs heq;have zn:P.fieldsOf tx=fs:=by unfold Program.fieldsOf;rw[e3]
    have yK:(Op.equalIn 10000 tx (.agg cs) (.agg ds)).run P w0=.ok q w0:=by
     rw[run_equalIn_struct w0 9999 tx cs ds No e1,zn];exact GO (d:=9998) _ _ _ _ 0 q e4 hq (λj b hj=>by rw[AAd];exact h1 j b hj) (λj b hj=>by grind)
    split at hl
    ·refine⟨_,_,hl,Cf _,?_⟩;rw[Sem.run_bind,run_eqGuard_agg w0 _ tx x y cs ds e2];simp only[Result.andThen_ok];rw[run_eql_struct,yK];rfl
    ·refine⟨_,_,hl,Cf _,?_⟩;rw[Sem.run_bind,run_eqGuard_agg w0 _ tx x y cs ds e2];simp only[Result.andThen_ok];rw[run_neq_struct,yK];rfl
    ·exact hl.elim
   ·exact hl.elim
  ·exact hl.elim
 ·exact hl.elim
theorem MI(hc:Di P cx)(h:AW E s a.tmps W){op:BinOp}{tx ty:TypeId}{x y:Operand}(ho:o.op=.binOp op tx x y ty)(hl:(AA cx v o s).leads ws):BU P E o a W.w (s.app ws):=by
 simp only[AA,ho]at hl
 have key:∃z r,(match o.dst with|some d=>Step.go [Wr.slot d z]|none=>Step.go []).leads ws/\BQ s W z r/\(do eqGuard op tx x y (a.eval x) (a.eval y);binOp op tx (a.eval x) (a.eval y):Sem Value).run P W.w=.ok r W.w:=by
  split at hl
  ·rename_i as bs h1 h2;exact Lo hc (by have:=BK h x;rw[h1]at this;exact this) (by have:=BK h y;rw[h2]at this;exact this) hl W.w
  ·exact Lw (x:=x) hc h hl
 obtain⟨z,r,hl,hz,hr⟩:=key;rw[AK hl];refine AP h ?_ hz;simp only[execOp,ho];rw[Sem.run_bind,hr];rfl
theorem M7(h:AW E s a.tmps W){op:UnOp}{tx:TypeId}{x:Operand}(ho:o.op=.unOp op tx x)(hl:(AA cx v o s).leads ws):BU P E o a W.w (s.app ws):=by
 simp only[AA,ho]at hl;have h1:=Ad h x
 revert hl h1
 generalize s.Ag x=p;intro hl h1;split at hl
 ·rw[AK hl];rename_i b;refine AP h (u:=.bool (!b)) ?_ (Cf _);simp[execOp,ho,show a.eval x=.bool b from h1.1,Op.unary]
 ·rename_i k n;rw[AK hl];refine AP h (u:=.int k (k.wrap (Nk n))) ?_ (BY _ _);simp[execOp,ho,show a.eval x=.int k n from h1.1,Op.unary,Op.intArith,Nk]
 ·exact hl.elim
theorem CQ{t:TypeId}{ty:Ty}(hc:Di P cx)(ht:cx.ty t=some ty){l:L}(hl:ty.ls=.one l)(hg:ty.agg=false):GF P t l:=by obtain⟨l',h1,h2⟩:=(hc t ty ht).lone hg;grind
theorem M6(h:AW E s a.tmps W){x y z:Operand}(ho:o.op=.pick x y z)(hl:(AA cx v o s).leads ws):BU P E o a W.w (s.app ws):=by
 simp only[AA,ho]at hl;have h1:=Ad h x
 revert hl h1
 generalize s.Ag x=p;intro hl h1;split at hl
 ·rename_i t;rcases Al hl with⟨ht,hl⟩|⟨ht,hl⟩
  ·rw[AK hl];refine AP h (u:=a.eval y) ?_ (BK h y);simp[execOp,ho,show a.eval x=.bool t from h1.1,asBool,show t=true from ht]
  ·rw[AK hl];refine AP h (u:=a.eval z) ?_ (BK h z);simp[execOp,ho,show a.eval x=.bool t from h1.1,asBool,show t=false from ht]
 ·exact hl.elim
theorem Gu{la:LA}{u:Value}(hv:AT s W la u)(ha:s.alive la=true):∃ad,u=.pointer (some ad):=by
 unfold St.alive at ha;cases la with
 |ptr r j AB=>
  simp only[AAN,AAX]at ha;exact⟨_,hv ha.1 ha.2⟩
 |Ba c=>
  simp only at ha;split at ha
  ·rename_i AB gen t e xs d hl;simp only[AAN,AAX,AAg,AAh]at ha;obtain⟨rfl,hg⟩:=ha;obtain⟨q,i,off,h',e',ad,n,k,_,_,_,_,_,hu⟩:=hv gen t e xs d hl hg;grind
  ·cases ha
 |Du e x off=>obtain⟨ad,g,arr,T,fr,hu,_⟩:=hv;grind
 |_=>cases ha
theorem KG{a:AV}{v:Value}(h:BQ s W a v):AT s W a.one? v:=by
 cases a with
 |Db vs=>trivial
 |bx as=>trivial
 |v g as=>
  cases g with
  |true=>trivial
  |false=>cases as with
   |nil=>trivial
   |cons b bs=>cases bs with
    |nil=>exact h
    |cons=>trivial
theorem LG{tm:Array Value}(h:AW E s tm W){la:AV}{v:Value}(hv:BQ s W la v){n:Nat}{β:Type}{t:β}{k:List LA->Step β}(hl:(s.E7 la n k).leads t):
  ∃as:List LA,(k as).leads t/\as.length<=n/\∃(b off:Nat),v=.pointer (some ⟨b,off,none⟩)/\∀(j:Nat)(x:LA),as[j]?=some x->∃u,W.w.cell? ⟨b,off+j,none⟩=some u/\AT s W x u:=by
 cases la with
 |v g as=>exact Fe h (KG hv) hl
 |Db vs=>exact Fe h (KG hv) hl
 |bx as=>
  simp only[St.E7]at hl;split at hl
  ·rename_i hlen;obtain⟨b,off,arr,T,fr,hp,hz,hh,yw,yL⟩:=hv;refine⟨_,hl,No,b,off,hp,λj x hx=>?_⟩
   have hx':as[j]?=some x:=by
    rw[List.getElem?_take]at hx;split at hx
    ·exact hx
    ·cases hx
   obtain⟨u,hu,yh⟩:=yL j x hx';exact⟨u,by simp[World.cell?,hh,hu],yh⟩
  ·exact hl.elim
theorem Jw(h:AW E s a.tmps W){x:Operand}(ho:o.op=.nilCheck x)(hl:(AA cx v o s).leads ws):BU P E o a W.w (s.app ws):=by
 simp only[AA,ho]at hl;have h1:=BK h x
 have yr:∀p:AV,BQ s W p (a.eval x)->(if s.alive p.one? then(match o.dst with|some d=>(.go [.slot d (one p.one?)]:Step (List Wr))|none=>.go [])else .none).leads ws->BU P E o a W.w (s.app ws):=by
  intro p h1 hl;have h1:=KG h1;split at hl
  ·rename_i hal;obtain⟨ad,hp⟩:=Gu h1 hal;rw[AK hl];exact AP h (u:=a.eval x) (by simp[execOp,ho,hp]) h1
  ·exact hl.elim
 generalize s.As x=p at hl h1;cases p with
 |bx as=>
  have h2:=h1;obtain⟨b,off,arr,T,fr,hp,_⟩:=h1;rw[AK hl];exact AP h (u:=a.eval x) (by simp[execOp,ho,hp]) h2
 |v g as=>grind
 |Db vs=>grind
theorem EA{la:LA}{u:Value}(hv:AT s W la u){β:Type}{k:Int->Step β}{t:β}(hl:(asInt la k).leads t):∃j n,u=.int j n/\(k n).leads t:=by
 unfold asInt at hl;cases la with
 |sc l x=>cases l with
  |int j=>exact⟨j,x,hv.1,hl⟩
  |_=>exact hl.elim
 |_=>exact hl.elim
theorem My{la:LA}{u:Value}(hv:AT s W la u){β:Type}{k:Int->Step β}{t:β}(hl:(Nj la k).leads t):∃(n:Int) (b:ByteArray),(k n).leads t/\u=.string b/\n=b.size:=by
 unfold Nj at hl;cases la with
 |sc l x=>cases l with
  |str=>exact⟨_,_,hl,hv.1,rfl⟩
  |_=>exact hl.elim
 |_=>exact hl.elim
theorem L6(h:AW E s a.tmps W){la:LA}{u:Value}(hv:AT s W la u){β:Type}{k:Int->Step β}{t:β}(hl:(lenOf s la k).leads t):
  ∃n:Int,(k n).leads t/\∃A len c,u=.slice A len c/\n=(len:Int):=by
 unfold lenOf at hl;cases la with
 |sc l x=>cases l with
  |sl t e=>
   obtain⟨A,c,hu,_⟩:=AE.len (show AE e 0 W.w W.fz u x []from hv);grind
  |_=>exact hl.elim
 |C6=>exact⟨_,hl,none,0,0,hv,rfl⟩
 |ref c=>
  obtain⟨t',e',ys,d',o',hl,hr,ho⟩:=DA h hv hl;obtain⟨A,c,hu,_⟩:=hr.len;grind
 |D0 c lo hi=>
  obtain⟨t',e',ys,d',o',hl,hr,ho⟩:=ED h hv hl;obtain⟨A,c,hu,_⟩:=hr.len;grind
 |_=>exact hl.elim
theorem M4(hc:Di P cx)(h:AW E s a.tmps W){t:TypeId}{x:Operand}(ho:o.op=.load t x)(hl:(AA cx v o s).leads ws):BU P E o a W.w (s.app ws):=by
 simp only[AA,ho]at hl;split at hl
 ·rename_i ty ht;have zv:=hc t ty ht;obtain⟨as,hl,_,b,off,hx,yL⟩:=LG h (BK h x) hl;split at hl
  ·rename_i hlen;have hlen:as.length=ty.ls.n:=ADo
   rw[AK hl];cases z8:ty.agg with
   |false=>
    obtain⟨l,zd,zR⟩:=zv.lone z8;rw[zd]at hlen
    obtain⟨y,rfl⟩:∃y,as=[y]:=by
     match as,hlen with
     | [y],_=>grind
    obtain⟨u,hu,hy⟩:=yL 0 y rfl;obtain⟨d,hd,zG⟩:=zR.JA;refine AP h (u:=u) ?_ (show BQ s W (.v false [y]) u from hy)
    have zq:(isAgg t).run P W.w=.ok false W.w:=by
     unfold isAgg;rw[Sem.run_bind,run_underlying hd];cases d<;>simp_all
    simp only[AA0]at hu;simp[execOp,ho,Instr.loadAt,hx,Instr.sureAddr,loadVar,zq,load,Sem.run,hu]
   |true=>
    obtain⟨fs,zn,_⟩:=zv.agg z8;obtain⟨i,hi,yP,_⟩:=zv.info
    let f:Nat->Value:=λj=>(W.w.cell? ⟨b,off+j,none⟩).getD Go.undef
    let cs:ADc:=(List.range as.length).map f
    have hcs:∀j u,cs[j]?=some u->W.w.cell? ⟨b,off+j,none⟩=some u:=by
     intro j u hj;simp only[cs,AAe]at hj;by_cases xz:j<as.length
     ·rw[List.getElem?_range xz]at hj;simp at hj;obtain⟨u',yG,_⟩:=yL j as[j] (AAM xz);grind
     ·grind
    have yK:=run_loadVar_mid (P:=P) W.w b off t cs (.struct fs) (λj u hj=>hcs j u hj) zn rfl No;refine AP h (u:=.agg cs.toArray) ?_ ?_
    ·simp[execOp,ho,Instr.loadAt,hx,Instr.sureAddr,yK]
    ·refine⟨cs.toArray,rfl,by simp[cs],λj y hy=>?_⟩;grind
  ·exact hl.elim
 ·exact hl.elim
theorem Np(hc:Di P cx)(h:AW E s a.tmps W){c:Call}(ho:o.op=.call c)(hb:c.callee=.builtin .len)(hl:(AA cx v o s).leads ws):BU P E o a W.w (s.app ws):=by
 simp only[AA,ho,hb]at hl;split at hl
 ·rename_i x t hx ht;split at hl
  ·rename_i ty zv;split at hl
   ·exact hl.elim
   ·rename_i z8;have yX:c.args = #[x]:=No
    have hats:c.argTypes = #[t]:=No
    obtain⟨cal,args,ats⟩:=c;dsimp only at hb yX hats;subst hb;subst yX;subst hats;split at hl
    ·rename_i zd;obtain⟨n,b,hl,hu,rfl⟩:=My (Ad h x) hl;rw[AK hl];refine AP h (u:=.int .i64 b.size) ?_ (BY _ _);have yz:P.underlying t=some .string:=CQ hc zv zd No;simp[execOp,ho,resolve,invoke,builtin,Builtin.len_,hu,run_underlying yz,goInt]
    ·rename_i t' e zd;obtain⟨n,hl,A,len,k,hu,rfl⟩:=L6 h (Ad h x) hl;rw[AK hl];refine AP h (u:=.int .i64 len) ?_ (BY _ _);have yz:=(CQ hc zv zd No).1;simp[execOp,ho,resolve,invoke,builtin,Builtin.len_,hu,run_underlying yz,goInt]
    ·exact hl.elim
  ·exact hl.elim
 ·exact hl.elim
end
end Go.Ev
namespace Go.Ev
theorem Fh{α:Type}:∀(l:List α)(i:Nat),Hl l i=l[i]?
 | [],i=>by simp[Hl]
 |x::xs,0=>by simp[Hl]
 |x::xs,i+1=>by simp[Hl,Fh xs i]
section
variable {P:Program}{E:Ci}{s:St}{W:Wd}{o:Oper}{a:Act}{ws:List Wr}{cx:Cx}{v:Nat}
theorem CT(b off n:Nat):(⟨b,off,none⟩:Addr).add n=⟨b,off+n,none⟩:=by unfold Addr.add;grind
theorem KF(ad:Addr)(k n:Nat):(at_ ad k).add n=at_ ad (k+n):=by unfold at_;rw[CT];grind
theorem Jc(hc:Di P cx){t:TypeId}{ty:Ty}(ht:cx.ty t=some ty){f fo:Nat}{ft:TypeId}(hf:(if ty.agg=true then Hl ty.fs f else none)=some (fo,ft)):
  ty.agg=true/\∃(fs:Array Field) (fd:Field),P.underlying t=some (.struct fs)/\fs[f]?=some fd/\fd.offset=fo/\fd.type=ft:=by
 split at hf
 ·rename_i z8;obtain⟨fs,hu,zn,_⟩:=(hc t ty ht).agg z8;rw[Fh,<-zn,AAe]at hf;grind
 ·cases hf
theorem Kq(hc:Di P cx){t:TypeId}{ty:Ty}(ht:cx.ty t=some ty)(w:World):(sizeOf t).run P w=.ok ty.ls.n w:=by obtain⟨i,hi,hs,_⟩:=(hc t ty ht).info;simp[sizeOf,typeInfo,hi,hs]
theorem CE:∀(q:List (Nat×Nat)) (i off:Nat),Ah (q++[(i,off)])=some (q,i,off)
 | [],i,off=>rfl
 | [x],i,off=>rfl
 |x::y::r,i,off=>by have:=CE (y::r) i off;simp only[ABC]at this ⊢;simp only[Ah];rw[this]
theorem JC(hc:Di P cx)(h:AW E s a.tmps W){t:TypeId}{x:Operand}{f:Nat}(ho:o.op=.fieldAddr t x f)(hl:(AA cx v o s).leads ws):
  BU P E o a W.w (s.app ws):=by
 simp only[AA,ho]at hl;split at hl
 ·rename_i ty ht;split at hl
  ·rename_i fo ft hf;obtain⟨z8,fs,fd,hu,hfd,rfl,rfl⟩:=Jc hc ht hf;split at hl
   ·rename_i tf htf;split at hl
    ·exact hl.elim
    ·rename_i yF;have yP:=Kq hc htf W.w;simp only[AAX]at yF;have h0:=BK h x
     have run:∀ad:Addr,a.eval x=.pointer (some ad)->(execOp a.eval o).run P W.w=.ok (.value (.pointer (some (ad.add fd.offset)))) W.w:=by intro ad zb;simp[execOp,ho,Instr.fieldAt,run_underlying hu,hfd,zb,Instr.sureAddr,fieldPlace,yP,yF]
     have yr:∀h1:AT s W (s.Ag x) (a.eval x),(∀as,s.As x≠.bx as)->s.alive (s.Ag x)=true->(match s.Ag x with
       | .ptr r j AB=>(match o.dst with|some d=>(.go [.slot d (one (.ptr r (j+fd.offset) AB))]:Step (List Wr))|none=>.go [])
       | .Du e y j=>(match o.dst with|some d=>(.go [.slot d (one (.Du e y (j+fd.offset)))]:Step (List Wr))|none=>.go [])
       | .Ba c=>match Ah c.p with
        |some (q,i,off)=>(match o.dst with|some d=>(.go [.slot d (one (.Ba { c with p:=q++[(i,off+fd.offset)] }))]:Step (List Wr))|none=>.go [])
        |none=>.none
       |_=>.none:Step (List Wr)).leads ws->BU P E o a W.w (s.app ws):=by
      intro h1 hnb halive hl;obtain⟨ad,zb⟩:=Gu h1 halive;have run:=run ad zb;clear hnb;generalize s.Ag x=p at hl h1 halive;split at hl
      ·rename_i r j AB;rw[AK hl];refine AP h run ?_;intro hb yB;have:=h1 hb yB;rw[zb]at this;injection this with this;injection this with this
       subst this;rw[CT]
      ·rename_i e y j;rw[AK hl];refine AP h run ?_;obtain⟨ad',g,arr,T,fr,hv,rest⟩:=h1;rw[zb]at hv;injection hv with hv;injection hv with hv
       subst hv;exact⟨ad',g,arr,T,fr,by rw[KF],rest⟩
      ·rename_i c;split at hl
       ·rename_i q i off hq;rw[AK hl];refine AP h run ?_;intro gen t0 e0 xs0 d0 xt hp;dsimp only at xt hp
        obtain⟨q',i',off',h',e',ad',n,k,hq',yW,hn,hs,hi,hv⟩:=h1 gen t0 e0 xs0 d0 xt (by
         rcases hp with hp|hp
         ·left;rw[CR hq];simpa using hp
         omega)
        rw[hq]at hq';injection hq' with hq';injection hq' with z1 z2;injection z2 with z2 z3
        subst z1;subst z2;subst z3;rw[zb]at hv;injection hv with hv;injection hv with hv
        subst hv;exact⟨q,i,off+fd.offset,h',e',ad',n,k,CE _ _ _,yW,hn,hs,hi,by rw[KF,Nat.add_assoc]⟩
       ·exact hl.elim
      ·exact hl.elim
     have hsel:∀p,s.As x=p->(∀as,p≠.bx as)->(if !s.alive p.one? then(.none:Step (List Wr))else match p.one? with
       | .ptr r j AB=>(match o.dst with|some d=>(.go [.slot d (one (.ptr r (j+fd.offset) AB))]:Step (List Wr))|none=>.go [])
       | .Du e y j=>(match o.dst with|some d=>(.go [.slot d (one (.Du e y (j+fd.offset)))]:Step (List Wr))|none=>.go [])
       | .Ba c=>match Ah c.p with
        |some (q,i,off)=>(match o.dst with|some d=>(.go [.slot d (one (.Ba { c with p:=q++[(i,off+fd.offset)] }))]:Step (List Wr))|none=>.go [])
        |none=>.none
       |_=>.none).leads ws->BU P E o a W.w (s.app ws):=by
      intro p hp hnb hl;have h1:AT s W (s.Ag x) (a.eval x):=Ad h x;split at hl
      ·exact hl.elim
      ·rename_i hal;refine yr h1 (hp▸hnb) (by rw[St.Ag,hp];grind) ?_;rw[St.Ag,hp];exact hl
     generalize hq:s.As x=p at hl h0;cases p with
     |bx as=>
      obtain⟨b,off,arr,T,fr,hv,hz,hh,yw,yL⟩:=h0;have run:=run _ hv;rw[AK hl];refine AP h run ?_;refine⟨b,off+fd.offset,arr,T,fr,by rw[CT],hz,hh,yw,λj y hy=>?_⟩;grind
     |v g as=>exact hsel _ hq so hl
     |Db vs=>exact hsel _ hq so hl
   ·exact hl.elim
  ·exact hl.elim
 ·exact hl.elim
theorem MK(hc:Di P cx)(h:AW E s a.tmps W){t:TypeId}{x:Operand}{f:Nat}(ho:o.op=.field t x f)(hl:(AA cx v o s).leads ws):BU P E o a W.w (s.app ws):=by
 simp only[AA,ho]at hl;have h1:=BK h x
 revert hl h1
 generalize s.As x=p;intro hl h1;split at hl
 ·rename_i ty as ht;split at hl
  ·rename_i fo ft hf;obtain⟨z8,fs,fd,hu,hfd,rfl,rfl⟩:=Jc hc ht hf;split at hl
   ·rename_i tf htf;split at hl
    ·rename_i hle;have hle:fd.offset+tf.ls.n<=as.length:=AAx hle;rw[AK hl];obtain⟨cs,hcs,yP,yL⟩:=h1
     have hpart:∃u,(part fd.type cs fd.offset).run P W.w=.ok u W.w/\BQ s W (.v tf.agg ((as.drop fd.offset).take tf.ls.n)) u:=by
      have htf':=hc _ _ htf;cases hag':tf.agg with
      |false=>
       obtain⟨l,zd,zR⟩:=htf'.lone hag';obtain⟨d,hd,zG⟩:=zR.JA
       have zq:(isAgg fd.type).run P W.w=.ok false W.w:=by
        unfold isAgg;rw[Sem.run_bind,run_underlying hd];cases d<;>simp_all
       have hn:tf.ls.n=1:=by rw[zd];rfl
       rw[hn]at hle ⊢;have xz:fd.offset<as.length:=J
       obtain⟨u,hu,yh⟩:=yL fd.offset as[fd.offset] (AAM xz);refine⟨u,by simp[part,zq,hu],?_⟩
       have:(as.drop fd.offset).take 1=[as[fd.offset]]:=by rw[List.drop_eq_getElem_cons xz];rfl
       rw[this];exact yh
      |true=>
       obtain⟨fs',hfs',_⟩:=htf'.agg hag'
       have zq:(isAgg fd.type).run P W.w=.ok true W.w:=by unfold isAgg;rw[Sem.run_bind,run_underlying hfs'];rfl
       refine⟨.agg (cs.extract fd.offset (fd.offset+tf.ls.n)),by simp[part,zq,Kq hc htf],_,rfl,ADb,λj y hy=>?_⟩;grind
     obtain⟨u,yK,yh⟩:=hpart;exact AP h (u:=u) (by simp[execOp,ho,Instr.field,run_underlying hu,hfd,hcs,asAgg,yK]) yh
    ·exact hl.elim
   ·exact hl.elim
  ·exact hl.elim
 ·exact hl.elim
theorem KR(h:AW E s a.tmps W){x:Operand}{i:Nat}(ho:o.op=.extract x i)(hl:(AA cx v o s).leads ws):BU P E o a W.w (s.app ws):=by
 simp only[AA,ho]at hl;have h1:=BK h x
 revert hl h1
 generalize s.As x=p;intro hl h1;split at hl
 ·rename_i vs;split at hl
  ·rename_i g as hn;rw[AK hl];rw[Fh]at hn;obtain⟨us,hus,yP,yL⟩:=h1;obtain⟨u,hu,yh⟩:=yL i _ hn;exact AP h (u:=u) (by simp[execOp,ho,Instr.extract,hus,hu]) yh
  ·exact hl.elim
 ·exact hl.elim
theorem M5(h:AW E s a.tmps W){x:Operand}(ho:o.op=.move x)(hn:Hf (s.As x)=false)(hl:(AA cx v o s).leads ws):BU P E o a W.w (s.app ws):=by simp only[AA,ho,hn]at hl;rw[AK hl];exact AP h (u:=a.eval x) (by simp[execOp,ho]) (BK h x)
theorem Nr(h:AW E s a.tmps W){c:Call}(ho:o.op=.call c)(hb:c.callee=.builtin .min)(hl:(AA cx v o s).leads ws):BU P E o a W.w (s.app ws):=by
 simp only[AA,ho,hb]at hl;split at hl
 ·rename_i x y hx;have h1:=Ad h x;have h2:=Ad h y;generalize s.Ag x=p at hl h1;generalize s.Ag y=q at hl h2;split at hl
  ·rename_i k m j n;change Int at m n;rw[AK hl];have yX:c.args = #[x,y]:=No
   obtain⟨cal,args,ats⟩:=c;dsimp only at hb yX;subst hb;subst yX;have e1:a.eval x=.int k m:=h1.1;have e2:a.eval y=.int j n:=h2.1
   have hr:(Builtin.min_ ats o.type #[.int k m,.int j n]).run P W.w=.ok (.int k (M1 m n)) W.w:=by rw[run_min_int2];unfold M1;grind
   refine AP h (u:=.int k (M1 m n)) ?_ (BY _ _);simp[execOp,ho,resolve,invoke,builtin,e1,e2];rw[hr];rfl
  ·exact hl.elim
 ·exact hl.elim
theorem Nq(h:AW E s a.tmps W){c:Call}(ho:o.op=.call c)(hb:c.callee=.builtin .max)(hl:(AA cx v o s).leads ws):BU P E o a W.w (s.app ws):=by
 simp only[AA,ho,hb]at hl;split at hl
 ·rename_i x y hx;have h1:=Ad h x;have h2:=Ad h y;generalize s.Ag x=p at hl h1;generalize s.Ag y=q at hl h2;split at hl
  ·rename_i k m j n;change Int at m n;rw[AK hl];have yX:c.args = #[x,y]:=No
   obtain⟨cal,args,ats⟩:=c;dsimp only at hb yX;subst hb;subst yX;have e1:a.eval x=.int k m:=h1.1;have e2:a.eval y=.int j n:=h2.1
   have hr:(Builtin.max_ ats o.type #[.int k m,.int j n]).run P W.w=.ok (.int k (M0 m n)) W.w:=by rw[run_max_int2];unfold M0;grind
   refine AP h (u:=.int k (M0 m n)) ?_ (BY _ _);simp[execOp,ho,resolve,invoke,builtin,e1,e2];rw[hr];rfl
  ·exact hl.elim
 ·exact hl.elim
end
end Go.Ev
namespace Go.Ev
section
variable {P:Program}{E:Ci}{s:St}{W:Wd}{o:Oper}{a:Act}{ws:List Wr}{cx:Cx}{v:Nat}
theorem Fa(hc:Di P cx){t:TypeId}{e:Ls}(h:isRow cx t e=true):∃t',P.underlying t=some (.slice t')/\NV P t' e:=by
 unfold isRow at h;split at h
 ·rename_i ty ht;simp only[AAN,AAa]at h;obtain⟨hg,h⟩:=h;split at h
  ·rename_i t' f zd;obtain rfl:=Ls.Dd h;exact⟨t',CQ hc ht zd hg⟩
  ·cases h
 ·cases h
theorem KA(hc:Di P cx){t:TypeId}(h:IH cx t .str=true):P.underlying t=some .string:=by
 unfold IH at h;split at h
 ·rename_i ty ht;simp only[AAN,AAa]at h;obtain⟨l,hl,hf⟩:=(hc t ty ht).lone h.1;rw[hl]at h;have:=h.2;simp only[Ls.eq?]at this;obtain rfl:=L.Dd this;exact hf
 ·cases h
theorem NV.sizeOf{t:TypeId}{e:Ls}(h:NV P t e)(w:World):(sizeOf t).run P w=.ok e.n w:=by obtain⟨i,hi,hs,_⟩:=h.info;simp[Go.sizeOf,typeInfo,hi,hs]
theorem IU{α:Type}{xs:List α}{n:Int}{x:α}(h:Iz xs n=some x):0<=n/\∃hx:n.toNat<xs.length,xs[n.toNat]=x:=by unfold Iz at h;grind
theorem L0{α:Type}{xs:List α}{n:Int}(h:OU xs n=true):0<=n/\n.toNat<xs.length:=by unfold OU at h;grind
theorem DX(hc:Di P cx){ti:TypeId}{e:Ls}(hr:isRow cx ti e=true){j:IntKind}{n:Int}{ad:Addr}{len c:Nat}(h0:0<=n)(hn:n.toNat<len)(w:World):
  (Instr.indexAt ti (.slice (some ad) len c) (.int j n)).run P w=.ok (.pointer (some (ad.add (n.toNat*e.n)))) w:=by
 obtain⟨t',hu,he⟩:=Fa hc hr;have:0<=n/\n<(len:Int):=J
 simp[Instr.indexAt,asIntOf,run_underlying hu,this,he.sizeOf]
theorem E0{ad:Addr}(hs:ad.spot=none)(k:Nat):ad.add k=at_ ad k:=by obtain⟨b,off,sp⟩:=ad;dsimp only at hs;subst hs;exact CT b off k
theorem JD(hc:Di P cx)(h:AW E s a.tmps W){ti:TypeId}{x i:Operand}(ho:o.op=.indexAddr ti x i)(hl:(AA cx v o s).leads ws):BU P E o a W.w (s.app ws):=by
 simp only[AA,ho]at hl;obtain⟨j,n,hi,hl⟩:=EA (Ad h i) hl;have h1:=Ad h x;generalize s.Ag x=p at hl h1;split at hl
 ·rename_i t e xs;split at hl
  ·rename_i hr;obtain⟨y,hy,hl⟩:=hl;rw[AK hl];obtain⟨h0,hx,he⟩:=IU hy;have h1:AE e 0 W.w W.fz (a.eval x) xs []:=h1;obtain⟨A,c,hv,zP,h1⟩:=h1;cases A with
   |none=>omega
   |some ad=>
    rcases h1 with h1|⟨g,os,yE,yS,zi,_,_⟩
    ·omega
    have yK:=DX (P:=P) hc hr (j:=j) (ad:=ad) (c:=c) h0 hx W.w;refine AP h (u:=.pointer (some (ad.add (n.toNat*e.n)))) (by simp[execOp,ho,hi,hv,yK]) ?_;obtain⟨hs,arr,T,fr,hh,hnn,_,hg⟩:=yE;rw[E0 hs];refine⟨at_ ad (n.toNat*e.n),λj=>g (n.toNat*e.n+j),arr,T,fr,by simp[at_],zi,hh,λj=>?_,?_⟩
    ·show g _=_;rw[hg];simp[at_,Nat.add_assoc]
    ·have:=yS n.toNat hx;rw[he]at this;have ho:os n.toNat=[]:=Ls.DE e this;rw[ho]at this;exact this
  ·exact hl.elim
 ·rename_i c;have zT:=h1;obtain⟨t0,e0,xs0,d0,gen,xt,hp,hk⟩:=CJ h hl;obtain⟨u,e',hu,hn⟩:=h1 gen t0 e0 xs0 d0 xt hp;obtain⟨t',ys,d',o',hl,yD,_⟩:=hk u e' _ hu hn;split at hl
  ·rename_i hr;rcases Al hl with⟨hb,hl⟩|⟨_,hl⟩
   ·rw[AK hl];obtain⟨h0,hx⟩:=L0 hb;obtain⟨A,cc,hv,zP,yD⟩:=yD;cases A with
    |none=>omega
    |some ad=>
     rcases yD with yD|⟨g,os,yE,yS,_⟩
     ·omega
     have yK:=DX (P:=P) hc hr (j:=j) (ad:=ad) (c:=cc) h0 hx W.w;refine AP h (u:=.pointer (some (ad.add (n.toNat*e'.n)))) (by simp[execOp,ho,hi,hv,yK]) ?_;intro gen2 t2 e2 xs2 d2 yY hp2;dsimp only at yY hp2;rw[xt]at yY;injection yY with z1 z2 z3 z4
     subst z4;rw[hv]at hn;exact⟨c.p,n.toNat,0,u,e',ad,_,cc,CE _ _ _,hu,hn,yE.1,hx,by rw[E0 yE.1];rfl⟩
   ·exact hl.elim
  ·exact hl.elim
 ·rename_i c lo zc;obtain⟨t0,e0,xs0,d0,gen,xt,hp,hk⟩:=CJ h hl;obtain⟨u,e',A0,n0,k0,hu,hn,zR,hhi,hv⟩:=h1 gen t0 e0 xs0 d0 xt hp;obtain⟨t',ys,d',o',hl,yD,_⟩:=hk u e' _ hu hn;split at hl
  ·rename_i hr;rcases Al hl with⟨hb,hl⟩|⟨_,hl⟩
   ·rw[AK hl];obtain⟨h0,hx⟩:=L0 hb;obtain⟨A,cc,zy,zP,yD⟩:=yD;injection zy with z1 z2 z3
    subst z1;subst z2;subst z3;have hx':n.toNat<zc-lo:=by simp[sub]at hx;omega
    cases A0 with
    |none=>omega
    |some ad=>
     rcases yD with yD|⟨g,os,yE,yS,_⟩
     ·omega
     have yF:k0≠lo:=J
     rw[AAT yF]at hv;have yK:=DX (P:=P) hc hr (j:=j) (ad:=ad.add (lo*e'.n)) (c:=k0-lo) h0 hx' W.w;refine AP h (u:=.pointer (some ((ad.add (lo*e'.n)).add (n.toNat*e'.n)))) (by simp[execOp,ho,hi,hv,yK]) ?_;intro gen2 t2 e2 xs2 d2 yY hp2;dsimp only at yY hp2;rw[xt]at yY;injection yY with q1 q2 q3 q4
     subst q4;exact⟨c.p,lo+n.toNat,0,u,e',ad,_,k0,CE _ _ _,hu,hn,yE.1,J,by rw[E0 yE.1,KF,AAt];rfl⟩
   ·exact hl.elim
  ·exact hl.elim
 ·exact hl.elim
theorem ML(hc:Di P cx)(h:AW E s a.tmps W){ti:TypeId}{x i:Operand}(ho:o.op=.index ti x i)(hl:(AA cx v o s).leads ws):BU P E o a W.w (s.app ws):=by
 simp only[AA,ho]at hl;obtain⟨j,n,hi,hl⟩:=EA (Ad h i) hl;have h1:=Ad h x;generalize s.Ag x=p at hl h1;split at hl
 ·rename_i b;change ADZ at b;split at hl
  ·rename_i hr;have hu:=KA hc hr;obtain⟨y,hy,hl⟩:=hl;rw[AK hl];obtain⟨h0,hx,he⟩:=IU hy;have e1:a.eval x=.string ⟨List.toArray (α:=UInt8) b⟩:=h1.1;refine AP h (u:=.int .u8 y.toNat) ?_ (BY _ _)
   have yL:(⟨List.toArray (α:=UInt8) b⟩:ByteArray)[n.toNat]?=some y:=by rw[getElem?_pos _ _ (by simpa[ByteArray.size]using hx)];congr 1
   simp[execOp,ho,hi,e1,Instr.index,asIntOf,run_underlying hu,h0,yL]
  ·exact hl.elim
 ·exact hl.elim
theorem Cn(h:AW E s a.tmps W){x:Option Operand}{d:Int}{β:Type}{k:Int->Step β}{t:β}(hl:(DQ s x d k).leads t):
  ∃n:Int,(k n).leads t/\((x=none/\n=d)\/∃y j,x=some y/\a.eval y=.int j n):=by
 cases x with
 |none=>exact⟨d,hl,.inl ⟨rfl,rfl⟩⟩
 |some y=>
  obtain⟨j,n,hi,hl⟩:=EA (Ad h y) hl;grind
theorem FE{isS:Bool}{len cap:Nat}{lo hi:Option Operand}{l m:Int}(zR:(lo=none/\l=0)\/∃y j,lo=some y/\a.eval y=.int j l)
  (hhi:(hi=none/\m=(len:Int))\/∃y j,hi=some y/\a.eval y=.int j m) (h0:0<=l) (h1:l<=m) (h2:m<=(cap:Int)) (w:World):
  (Instr.sliceBounds isS len cap (lo.map a.eval) (hi.map a.eval) none).run P w=.ok (l.toNat,m.toNat,cap) w:=by
 rcases zR with⟨rfl,rfl⟩|⟨y,j,rfl,hy⟩<;>rcases hhi with⟨rfl,rfl⟩|⟨z,k,rfl,hz⟩
 ·simp[Instr.sliceBounds]
 ·simp[Instr.sliceBounds,hz,Instr.sliceBound,asIntOf,h2,h1]
 ·simp[Instr.sliceBounds,hy,Instr.sliceBound,asIntOf,h0,h1]
 ·have:0<=m:=J
  have h3:l<=(m.toNat:Int):=J
  simp[Instr.sliceBounds,hy,hz,Instr.sliceBound,asIntOf,h0,h1,h2,this,h3];omega
theorem MM(hc:Di P cx)(h:AW E s a.tmps W){ti:TypeId}{x:Operand}{lo hi:Option Operand}(ho:o.op=.slice ti x lo hi none)(hl:(AA cx v o s).leads ws):BU P E o a W.w (s.app ws):=by
 simp only[AA,ho]at hl;have h1:=Ad h x;generalize s.Ag x=p at hl h1;split at hl
 ·rename_i b;change ADZ at b;split at hl
  ·rename_i hr;have hu:=KA hc hr;obtain⟨l,hl,zR⟩:=Cn h hl;obtain⟨m,hl,hhi⟩:=Cn h hl;rcases Al hl with⟨hb,hl⟩|⟨_,hl⟩
   ·simp only[AAN,AAh]at hb;obtain⟨⟨b0,b1⟩,b2⟩:=hb;rw[AK hl];have e1:a.eval x=.string ⟨b.toArray⟩:=h1.1;have yK:=FE (P:=P) (isS:=false) (len:=b.length) (cap:=b.length) zR hhi b0 b1 b2 W.w;refine AP h (u:=.string ((⟨b.toArray⟩:ByteArray).extract l.toNat m.toNat)) ?_ ?_
    ·have hs:(⟨b.toArray⟩:ByteArray).size=b.length:=by simp[ByteArray.size]
     simp[execOp,ho,e1,Instr.sliceAt,run_underlying hu,Instr.slice,hs,yK]
    ·have:(⟨b.toArray⟩:ByteArray).extract l.toNat m.toNat=⟨(sub b l.toNat m.toNat).toArray⟩:=by apply ByteArray.ext;rw[ByteArray.data_extract];simp[sub,List.extract_eq_take_drop]
     rw[this];exact KX _
   ·exact hl.elim
  ·exact hl.elim
 ·rename_i t e b;change List e.D at b;split at hl
  ·rename_i hr;obtain⟨l,hl,zR⟩:=Cn h hl;obtain⟨m,hl,hhi⟩:=Cn h hl;rcases Al hl with⟨hb,hl⟩|⟨_,hl⟩
   ·simp only[AAN,AAh]at hb;obtain⟨⟨b0,b1⟩,b2⟩:=hb;rw[AK hl];obtain⟨t',hu,he⟩:=Fa hc hr;have h1:AE e 0 W.w W.fz (a.eval x) b []:=h1;obtain⟨A,c,hv,zP⟩:=h1.len;rw[hv]at h1;obtain⟨o',q1,q2,_⟩:=Bw.sub h1 (lo:=l.toNat) (hi:=m.toNat) J J;have ho':o'=[]:=Bw.zero q1;subst ho';have yK:=FE (P:=P) (isS:=true) (len:=b.length) (cap:=c) zR hhi b0 b1 J W.w;refine AP h (u:=.slice (if c=l.toNat then A else A.map (·.add (l.toNat*e.n))) (m.toNat-l.toNat) (c-l.toNat)) ?_ (show AT s W (.sc (.sl t e) (sub b l.toNat m.toNat)) _ from q1);simp[execOp,ho,hv,Instr.sliceAt,run_underlying hu,Instr.slice,yK,he.sizeOf]
   ·exact hl.elim
  ·exact hl.elim
 ·rename_i c;obtain⟨t0,e0,xs0,d0,gen,xt,hp,hk⟩:=CJ h hl;obtain⟨u,e',yG,hn⟩:=h1 gen t0 e0 xs0 d0 xt hp;obtain⟨t',ys,d',o',hl,yD,_⟩:=hk u e' _ yG hn;split at hl
  ·rename_i hr;obtain⟨l,hl,zR⟩:=Cn h hl;obtain⟨m,hl,hhi⟩:=Cn h hl;rcases Al hl with⟨hb,hl⟩|⟨_,hl⟩
   ·simp only[AAN,AAh]at hb;obtain⟨⟨b0,b1⟩,b2⟩:=hb;rw[AK hl];obtain⟨t2,hu,he⟩:=Fa hc hr;obtain⟨A,cc,hv,zP⟩:=yD.len;have yK:=FE (P:=P) (isS:=true) (len:=ys.length) (cap:=cc) zR hhi b0 b1 J W.w;refine AP h (u:=.slice (if cc=l.toNat then A else A.map (·.add (l.toNat*e'.n))) (m.toNat-l.toNat) (cc-l.toNat)) ?_ ?_
    ·simp[execOp,ho,hv,Instr.sliceAt,run_underlying hu,Instr.slice,yK,he.sizeOf]
    ·intro gen2 t3 e3 xs3 d3 hleaf3 hp3;grind
   ·exact hl.elim
  ·exact hl.elim
 ·exact hl.elim
end
end Go.Ev
namespace Go.Ev
theorem A3(s:St):∀(xs ys:List Wr),s.app (xs++ys)=(s.app xs).app ys
 | [],ys=>rfl
 |x::xs,ys=>by show((s.AG x).app (xs++ys))=((s.AG x).app xs).app ys;exact A3 (s.AG x) xs ys
theorem Fc(s:St)(r j:Nat)(x:LA)(r' j':Nat):(s.AG (.leaf r j x)).leaf r' j'=if r=r'/\j=j'/\r<s.ro.length/\j<(s.root r).ls.length then x else s.leaf r' j':=by
 have ya:(s.AG (.leaf r j x)).root r'=if r=r'/\r<s.ro.length then { s.root r with ls:=DL (s.root r).ls j x }else s.root r':=BX _ _ _ _ _
 unfold St.leaf;rw[ya];by_cases h:r=r'/\r<s.ro.length
 ·obtain⟨rfl,xz⟩:=h;rw[AAS ⟨rfl,xz⟩];show nth LA.bad (DL (s.root r).ls j x) j'=_;rw[BX];by_cases hj:j=j'/\j<(s.root r).ls.length
  ·rw[AAS hj,AAS ⟨rfl,hj.1,xz,hj.2⟩]
  ·rw[AAT hj,AAT (λhh=>hj ⟨hh.2.1,hh.2.2.2⟩)]
 grind
structure JR(s s':St):Prop where
 sl:s'.sl=s.sl
 len:s'.ro.length=s.ro.length
 box:∀r,(s'.root r).box=(s.root r).box/\(s'.root r).AB=(s.root r).AB/\(s'.root r).ls.length=(s.root r).ls.length
theorem Bo(s:St)(r j:Nat)(x:LA):JR s (s.AG (.leaf r j x)) where
 sl:=rfl
 len:=CF _ _ _
 box r':=by
  have ya:(s.AG (.leaf r j x)).root r'=if r=r'/\r<s.ro.length then { s.root r with ls:=DL (s.root r).ls j x }else s.root r':=BX _ _ _ _ _
  rw[ya];by_cases h:r=r'/\r<s.ro.length
  ·obtain⟨rfl,xz⟩:=h;rw[AAS ⟨rfl,xz⟩];exact⟨rfl,rfl,CF _ _ _⟩
  grind
theorem De(s:St):∀us:List (Nat×Nat),JR s (s.app (gone us))/\∀r j,(s.app (gone us)).leaf r j=if(r,j)∈us then .bad else s.leaf r j
 | []=>⟨⟨rfl,rfl,λ_=>⟨rfl,rfl,rfl⟩⟩,λr j=>by simp[gone,St.app]⟩
 |u::us=>by
  have h1:=Bo s u.1 u.2 .bad;have h2:=Fc s u.1 u.2 .bad;obtain⟨a,b⟩:=De (s.AG (.leaf u.1 u.2 .bad)) us;refine⟨⟨a.sl.trans h1.sl,a.len.trans h1.len,λr=>⟨(a.box r).1.trans (h1.box r).1,(a.box r).2.1.trans (h1.box r).2.1,(a.box r).2.2.trans (h1.box r).2.2⟩⟩,λr j=>?_⟩;show((s.AG (.leaf u.1 u.2 .bad)).app (gone us)).leaf r j=_;rw[b,h2];by_cases hm:(r,j)∈us
  ·grind
  ·rw[AAT hm];by_cases he:(r,j)=u
   ·have xv:(r,j)∈u::us:=by rw[he];exact AAo
    rw[AAS xv];subst he;split
    ·rfl
    ·rename_i yF;unfold St.leaf;by_cases hr:r<s.ro.length
     ·rw[Au];exact AA1 λhj=>yF ⟨rfl,rfl,hr,hj⟩
     ·have:s.root r=dead:=Au _ (AA1 hr);rw[this];rfl
   grind
section
variable {P:Program}{E:Ci}{s:St}{tm:Array Value}{W:Wd}{v:Nat}
def AL(W:Wd)(w':World)(us:List (Nat×Nat))(d:Nat)(cvd:Nat->Option Value)(bkd:Nat)(ob:It)(oj:Nat->It):Wd:=
 {w:=w',fz:=W.fz
  cv:=λr j=>if r=d then cvd j else W.cv r j
  bk:=λr=>if r=d then bkd else W.bk r
  om:=λk=>match k with
   | .blk r=>if r=d then ob else W.om (.blk r)
   | .lf r j=>if r=d then oj j else if(r,j)∈us then []else W.om (.lf r j)
   | .fl _=>[] }
def Kept(us:List (Nat×Nat))(d:Nat):Key->Prop
 | .blk r=>r≠d
 | .lf r j=>r≠d/\(r,j)∉us
 | .fl _=>False
theorem AW.KT(h:AW E s tm W)(hv:Aj s v){us:List (Nat×Nat)}{d:Nat}(hd:d<tm.size){x:Bv}{a:AV}{u:Value}{w':World}{cvd:Nat->Option Value}{bkd:Nat}{ob:It}{oj:Nat->It}
  (hx:x.AB=v) (hxl:∀(j AB gen:Nat)(t:TypeId)(e:Ls)(xs:List e.D)(dd:Nat),nth .bad x.ls j=.arr AB gen t e xs dd->AB=v)
  (hw:∀b,(W.fz b\/∃k,Kept us d k/\b∈W.om k)->w'.heap[b]?=W.w.heap[b]?)
  (yw:∀b,b<E.base->¬E.io b->w'.heap[b]?=W.w.heap[b]?) (yP:W.w.heap.size<=w'.heap.size) (ho:w'.os=W.w.os/\w'.tape=W.w.tape/\w'.output=W.w.output)
  (hnb:ob.Nodup) (hnj:∀j,(oj j).Nodup) (hdb:∀j,∀b∈ob,b∉oj j) (hdj:∀i j,i≠j->∀b∈oj i,b∉oj j)
  (zC:∀b,(b∈ob\/∃j,b∈oj j)->(∃k,¬Kept us d k/\b∈W.om k)\/(W.w.heap.size<=b/\b<w'.heap.size))
  (ya:Eh v s (s.app (gone us++[.root d x,.slot d a])) W (AL W w' us d cvd bkd ob oj)->(s.app (gone us++[.root d x,.slot d a])).root d=x->D7 (s.app (gone us++[.root d x,.slot d a])) (AL W w' us d cvd bkd ob oj) d x)
  (hslot:Eh v s (s.app (gone us++[.root d x,.slot d a])) W (AL W w' us d cvd bkd ob oj)->(s.app (gone us++[.root d x,.slot d a])).root d=x->BQ (s.app (gone us++[.root d x,.slot d a])) (AL W w' us d cvd bkd ob oj) a u):
  AW E (s.app (gone us++[.root d x,.slot d a])) (tm.setIfInBounds d u) (AL W w' us d cvd bkd ob oj):=by
 obtain⟨yA,xt⟩:=De s us;generalize hs':s.app (gone us++[.root d x,.slot d a])=s' at *;rw[A3]at hs';generalize s.app (gone us)=s1 at yA xt hs';have hd1:d<s1.ro.length:=by rw[yA.len,h.Bb];exact hd
 have hd2:d<s1.sl.length:=by rw[yA.sl,h.DT];exact hd
 have za:∀r,s'.root r=if d=r then x else s1.root r:=by
  intro r;subst hs';show((s1.AG (.root d x)).AG (.slot d a)).root r=_;have:((s1.AG (.root d x)).AG (.slot d a)).root r=(s1.AG (.root d x)).root r:=rfl;rw[this,Aq];by_cases hdr:d=r
  ·grind
  ·grind
 have hslots:∀t,s'.slot t=if d=t then a else s.slot t:=by
  intro t;subst hs';show((s1.AG (.root d x)).AG (.slot d a)).slot t=_;rw[BF];by_cases hdr:d=t
  ·rw[AAS ⟨hdr,hd2⟩,AAS hdr]
  ·rw[AAT (λhh=>hdr hh.1),AAT hdr];show nth _ s1.sl t=_;rw[yA.sl];rfl
 have hleaves:∀r j,s'.leaf r j=if d=r then nth .bad x.ls j else if(r,j)∈us then .bad else s.leaf r j:=by
  intro r j;unfold St.leaf;rw[za];by_cases hdr:d=r
  ·grind
  ·rw[AAT hdr,AAT hdr];exact xt r j
 have yT:Eh v s s' W (AL W w' us d cvd bkd ob oj):={
  fz:=λb hb=>hb
  Lf:=λb hb=>hw b (.inl hb)
  leaf:=by
   intro r j AB gen t e xs dd hl yF;rw[hleaves]at hl;by_cases hdr:d=r
   ·grind
   ·rw[AAT hdr]at hl;by_cases hm:(r,j)∈us
    ·grind
    ·rw[AAT hm]at hl;refine⟨AAT (λe=>hdr e.symm),gen,t,xs,dd,hl,λ_=>⟨rfl,λp h' e' u' hc hn=>?_⟩⟩;obtain⟨u0,zN,yD⟩:=(h.roots r).row hl;rw[hc]at zN;injection zN with zN;subst zN
     exact BN p yD hn λb hb=>hw b (hb.elim (λhb=>.inr ⟨.lf r j,⟨λe=>hdr e.symm,hm⟩,hb⟩) .inl)
  box:=by
   intro r hb yF;rw[za]at hb yF ⊢;by_cases hdr:d=r
   ·grind
   ·rw[AAT hdr]at hb yF ⊢;obtain⟨b1,b2,b3⟩:=yA.box r;exact⟨b1▸hb,b2.symm,AAT (λe=>hdr e.symm)⟩ }
 have zu:Sep E (AL W w' us d cvd bkd ob oj):=by
  refine h.sep.IG (λk=>¬Kept us d k) rfl yP yw ho ?_ ?_ ?_ ?_
  ·intro k hk;have hk:Kept us d k:=ABG.1 hk;cases k with
   |blk r=>exact AAT hk
   |lf r j=>show(if r=d then oj j else if(r,j)∈us then []else W.om (.lf r j))=_;rw[AAT hk.1,AAT hk.2]
   |fl k=>exact hk.elim
  ·intro k hk;cases k with
   |blk r=>
    have:r=d:=ABG.1 hk;show(if r=d then ob else W.om (.blk r)).Nodup;grind
   |lf r j=>
    show(if r=d then oj j else if(r,j)∈us then []else W.om (.lf r j)).Nodup;by_cases hr:r=d
    ·grind
    ·rw[AAT hr];by_cases hm:(r,j)∈us
     ·grind
     ·exact absurd ⟨hr,hm⟩ hk
   |fl k=>exact AAW
  ·intro k k' hk zJ yF b hb yH;cases k with
   |fl k=>cases hb
   |blk r=>
    have hr:r=d:=ABG.1 hk;subst hr;have hb:b∈ob:=by have:b∈(if r=r then ob else W.om (.blk r)):=hb;grind
    cases k' with
    |fl k=>cases yH
    |blk r'=>have yi:r'=r:=ABG.1 zJ;grind
    |lf r' j'=>
     have yH:b∈(if r'=r then oj j' else if(r',j')∈us then []else W.om (.lf r' j')):=yH;by_cases yi:r'=r
     ·grind
     ·rw[AAT yi]at yH;by_cases hm:(r',j')∈us
      ·grind
      ·exact zJ ⟨yi,hm⟩
   |lf r j=>
    have hb:b∈(if r=d then oj j else if(r,j)∈us then []else W.om (.lf r j)):=hb;by_cases hr:r=d
    ·rw[AAS hr]at hb;cases k' with
     |fl k=>cases yH
     |blk r'=>
      have yi:r'=d:=ABG.1 zJ;have yH:b∈(if r'=d then ob else W.om (.blk r')):=yH;grind
     |lf r' j'=>
      have yH:b∈(if r'=d then oj j' else if(r',j')∈us then []else W.om (.lf r' j')):=yH;by_cases yi:r'=d
      ·grind
      ·rw[AAT yi]at yH;by_cases hm:(r',j')∈us
       ·grind
       ·exact zJ ⟨yi,hm⟩
    ·rw[AAT hr]at hb;by_cases hm:(r,j)∈us
     ·grind
     ·exact hk ⟨hr,hm⟩
  ·intro k hk b hb
   have hb2:b∈ob\/∃j,b∈oj j:=by
    cases k with
    |fl k=>cases hb
    |blk r=>
     have hr:r=d:=ABG.1 hk;have hb:b∈(if r=d then ob else W.om (.blk r)):=hb;grind
    |lf r j=>
     have hb:b∈(if r=d then oj j else if(r,j)∈us then []else W.om (.lf r j)):=hb;by_cases hr:r=d
     ·grind
     ·rw[AAT hr]at hb;by_cases hm:(r,j)∈us
      ·grind
      ·exact absurd ⟨hr,hm⟩ hk
   exact zC b hb2
 refine h.IG hv yT zu ?_ ?_ ?_ ?_
 ·subst hs';simp only[St.app,St.AG,CF,Array.size_setIfInBounds];rw[yA.sl,h.DT]
 ·subst hs';simp only[St.app,St.AG,CF,Array.size_setIfInBounds];rw[yA.len,h.Bb]
 ·intro t;rw[hslots];by_cases hdt:d=t
  ·right;rw[AAS hdt];have:(tm.setIfInBounds d u).getD t Go.undef=u:=by subst hdt;simp[AAz,hd]
   grind
  ·left;rw[AAT hdt];exact⟨rfl,by simp[AAz,hdt]⟩
 ·intro r;rw[za];by_cases hdr:d=r
  ·grind
  ·rw[AAT hdr];obtain⟨h1,h2⟩:=h.roots r;obtain⟨b1,b2,b3⟩:=yA.box r;have hdr':¬r=d:=λe=>hdr e.symm;refine⟨λj=>?_,?_⟩
   ·have e1:(AL W w' us d cvd bkd ob oj).cv r j=W.cv r j:=AAT hdr';have e2:(AL W w' us d cvd bkd ob oj).om (.lf r j)=if(r,j)∈us then []else W.om (.lf r j):=AAT hdr'
    have e3:nth LA.bad (s1.root r).ls j=if(r,j)∈us then .bad else s.leaf r j:=xt r j
    rw[e1,e2,e3];by_cases hm:(r,j)∈us
    ·rw[AAS hm,AAS hm];exact⟨rfl,λ_ _=>trivial⟩
    ·rw[AAT hm,AAT hm];exact Aa.Dh yT (hv.2.1 r j) (λb hb=>hw b (.inr ⟨.lf r j,⟨hdr',hm⟩,hb⟩)) (h1 j)
   ·have e1:(AL W w' us d cvd bkd ob oj).om (.blk r)=W.om (.blk r):=AAT hdr';have e2:(AL W w' us d cvd bkd ob oj).bk r=W.bk r:=AAT hdr';rw[b1,e1,e2];split
    ·rename_i hb;rw[AAS hb]at h2;obtain⟨ho',arr,T,fr,hh,a1,a2,a3⟩:=h2;refine⟨ho',arr,T,fr,(hw _ (.inr ⟨.blk r,hdr',by rw[ho'];simp⟩)).trans hh,a1,by rw[b3];exact a2,λj=>?_⟩;show(if r=d then cvd j else W.cv r j)=_;rw[AAT hdr'];exact a3 j
    grind
theorem AW.place(h:AW E s tm W)(hv:Aj s v){us:List (Nat×Nat)}{d:Nat}(hd:d<tm.size){x:Bv}{a:AV}{u:Value}{w':World}{cvd:Nat->Option Value}{bkd:Nat}{ob:It}{oj:Nat->It}
  (hx:x.AB=v) (hxl:∀(j AB gen:Nat)(t:TypeId)(e:Ls)(xs:List e.D)(dd:Nat),nth .bad x.ls j=.arr AB gen t e xs dd->AB=v)
  (hw:∀b,(W.fz b\/∃k,Kept us d k/\b∈W.om k)->w'.heap[b]?=W.w.heap[b]?)
  (yw:∀b,b<E.base->¬E.io b->w'.heap[b]?=W.w.heap[b]?) (yP:W.w.heap.size<=w'.heap.size) (ho:w'.os=W.w.os/\w'.tape=W.w.tape/\w'.output=W.w.output)
  (hnb:ob.Nodup) (hnj:∀j,(oj j).Nodup) (hdb:∀j,∀b∈ob,b∉oj j) (hdj:∀i j,i≠j->∀b∈oj i,b∉oj j)
  (zC:∀b,(b∈ob\/∃j,b∈oj j)->(∃r j,(r,j)∈us/\b∈W.om (.lf r j))\/(W.w.heap.size<=b/\b<w'.heap.size))
  (ya:Eh v s (s.app (gone us++[.root d x,.slot d a])) W (AL W w' us d cvd bkd ob oj)->(s.app (gone us++[.root d x,.slot d a])).root d=x->D7 (s.app (gone us++[.root d x,.slot d a])) (AL W w' us d cvd bkd ob oj) d x)
  (hslot:Eh v s (s.app (gone us++[.root d x,.slot d a])) W (AL W w' us d cvd bkd ob oj)->(s.app (gone us++[.root d x,.slot d a])).root d=x->BQ (s.app (gone us++[.root d x,.slot d a])) (AL W w' us d cvd bkd ob oj) a u):
  AW E (s.app (gone us++[.root d x,.slot d a])) (tm.setIfInBounds d u) (AL W w' us d cvd bkd ob oj):=
 h.KT hv hd hx hxl hw yw yP ho hnb hnj hdb hdj (λb hb=>(zC b hb).imp (λ⟨r,j,hm,h0⟩=>⟨.lf r j,λhk=>hk.2 hm,h0⟩) id) ya hslot
end
end Go.Ev
namespace Go.Ev
section
variable {P:Program}{E:Ci}{s:St}{tm:Array Value}{W:Wd}{v:Nat}{cx:Cx}{β:Type}{t:β}
theorem AW.C5(h:AW E s tm W)(hv:Aj s v)(us:List (Nat×Nat)){d:Nat}(hd:d<tm.size){t0:TypeId}{e:Ls}{xs:List e.D}{dd:Nat}{u:Value}{w':World}{o:It}
  (hw:∀b,(W.fz b\/∃k,Kept us d k/\b∈W.om k)->w'.heap[b]?=W.w.heap[b]?)
  (yw:∀b,b<E.base->¬E.io b->w'.heap[b]?=W.w.heap[b]?) (yP:W.w.heap.size<=w'.heap.size) (ho:w'.os=W.w.os/\w'.tape=W.w.tape/\w'.output=W.w.output)
  (hr:AE e dd w' W.fz u xs o) (hn:o.Nodup) (zC:∀b∈o,(∃r j,(r,j)∈us/\b∈W.om (.lf r j))\/(W.w.heap.size<=b/\b<w'.heap.size)):
  ∃W',W'.w=w'/\AW E (s.app (gone us++[.root d ⟨false,v,[.arr v v t0 e xs dd]⟩,.slot d (one (.ref ⟨d,0,v,v,[]⟩))])) (tm.setIfInBounds d u) W':=by
 refine⟨AL W w' us d (λj=>if j=0 then some u else none) 0 [] (λj=>if j=0 then o else []),rfl,?_⟩;obtain⟨yA,xt⟩:=De s us;refine h.place hv hd rfl ?_ hw yw yP ho AAW ?_ (λj b hb=>by cases hb) ?_ ?_ ?_ ?_
 ·intro j AB gen t e xs dd' hl;cases j with
  |zero=>simp only[nth]at hl;grind
  |succ j=>simp[nth]at hl
 ·grind
 ·grind
 ·grind
 ·intro _ _;refine⟨λj=>?_,?_⟩
  ·cases j with
   |zero=>
    refine⟨u,by simp[AL],?_⟩;have:(AL W w' us d (λj=>if j=0 then some u else none) 0 [] (λj=>if j=0 then o else [])).om (.lf d 0)=o:=by simp[AL]
    rw[this];exact hr
   |succ j=>
    have h1:nth LA.bad [LA.arr v v t0 e xs dd] (j+1)=.bad:=by simp[nth]
    have h2:(AL W w' us d (λj=>if j=0 then some u else none) 0 [] (λj=>if j=0 then o else [])).om (.lf d (j+1))=[]:=by simp[AL]
    rw[h1,h2];exact⟨rfl,λ_ _=>trivial⟩
  ·show(if false=true then _ else _);simp[AL]
 ·intro _ _ gen t e2 xs2 d2 hl hp;refine⟨u,e2,?_,rfl,rfl⟩;simp[AL]
def JS(s:St)(W:Wd)(v:Nat)(b:LA)(u:Value)(o:It)(us:List (Nat×Nat)):Prop:=
 u.oneCell'=true/\o.Nodup/\(∀b∈o,∃r j,(r,j)∈us/\b∈W.om (.lf r j))/\match b with
  | .arr AB gen _ e xs d=>AB=v/\gen=v/\AE e d W.w W.fz u xs o
  |b=>o=[]/\AT s W b u/\v∉b.AF
theorem cells_one{u:Value}(h:u.oneCell'=true):u.cells = #[u]:=by
 cases u<;>first|rfl|cases h
theorem MV:∀(l:L) {w:World} {fz:Nat->Prop} {u:Value} {x:l.D},l.rd 0 w fz u x []->u.oneCell'=true
 | .int k,_,_,u,x,h=>by rw[show u=.int k x from h.1];rfl
 | .bool,_,_,u,x,h=>by rw[show u=.bool x from h.1];rfl
 | .str,_,_,u,x,h=>by rw[show u=.string ⟨x.toArray⟩from h.1];rfl
 | .sl _ e,_,_,u,x,h=>by obtain⟨A,c,hu,_⟩:=AE.len (show AE e 0 _ _ u x []from h);rw[hu];rfl
theorem Ku(h:AW E s tm W){la:LA}(zp:v∉la.AF){u:Value}(hu:AT s W la u){l:L}{k:LA->List (Nat×Nat)->Step β}(hl:(s.take cx v la l k).leads t):
  ∃b us o,(k b us).leads t/\JS s W v b u o us/\(∀x∈us,cx.LL x.1=false)/\us.length<=1:=by
 unfold St.take at hl;cases la with
 |sc m x=>
  simp only at hl;split at hl
  ·exact⟨_,_,[],hl,⟨MV m hu,AAW,(λb hb=>by cases hb),rfl,hu,zp⟩,(λx hx=>by cases hx),so⟩
  ·exact hl.elim
 |C6=>
  cases l with
  |sl t' e=>
   refine⟨_,_,[],hl,⟨by rw[show u=.slice none 0 0 from hu];rfl,AAW,(λb hb=>by cases hb),rfl,rfl,?_⟩,(λx hx=>by cases hx),so⟩;rw[show u=.slice none 0 0 from hu];exact Bt
  |_=>exact hl.elim
 |ref c=>
  simp only at hl;split at hl
  ·rename_i AB gen t' e xs d xt;split at hl
   ·obtain⟨t2,e2,ys,d2,o2,hl,hr,ho⟩:=DA h hu hl;split at hl
    ·obtain⟨u0,_,hr0⟩:=(h.roots c.r).row xt;have hz:W.om (.lf c.r c.j)=[]:=AE.zero hr0;obtain⟨A,cc,huv,_⟩:=hr.len;exact⟨_,_,[],hl,⟨by rw[huv];rfl,AAW,(λb hb=>by cases hb),rfl,hr.freeze λb hb=>hb.elim id λhb=>No,by simp[LA.AF]⟩,(λx hx=>by cases hx),so⟩
    ·exact hl.elim
   ·split at hl
    ·rename_i hc;simp only[AAN,AAX,AAa]at hc;obtain⟨⟨⟨yB,hp⟩,hpin⟩,hk⟩:=hc;subst yB;have hp:c.p=[]:=by cases hq:c.p<;>simp_all[isNil]
     obtain⟨h',e',yW,hn⟩:=hu _ _ _ _ _ xt (.inl hp);rw[hp]at hn;obtain⟨rfl,rfl⟩:=hn;obtain⟨u',yG,yD⟩:=(h.roots c.r).row xt;rw[yW]at yG;injection yG with yG;subst yG
     obtain⟨A,cc,huv,_⟩:=yD.len;refine⟨_,_,W.om (.lf c.r c.j),hl,⟨by rw[huv];rfl,h.sep.nodup _,λb hb=>⟨c.r,c.j,so,hb⟩,rfl,rfl,yD⟩,λx hx=>?_,so⟩;grind
    ·exact hl.elim
  ·exact hl.elim
 |D0 c lo hi=>
  simp only at hl;split at hl
  ·rename_i AB gen t' e xs d xt;split at hl
   ·rename_i hc;simp only[AAN,AAX,AAa]at hc;obtain⟨⟨⟨yB,hp⟩,hpin⟩,hk⟩:=hc;subst yB;have hp:c.p=[]:=by cases hq:c.p<;>simp_all[isNil]
    obtain⟨h',e',A,n,k0,yW,hn,h1,h2,huv⟩:=hu gen t' e xs d xt (.inl hp);rw[hp]at hn;obtain⟨rfl,rfl⟩:=hn;obtain⟨u',yG,yD⟩:=(h.roots c.r).row xt;rw[yW]at yG;injection yG with yG;subst yG
    obtain⟨o',q1,q2,q3⟩:=Bw.sub yD h1 h2;refine⟨_,_,o',hl,⟨by rw[huv];rfl,q3 (h.sep.nodup _),λb hb=>⟨c.r,c.j,so,q2 b hb⟩,rfl,rfl,?_⟩,λx hx=>?_,so⟩
    ·rw[huv];exact q1
    grind
   ·exact hl.elim
  ·exact hl.elim
 |ptr r j AB=>
  simp only at hl;split at hl
  ·rename_i hc;simp only[AAN,AAX]at hc;refine⟨_,_,[],hl,⟨by rw[hu hc.1 hc.2];rfl,AAW,(λb hb=>by cases hb),rfl,hu,zp⟩,(λx hx=>by cases hx),so⟩
  ·exact hl.elim
 |fn f=>exact⟨_,_,[],hl,⟨by rw[show u=_ from hu];rfl,AAW,(λb hb=>by cases hb),rfl,hu,zp⟩,(λx hx=>by cases hx),so⟩
 |_=>exact hl.elim
theorem ER(h:AW E s tm W):∀ {ls:List L} {as:List LA} {g:Nat->Option Value} {k:List LA->List (Nat×Nat)->Step β},(∀(j:Nat)(b:LA),as[j]?=some b->v∉b.AF/\∃u,g j=some u/\AT s W b u)->
  (s.Fo cx v ls as k).leads t->∃(bs:List LA) (us:List (Nat×Nat)) (os:Nat->It),(k bs us).leads t/\bs.length=as.length/\as.length=ls.length/\us.Nodup/\(∀x∈us,cx.LL x.1=false)/\
   (∀i j,i≠j->∀b∈os i,b∉os j)/\(∀j,as.length<=j->os j=[])/\∀(j:Nat)(b:LA),bs[j]?=some b->∃u,g j=some u/\JS s W v b u (os j) us
 | [],[],g,k,hg,hl=>⟨[],[],λ_=>[],hl,rfl,rfl,AAW,(λx hx=>by cases hx),(λ_ _ _ b hb=>by cases hb),λ_ _=>rfl,(λj b hb=>by simp at hb)⟩
 | [],_::_,g,k,hg,hl=>hl.elim
 |_::_,[],g,k,hg,hl=>hl.elim
 |l::ls,a::as,g,k,hg,hl=>by
  obtain⟨zp,u,hu,ha⟩:=hg 0 a rfl;obtain⟨b,us,o,hl,hb,hbx,hlen1⟩:=Ku h zp ha hl;obtain⟨bs,vs,os,hl,hlen,hlen2,zG,hbx2,yv,hbig,zr⟩:=ER h (g:=λj=>g (j+1)) (λj b hj=>hg (j+1) b No) hl;split at hl
  ·rename_i zA
   have hapart:∀x∈us,x∉vs:=by intro x hx hx';have:=AAZ.1 zA x hx;simp at this;exact this hx'
   refine⟨b::bs,us++vs,λj=>match j with|0=>o|j+1=>os j,hl,by simp[hlen],by simp[hlen2],?_,?_,?_,?_,?_⟩
   ·grind
   ·grind
   ·have cross:∀j,∀y∈o,y∉os j:=by
     intro j y hy hy';obtain⟨r,jj,hm,h1⟩:=hb.2.2.1 y hy;by_cases hj:j<bs.length
     ·obtain⟨u',_,ht⟩:=zr j bs[j] (AAM hj);obtain⟨r',jj',zU,zT⟩:=ht.2.2.1 y hy';by_cases he:(r,jj)=(r',jj')
      ·exact hapart _ hm (by rw[he];exact zU)
      ·exact h.sep.A4 (.lf r jj) (.lf r' jj') (λe=>he (by injection e with e1 e2;rw[e1,e2])) y h1 zT
     ·rw[hbig j J]at hy';cases hy'
    grind
   ·grind
   ·intro j y hy;cases j with
    |zero=>
     simp at hy;subst hy;refine⟨u,hu,hb.1,hb.2.1,λz hz=>?_,hb.2.2.2⟩;obtain⟨r,jj,hm,h1⟩:=hb.2.2.1 z hz;grind
    |succ j=>
     obtain⟨u',yG,ht⟩:=zr j y ADu;refine⟨u',yG,ht.1,ht.2.1,λz hz=>?_,ht.2.2.2⟩;obtain⟨r,jj,hm,h1⟩:=ht.2.2.1 z hz;grind
  ·exact hl.elim
end
end Go.Ev
namespace Go.Ev
section
variable {P:Program}{E:Ci}{s:St}{W:Wd}{o:Oper}{a:Act}{ws:List Wr}{cx:Cx}{v:Nat}{tm:Array Value}
theorem Br(h:AW E s a.tmps W){u:Value}{w':World}{W':Wd}{d:Nat}(hd:o.dst=some d)(yK:(execOp a.eval o).run P W.w=.ok (.value u) w')(hw:W'.w=w')
  (hr:AW E (s.app ws) (a.tmps.setIfInBounds d u) W'):BU P E o a W.w (s.app ws):=by
 intro next Q hn
 unfold Oper.wp;rw[yK];show next (a.put o.dst u) w'
 rw[hd,<-hw];exact hn _ W' rfl hr
theorem AZ(x:Value):(ofConst x).AF=[]:=by
 cases x with
 |slice A n c=>
  cases A with
  |none=>cases n with
   |zero=>cases c<;>rfl
   |succ n=>rfl
  |some a=>rfl
 |pointer A=>cases A<;>rfl
 |_=>rfl
theorem Fi(hv:Aj s v)(x:Operand):v∉(s.As x).AF:=by
 cases x with
 |tmp t=>exact hv.1 t
 |const c=>
  cases c with
  |agg cs=>
   show v∉(cs.toList.map ofConst).flatMap LA.AF;intro xv;obtain⟨b,hb,xv⟩:=AAP.1 xv;obtain⟨y,_,rfl⟩:=AAw.1 hb;rw[AZ]at xv;cases xv
  |bool b=>simp[St.As,AV.AF,AZ]
  |int k n=>simp[St.As,AV.AF,AZ]
  |float k n=>simp[St.As,AV.AF,AZ]
  |complex k x y=>simp[St.As,AV.AF,AZ]
  |string b=>simp[St.As,AV.AF,AZ]
  |pointer b=>simp[St.As,AV.AF,AZ]
  |slice b n c=>simp[St.As,AV.AF,AZ]
  |map r=>simp[St.As,AV.AF,AZ]
  |chan r=>simp[St.As,AV.AF,AZ]
  |func f x y=>simp[St.As,AV.AF,AZ]
  |nilFunc=>simp[St.As,AV.AF,AZ]
  |iface t x=>simp[St.As,AV.AF,AZ]
  |nilIface=>simp[St.As,AV.AF,AZ]
  |tuple vs=>simp[St.As,AV.AF,AZ]
 |global g=>simp[St.As,AV.AF,LA.AF]
 |func f=>simp[St.As,AV.AF,LA.AF]
theorem MG{x:AV}(h:v∉x.AF):v∉x.one?.AF:=by
 cases x with
 |Db vs=>simp[AV.one?,LA.AF]
 |bx as=>simp[AV.one?,LA.AF]
 |v g as=>
  cases g with
  |true=>simp[AV.one?,LA.AF]
  |false=>cases as with
   |nil=>simp[AV.one?,LA.AF]
   |cons b bs=>cases bs with
    |nil=>simpa[AV.one?,AV.AF]using h
    |cons=>simp[AV.one?,LA.AF]
theorem Ib(hv:Aj s v)(x:Operand):v∉(s.Ag x).AF:=MG (Fi hv x)
theorem LK(h:AW E s a.tmps W)(hv:Aj s v){x:Operand}(ho:o.op=.assign x)(hd:∀d,o.dst=some d->d<a.tmps.size)(hl:(AA cx v o s).leads ws):BU P E o a W.w (s.app ws):=by
 simp only[AA,ho]at hl;have yK:(execOp a.eval o).run P W.w=.ok (.value (a.eval x)) W.w:=by simp[execOp,ho]
 have h1:=Ad h x;have zp:=Ib hv x;cases yp:o.dst with
 |none=>rw[yp]at hl;exact hl.elim
 |some d=>
  rw[yp]at hl;dsimp only at hl;generalize s.Ag x=p at hl h1 zp
  have val:∀y,AT s W y (a.eval x)->ws=[.slot d (one y)]->BU P E o a W.w (s.app ws):=by intro y hy hws;subst hws;exact Br h yp yK rfl (h.slot d (show BQ s W (one y) _ from hy))
  split at hl
  ·exact val _ h1 hl.symm
  ·exact val _ h1 hl.symm
  ·exact val _ h1 hl.symm
  ·exact val _ h1 hl.symm
  ·exact val _ h1 hl.symm
  ·exact val _ h1 hl.symm
  ·split at hl
   ·exact hl.elim
   ·split at hl
    ·rename_i ty zv;split at hl
     ·rename_i l zd;obtain⟨b,us,oo,hl,hb,hbx,_⟩:=Ku h zp h1 hl;split at hl
      ·rename_i t e xs dd;have hl:_=ws:=hl;obtain⟨yU,zG,zC,rfl,rfl,yE⟩:=hb;obtain⟨W',zL,xw⟩:=h.C5 hv us (hd d yp) (t0:=t) (w':=W.w) (λb hb=>rfl) (λb _ _=>rfl) (AAi _) ⟨rfl,rfl,rfl⟩ yE zG (λb hb=>.inl (zC b hb));rw[hl]at xw;exact Br h yp yK zL xw
      ·exact hl.elim
     ·exact hl.elim
    ·exact hl.elim
theorem KS(h:AW E s a.tmps W)(hv:Aj s v){x:Operand}(ho:o.op=.move x)(hn:Hf (s.As x)=true)(hd:∀d,o.dst=some d->d<a.tmps.size)(hl:(AA cx v o s).leads ws):BU P E o a W.w (s.app ws):=by
 simp only[AA,ho,hn,if_true]at hl
 have zw:a.eval x=.slice none 0 0:=by
  have h1:=BK h x
  revert hn h1
  generalize s.As x=p;intro hn h1;unfold Hf at hn;split at hn
  ·exact h1
  ·cases hn
 split at hl
 ·rename_i ty d zv yp;split at hl
  ·exact hl.elim
  ·split at hl
   ·rename_i t e zd;have hl:_=ws:=hl;obtain⟨W',zL,xw⟩:=h.C5 hv [] (hd d yp) (t0:=t) (e:=e) (xs:=[]) (dd:=2) (u:=.slice none 0 0) (w':=W.w) (o:=[]) (λb hb=>rfl) (λb _ _=>rfl) (AAi _) ⟨rfl,rfl,rfl⟩ Bt AAW (λb hb=>by cases hb);rw[<-hl];exact Br h yp (by simp[execOp,ho,zw]) zL xw
   ·exact hl.elim
 ·exact hl.elim
theorem Bh(w:World)(x:Obj){b:Nat}(h:b<w.heap.size):(w.alloc x).heap[b]?=w.heap[b]?:=heap_alloc_old w x h
theorem BR(w:World)(x:Obj):(w.alloc x).heap.size=w.heap.size+1:=by show(w.heap.push x).size=_;simp
theorem EO(h:AW E s tm W)(x:Obj){us:List (Nat×Nat)}{d:Nat}:∀b,(W.fz b\/∃k,Kept us d k/\b∈W.om k)->(W.w.alloc x).heap[b]?=W.w.heap[b]?:=by
 intro b hb;refine Bh _ _ ?_;rcases hb with hb|⟨k,_,hb⟩
 ·exact(h.sep.fz b hb).1
 ·exact(h.sep.own k b hb).2.1
theorem AW.Hp(h:AW E s tm W)(hv:Aj s v){us:List (Nat×Nat)}{d:Nat}(hd:d<tm.size){bs:List LA}{cs:Array Value}{T:TypeId}{os:Nat->It}
  (hlen:cs.size=bs.length) (zr:∀(j:Nat)(b:LA),bs[j]?=some b->∃u,cs[j]?=some u/\JS s W v b u (os j) us) (yv:∀i j,i≠j->∀b∈os i,b∉os j) (hbig:∀j,bs.length<=j->os j=[]):
  ∃W',W'.w=W.w.alloc (.cells cs T)/\AW E (s.app (gone us++F6 d v bs)) (tm.setIfInBounds d (.pointer (some ⟨W.w.heap.size,0,none⟩))) W':=by
 refine⟨AL W (W.w.alloc (.cells cs T)) us d (λj=>cs[j]?) W.w.heap.size [W.w.heap.size] os,rfl,?_⟩
 have hnth:∀j,j<bs.length->∃u,cs[j]?=some u/\JS s W v (nth .bad bs j) u (os j) us:=by intro j hj;have:=zr j bs[j] (AAM hj);rw[Ae,AAM hj];exact this
 have zD:∀j,∀b∈os j,∃r k,(r,k)∈us/\b∈W.om (.lf r k):=by
  intro j b hb;by_cases hj:j<bs.length
  ·obtain⟨u,_,ht⟩:=hnth j hj;exact ht.2.2.1 b hb
  ·grind
 have hold:∀j,∀b∈os j,b<W.w.heap.size:=by intro j b hb;obtain⟨r,k,_,h1⟩:=zD j b hb;exact(h.sep.own _ b h1).2.1
 refine h.place hv hd rfl ?_ (EO h _) (λb hb _=>Bh _ _ ADx) (by rw[BR];omega) ⟨rfl,rfl,rfl⟩ (AAf.2 ⟨so,AAW⟩) ?_ ?_ yv ?_ ?_ ?_
 ·intro j AB gen t e xs dd hl;by_cases hj:j<bs.length
  ·obtain⟨u,_,ht⟩:=hnth j hj;dsimp only at hl;rw[hl]at ht;exact ht.2.2.2.1
  ·dsimp only at hl;rw[Au LA.bad (AA1 hj)]at hl;cases hl
 ·intro j;by_cases hj:j<bs.length
  ·obtain⟨u,_,ht⟩:=hnth j hj;exact ht.2.1
  grind
 ·grind
 ·intro b hb;rcases hb with hb|⟨j,hb⟩
  ·simp at hb;subst hb;exact .inr ⟨AAi _,by rw[BR];omega⟩
  grind
 ·intro yT ya;refine⟨λj=>?_,?_⟩
  ·have e1:(AL W (W.w.alloc (.cells cs T)) us d (λj=>cs[j]?) W.w.heap.size [W.w.heap.size] os).cv d j=cs[j]?:=by simp[AL]
   have e2:(AL W (W.w.alloc (.cells cs T)) us d (λj=>cs[j]?) W.w.heap.size [W.w.heap.size] os).om (.lf d j)=os j:=by simp[AL]
   rw[e1,e2];show Aa _ _ (nth LA.bad bs j) _ _;by_cases hj:j<bs.length
   ·obtain⟨u,hu,ht⟩:=hnth j hj;obtain⟨_,_,_,ht⟩:=ht;generalize nth LA.bad bs j=b at ht;unfold Aa;cases b with
    |arr AB gen t e xs dd=>
     obtain⟨_,_,hr⟩:=ht;exact⟨u,hu,hr.frame (λb hb=>Bh _ _ (hb.elim (hold j b) λhb=>(h.sep.fz b hb).1)) λb hb=>hb⟩
    |_=>exact⟨ht.1,λu' yG=>by rw[hu]at yG;injection yG with yG;subst yG;exact AT.Dh yT ht.2.2 ht.2.1⟩
   ·rw[Au LA.bad (AA1 hj),hbig j J];exact⟨rfl,λ_ _=>trivial⟩
  ·show(if true=true then _ else _);rw[AAS rfl];refine⟨by simp[AL],cs,T,(0,0),?_,J,hlen,λj=>by simp[AL]⟩;have:(AL W (W.w.alloc (.cells cs T)) us d (λj=>cs[j]?) W.w.heap.size [W.w.heap.size] os).bk d=W.w.heap.size:=by simp[AL]
   rw[this];exact heap_alloc_new _ _
 ·intro yT ya;intro hb yB;have:(AL W (W.w.alloc (.cells cs T)) us d (λj=>cs[j]?) W.w.heap.size [W.w.heap.size] os).bk d=W.w.heap.size:=by simp[AL]
  rw[this]
theorem BT:∀ls:Ls,ls.kinds.length=ls.n
 | .nil=>rfl
 | .one _=>rfl
 | .cons _ ls=>by simp[Ls.kinds,Ls.n,BT ls]
theorem Le(l:L):JS s W v (Ip v l) (B4 l) [] []:=by
 cases l with
 |int k=>exact⟨rfl,AAW,(λb hb=>by cases hb),rfl,⟨rfl,rfl⟩,by simp[Ip,LA.AF]⟩
 |bool=>exact⟨rfl,AAW,(λb hb=>by cases hb),rfl,⟨rfl,rfl⟩,by simp[Ip,LA.AF]⟩
 |str=>exact⟨rfl,AAW,(λb hb=>by cases hb),rfl,⟨rfl,rfl⟩,by simp[Ip,LA.AF]⟩
 |sl t e=>exact⟨rfl,AAW,(λb hb=>by cases hb),rfl,rfl,Bt⟩
theorem MH(hc:Di P cx)(hft:Lg P cx.env)(h:AW E s a.tmps W)(hv:Aj s v){t:TypeId}(ho:o.op=.alloc t)(hd:∀d,o.dst=some d->d<a.tmps.size)(hl:(AA cx v o s).leads ws):BU P E o a W.w (s.app ws):=by
 simp only[AA,ho]at hl;split at hl
 ·rename_i ty d ht yp;have hl:_=ws:=hl;obtain⟨i,hi,yP,z,hz,hzc,_⟩:=(hc t ty ht).info
  obtain⟨W',zL,xw⟩:=h.Hp hv (us:=[]) (hd d yp) (bs:=ty.ls.kinds.map (Ip v)) (cs:=(ty.ls.kinds.map B4).toArray) (T:=t) (os:=λ_=>[]) so
   (λj b hb=>by
    simp only[AAe]at hb;cases hq:ty.ls.kinds[j]? with
    |none=>grind
    |some l=>
     rw[hq]at hb;injection hb with hb;subst hb
     exact⟨B4 l,by simp[hq],Le l⟩) (λi j _ b hb=>by cases hb) (λ_ _=>rfl)
  rw[<-hl];refine Br h yp ?_ zL xw;simp[execOp,ho,Instr.alloc,zeroValue,typeInfo,hi,hz,newVar,newRow,hzc]
 ·rename_i d ht yp;split at hl
  ·rename_i hf;have hl:_=ws:=hl;obtain⟨i,z,c,hi,yP,hz,hzc,yr⟩:=hft t hf
   obtain⟨W',zL,xw⟩:=h.Hp hv (us:=[]) (hd d yp) (bs:=[.bad]) (cs := #[c]) (T:=t) (os:=λ_=>[]) rfl
    (λj b hb=>by
     cases j with
     |zero=>simp at hb;subst hb;exact⟨c,rfl,yr,AAW,(λb hb=>by cases hb),rfl,trivial,by simp[LA.AF]⟩
     |succ j=>simp at hb) (λi j _ b hb=>by cases hb) (λ_ _=>rfl)
   rw[<-hl];refine Br h yp ?_ zL xw;simp[execOp,ho,Instr.alloc,zeroValue,typeInfo,hi,hz,newVar,newRow,hzc]
  ·exact hl.elim
 ·exact hl.elim
theorem Im{g:Bool}{as:List LA}{u:Value}(hu:Ez s W g as u)(yr:g=false->u.cells = #[u]):u.cells.size=as.length/\∀(j:Nat)(b:LA),as[j]?=some b->∃y,u.cells[j]?=some y/\AT s W b y:=by
 cases g with
 |true=>
  obtain⟨cs,rfl,yP,yL⟩:=hu;exact⟨yP,yL⟩
 |false=>
  have:=yr rfl;rw[this];cases as with
  |nil=>exact hu.elim
  |cons b bs=>cases bs with
   |cons=>exact hu.elim
   |nil=>
    refine⟨rfl,λj y hy=>?_⟩;cases j with
    |zero=>simp at hy;subst hy;exact⟨u,rfl,hu⟩
    |succ j=>simp at hy
theorem AW.LM(h:AW E s tm W)(hv:Aj s v){d:Nat}{as:List LA}{cs:Array Value}{T:TypeId}(zp:v∉as.flatMap LA.AF)
  (has:∀(j:Nat)(b:LA),as[j]?=some b->∃u,cs[j]?=some u/\AT s W b u):
  ∃W',W'.w=W.w.alloc (.cells cs T)/\AW E (s.app [.slot d (.bx as)]) (tm.setIfInBounds d (.pointer (some ⟨W.w.heap.size,0,none⟩))) W':=by
 have hold:∀b,b<W.w.heap.size->(W.w.alloc (.cells cs T)).heap[b]?=W.w.heap[b]?:=λb hb=>Bh _ _ hb
 have xw:AW E s tm { W with w:=W.w.alloc (.cells cs T),fz:=λb=>W.fz b\/b=W.w.heap.size }:=by
  have yT:Eh v s s W { W with w:=W.w.alloc (.cells cs T),fz:=λb=>W.fz b\/b=W.w.heap.size }:={
   fz:=λb hb=>.inl hb
   Lf:=λb hb=>hold b (h.sep.fz b hb).1
   leaf:=λr j AB gen t e xs dd hl yF=>⟨rfl,gen,t,xs,dd,hl,λ_=>⟨rfl,λp h' e' u yk hn=>by
    obtain⟨u0,zN,yD⟩:=(h.roots r).row hl;rw[yk]at zN;injection zN with zN;subst zN
    exact BN p yD hn λb hb=>hold b (hb.elim (λhb=>(h.sep.own _ b hb).2.1) λhb=>(h.sep.fz b hb).1)⟩⟩
   box:=λr hb yF=>⟨hb,rfl,rfl⟩ }
  refine h.IG hv yT ?_ h.DT h.Bb (λt=>.inl ⟨rfl,rfl⟩) λr=>?_
  ·have hs:=h.sep
   exact {
    nodup:=hs.nodup
    A4:=hs.A4
    own:=λk b hb=>by obtain⟨a1,a2,a3⟩:=hs.own k b hb;grind
    fz:=λb hb=>by
     rcases hb with hb|rfl
     ·obtain⟨a1,a2⟩:=hs.fz b hb;grind
     ·exact⟨by rw[BR];omega,.inr (.inl hs.size)⟩
    frame:=λb h1 h2=>(hold b (by have:=hs.size;omega)).trans (hs.frame b h1 h2)
    size:=by rw[BR];exact Nat.le_succ_of_le hs.size
    rest:=hs.rest }
  ·obtain⟨h1,h2⟩:=h.roots r;refine⟨λj=>?_,?_⟩
   ·exact Aa.Dh yT (by have:=hv.2.1 r j;exact this) (λb hb=>hold b (h.sep.own _ b hb).2.1) (h1 j)
   grind
 refine⟨_,rfl,xw.slot d ?_⟩;refine⟨W.w.heap.size,0,cs,T,(0,0),rfl,.inr rfl,heap_alloc_new _ _,J,λj b hb=>?_⟩;obtain⟨u,hu,yh⟩:=has j b hb;refine⟨u,No,?_⟩;refine AT.Dh (v:=v) (s:=s) (W:=W) ?_ (λxv=>zp (AAP.2 ⟨b,AAR hb,xv⟩)) yh
 exact {
   fz:=λb hb=>.inl hb
   Lf:=λb hb=>hold b (h.sep.fz b hb).1
   leaf:=λr j AB gen t e xs dd hl yF=>⟨rfl,gen,t,xs,dd,hl,λ_=>⟨rfl,λp h' e' u yk hn=>by
    obtain⟨u0,zN,yD⟩:=(h.roots r).row hl;rw[yk]at zN;injection zN with zN;subst zN
    exact BN p yD hn λb hb=>hold b (hb.elim (λhb=>(h.sep.own _ b hb).2.1) λhb=>(h.sep.fz b hb).1)⟩⟩
   box:=λr hb yF=>⟨hb,rfl,rfl⟩ }
theorem Nn(hc:Di P cx)(h:AW E s a.tmps W)(hv:Aj s v){t:TypeId}{x:Operand}(ho:o.op=.box t x)(hd:∀d,o.dst=some d->d<a.tmps.size)(hl:(AA cx v o s).leads ws):BU P E o a W.w (s.app ws):=by
 simp only[AA,ho]at hl;have h1:=BK h x;have zp:=Fi hv x;generalize s.As x=p at hl h1 zp;split at hl
 ·rename_i ty d g as ht yp;split at hl
  ·rename_i hlent;simp only[AAN]at hlent;obtain⟨hg,_⟩:=hlent;subst hg;have hl:_=ws:=hl;obtain⟨cs,hcs,yP,yL⟩:=h1;obtain⟨W',zL,xw⟩:=h.LM hv (d:=d) (as:=as) (cs:=cs) (T:=t) zp yL;rw[<-hl];refine Br h yp ?_ zL xw;simp[execOp,ho,Instr.box,newVar,newRow,hcs,Value.cells]
  let gg:Nat->Option Value:=λj=>match g with|true=>(a.eval x).cells[j]?|false=>if j=0 then some (a.eval x)else none
  have hgg:∀(j:Nat)(b:LA),as[j]?=some b->v∉b.AF/\∃u,gg j=some u/\AT s W b u:=by
   intro j b hb;refine⟨λxv=>zp (AAP.2 ⟨b,AAR hb,xv⟩),?_⟩;cases g with
   |true=>obtain⟨cs,hcs,_,yL⟩:=h1;obtain⟨u,hu,yh⟩:=yL j b hb;exact⟨u,by simp only[gg,hcs];exact hu,yh⟩
   |false=>
    cases as with
    |nil=>exact h1.elim
    |cons b' bs=>cases bs with
     |cons=>exact h1.elim
     |nil=>cases j with
      |zero=>simp at hb;subst hb;exact⟨a.eval x,by simp[gg],h1⟩
      |succ j=>simp at hb
  obtain⟨bs,us,os,hl,hlen,hlen2,zG,hbx,yv,hbig,zr⟩:=ER (v:=v) h hgg hl;split at hl
  ·have hl:_=ws:=hl
   have yr:g=false->(a.eval x).cells = #[a.eval x]:=by
    intro hg;subst hg;cases as with
    |nil=>exact h1.elim
    |cons b' bs'=>cases bs' with
     |cons=>exact h1.elim
     |nil=>
      match bs,hlen,zr with
      | [b],_,zr=>obtain⟨u,hu,ht⟩:=zr 0 b rfl;simp[gg]at hu;subst hu;exact cells_one ht.1
   have hcs:=Im h1 yr
   have hgc:∀j u,gg j=some u->(a.eval x).cells[j]?=some u:=by
    intro j u hj;cases g with
    |true=>exact hj
    |false=>
     grind
   obtain⟨W',zL,xw⟩:=h.Hp hv (us:=us) (hd d yp) (bs:=bs) (cs:=(a.eval x).cells) (T:=t) (os:=os) J
    (λj b hb=>by grind) yv (λj hj=>hbig j J)
   rw[<-hl];refine Br h yp ?_ zL xw;simp[execOp,ho,Instr.box,newVar,newRow]
  ·exact hl.elim
 ·exact hl.elim
end
end Go.Ev
namespace Go.Ev
def B5:ADc->Nat->Array Value->Array Value
 | [],_,arr=>arr
 |v::r,o,arr=>B5 r (o+1) (arr.setIfInBounds o v)
theorem Ar:∀(vs:ADc)(o:Nat)(arr:Array Value),(B5 vs o arr).size=arr.size
 | [],_,_=>rfl
 |v::r,o,arr=>by rw[B5,Ar r];simp
theorem Cc:∀(vs:ADc)(o:Nat)(arr:Array Value),o+vs.length<=arr.size->∀k,(B5 vs o arr)[k]?=if o<=k/\k<o+vs.length then vs[k-o]? else arr[k]?
 | [],o,arr,h,k=>by rw[B5,AAT so]
 |v::r,o,arr,h,k=>by simp only[ABH]at h;rw[B5,Cc r (o+1) _ ADb k,AAz];grind
structure NL(w w':World)(b:Nat)(zO:Array Value)(T:TypeId)(fr:Nat×Nat):Prop where
 here:w'.heap[b]?=some (.cells zO T fr)
 CX:∀c,c≠b->w'.heap[c]?=w.heap[c]?
 size:w'.heap.size=w.heap.size
 rest:w'.os=w.os/\w'.tape=w.tape/\w'.output=w.output
theorem Fl(b:Nat){T:TypeId}{fr:Nat×Nat}:∀(vs:ADc)(o:Nat)(w:World)(arr:Array Value),w.heap[b]?=some (.cells arr T fr)->NL w (w.setCells b o vs) b (B5 vs o arr) T fr
 | [],o,w,arr,h=>⟨h,λ_ _=>rfl,rfl,rfl,rfl,rfl⟩
 |v::r,o,w,arr,h=>by
  have h1:(w.setCell ⟨b,o,none⟩ v).heap[b]?=some (.cells (arr.setIfInBounds o v) T fr):=by rw[setCell_eq_setRow w b o arr T fr v h];exact setRow_heap w b arr _ T fr h
  have ih:=Fl b r (o+1) _ _ h1;refine⟨ih.here,λc hc=>(ih.CX c hc).trans ?_,ih.size.trans ?_,ih.rest⟩
  ·rw[setCell_eq_setRow w b o arr T fr v h];exact setRow_other w b c _ hc
  ·rw[setCell_eq_setRow w b o arr T fr v h];exact setRow_size w b _
theorem Ee{P:Program}{w:World}{b o:Nat}{arr:Array Value}{T:TypeId}{fr:Nat×Nat}(vs:ADc)(h:w.heap[b]?=some (.cells arr T fr))(hb:∀j,j<arr.size->¬(fr.1<=j/\j<fr.2))(hl:o+vs.length<=arr.size)(h1:∀v∈vs,v.oneCell'=true):
  ∃w',(storeCells ⟨b,o,none⟩ vs).run P w=.ok () w'/\NL w w' b (B5 vs o arr) T fr:=by
 refine⟨_,run_storeCells_cells b o vs 0 w ?_ ?_ h1,?_⟩
 ·intro j hj;simp only[World.cell?,h];simp;omega
 ·intro j hj;have:=hb (o+0+j) J;obtain⟨lo,hi⟩:=fr;simp only[World.frozen?,h];grind
 ·exact Fl b vs o w arr h
theorem L.FC:∀(l:L) {d:Nat} {w:World} {fz:Nat->Prop} {v:Value} {x:l.D} {o:It},l.rd d w fz v x o->v.oneCell'=true
 | .int _,_,_,_,_,_,_,h=>by rw[h.1];rfl
 | .bool,_,_,_,_,_,_,h=>by rw[h.1];rfl
 | .str,_,_,_,_,_,_,h=>by rw[h.1];rfl
 | .sl _ e,_,_,_,_,_,_,h=>by obtain⟨A,c,hv,_⟩:=h;rw[hv];rfl
theorem Ls.Kl:∀(e:Ls) {d:Nat} {w:World} {fz:Nat->Prop} {g:Nat->Option Value} {x:e.D} {o:It},e.rd d w fz g x o->∀j,j<e.n->∃v,g j=some v/\v.oneCell'=true
 | .nil,_,_,_,_,_,_,h,j,hj=>by simp[Ls.n]at hj
 | .one l,_,_,_,_,_,_,h,j,hj=>by simp only[Ls.rd]at h;obtain⟨v,hg,h⟩:=h;simp[Ls.n]at hj;subst hj;exact⟨v,hg,L.FC l h⟩
 | .cons l ls,_,_,_,_,_,_,h,j,hj=>by
  simp only[Ls.rd]at h;obtain⟨v,o1,o2,hg,h1,h2,_⟩:=h;cases j with
  |zero=>exact⟨v,hg,L.FC l h1⟩
  |succ j=>exact Ls.Kl ls h2 j (by simp[Ls.n]at hj;omega)
theorem Ls.BP:∀(e:Ls) {d:Nat} {w:World} {fz:Nat->Prop} {g g':Nat->Option Value} {x:e.D} {o:It},e.rd d w fz g x o->(∀j,j<e.n->g' j=g j)->e.rd d w fz g' x o
 | .nil,_,_,_,_,_,_,_,h,_=>h
 | .one l,_,_,_,_,_,_,_,h,hg=>by simp only[Ls.rd]at h ⊢;obtain⟨v,h0,h⟩:=h;exact⟨v,(hg 0 (by simp[Ls.n])).trans h0,h⟩
 | .cons l ls,_,_,_,_,_,_,_,h,hg=>by
  simp only[Ls.rd]at h ⊢;obtain⟨v,o1,o2,h0,h1,h2,ho⟩:=h;exact⟨v,o1,o2,(hg 0 (by simp[Ls.n])).trans h0,h1,Ls.BP ls h2 λj hj=>hg (j+1) (by simp[Ls.n];omega),ho⟩
theorem L.AY:∀(l:L) {d d':Nat} {w w':World} {fz xy:Nat->Prop} {v:Value} {x:l.D} {o:It},Bj l=false->l.rd d w fz v x o->l.rd d' w' xy v x o/\o=[]
 | .int _,_,_,_,_,_,_,_,_,_,_,h=>⟨h,h.2⟩
 | .bool,_,_,_,_,_,_,_,_,_,_,h=>⟨h,h.2⟩
 | .str,_,_,_,_,_,_,_,_,_,_,h=>⟨h,h.2⟩
 | .sl _ e,_,_,_,_,_,_,_,_,_,hs,h=>by simp[Bj]at hs
theorem Ls.AY:∀(e:Ls) {d d':Nat} {w w':World} {fz xy:Nat->Prop} {g:Nat->Option Value} {x:e.D} {o:It},Bx e=true->e.rd d w fz g x o->e.rd d' w' xy g x o/\o=[]
 | .nil,_,_,_,_,_,_,_,_,_,_,h=>⟨h,h⟩
 | .one l,_,_,_,_,_,_,_,_,_,hs,h=>by simp only[Ls.rd]at h ⊢;obtain⟨v,h0,h⟩:=h;simp[Bx]at hs;obtain⟨a,b⟩:=L.AY l hs h;exact⟨⟨v,h0,a⟩,b⟩
 | .cons l ls,_,_,_,_,_,_,_,_,_,hs,h=>by simp only[Ls.rd]at h ⊢;obtain⟨v,o1,o2,h0,h1,h2,ho⟩:=h;simp[Bx]at hs;obtain⟨a,b⟩:=L.AY l hs.1 h1;obtain⟨a',b'⟩:=Ls.AY ls hs.2 h2;exact⟨⟨v,o1,o2,h0,a,a',ho⟩,No⟩
def DM(e:Ls)(d:Nat)(w:World)(fz:Nat->Prop)(g:Nat->Option Value)(xs:List e.D)(os:Nat->It):Prop:=
 ∀i (h:i<xs.length),e.rd d w fz (λj=>g (i*e.n+j)) xs[i] (os i)
section
variable {e:Ls}{d:Nat}{w w':World}{fz xy:Nat->Prop}{g g':Nat->Option Value}{xs ys:List e.D}{os yq:Nat->It}
theorem KO{i n j m:Nat}(hi:i<m)(hj:j<n):i*n+j<m*n:=by have:(i+1)*n<=m*n:=AAs n hi;grind
theorem DM.cell(h:DM e d w fz g xs os)(k:Nat)(hk:k<xs.length*e.n):∃v,g k=some v/\v.oneCell'=true:=by
 have hn:0<e.n:=by
             rcases Nat.eq_zero_or_pos e.n with h0|h0;· rw[h0]at hk;simp at hk
             ·exact h0
 have hi:k / e.n<xs.length:=Nat.div_lt_of_lt_mul (by rwa[Nat.mul_comm]at hk);obtain⟨v,hv,h1⟩:=Ls.Kl e (h _ hi) (k%e.n) (Nat.mod_lt _ hn);have:k / e.n*e.n+k%e.n=k:=Nat.div_add_mod' _ _;grind
theorem DM.congr(h:DM e d w fz g xs os)(hg:∀k,k<xs.length*e.n->g' k=g k):DM e d w fz g' xs os:=
 λi hi=>Ls.BP e (h i hi) λj hj=>hg _ (KO hi hj)
theorem DM.frame(h:DM e d w fz g xs os)(hf:∀b,(∃i,i<xs.length/\b∈os i)\/fz b->w'.heap[b]?=w.heap[b]?)(hz:∀b,fz b->xy b):DM e d w' xy g xs os:=
 λi hi=>Ls.AN e (h i hi) (λb hb=>hf b (hb.imp (λhb=>⟨i,hi,hb⟩) id)) hz
theorem DM.flat(hf:Bx e=true)(h:DM e d w fz g xs os)(d':Nat)(w':World)(xy:Nat->Prop):DM e d' w' xy g xs λ_=>[]:=λi hi=>by obtain⟨a,b⟩:=Ls.AY e hf (h i hi) (d':=d') (w':=w') (xy:=xy);grind
theorem DM.append(h1:DM e d w fz g xs os)(h2:DM e d w fz (λk=>g (xs.length*e.n+k)) ys yq):DM e d w fz g (xs++ys) λi=>if i<xs.length then os i else yq (i-xs.length):=by
 intro i hi;by_cases h:i<xs.length
 ·simp only[AAS h];rw[List.getElem_append_left h];exact h1 i h
 ·simp only[AAT h];rw[List.getElem_append_right (AA1 h)];have:=h2 (i-xs.length) No;refine Ls.BP e this λj hj=>?_;show g (i*e.n+j)=g (xs.length*e.n+((i-xs.length)*e.n+j));congr 1;have:i*e.n=xs.length*e.n+(i-xs.length)*e.n:=by rw[<-AAt];congr 1;omega
  omega
theorem GX{ad:Addr}{arr:Array Value}{T:TypeId}{fr:Nat×Nat}{c:Nat}(hh:w.heap[ad.block]?=some (.cells arr T fr))(hs:ad.spot=none)(hb:∀j,j<arr.size->¬(fr.1<=j/\j<fr.2))
  (hc:ad.off+c*e.n<=arr.size) (hl:xs.length<=c) (yS:DM e 2 w fz (λk=>arr[ad.off+k]?) xs os):
  AE e 2 w fz (.slice (some ad) xs.length c) xs (ad.block::(List.range xs.length).flatMap os):=
 ⟨some ad,c,rfl,hl,.inr ⟨λk=>arr[ad.off+k]?,os,⟨hs,arr,T,fr,hh,hc,λ_=>hb,λj=>rfl⟩,yS,rfl⟩⟩
theorem AE.K7{v:Value}{o:It}(h:AE e d w fz v xs o):∃A c,v=.slice A xs.length c/\xs.length<=c/\(A=none->c=0/\o=[])/\
  ∀ad,A=some ad->(0<c\/0<d)->∃arr T fr os,ad.spot=none/\w.heap[ad.block]?=some (.cells arr T fr)/\ad.off+c*e.n<=arr.size/\(0<d->∀j,j<arr.size->¬(fr.1<=j/\j<fr.2))/\
   DM e (dec d) w fz (λk=>arr[ad.off+k]?) xs os/\(0<d->o=ad.block::(List.range xs.length).flatMap os)/\(d=0->fz ad.block/\∀i,i<xs.length->os i=[]):=by
 obtain⟨A,c,hv,hc,h⟩:=h;refine⟨A,c,hv,hc,?_,?_⟩
 ·grind
 ·intro ad hA hpos;subst hA;rcases h with h|⟨g,os,⟨hs,arr,T,fr,hh,hn,hb,hg⟩,yS,ho⟩
  ·obtain⟨h1,h2,_⟩:=h;have h1:¬0<d:=ADw
   omega
  refine⟨arr,T,fr,os,hs,hh,hn,λhd=>hb (by simpa using hd),?_,?_,?_⟩
  ·intro i hi;refine Ls.BP e (yS i hi) λj _=>(hg _).symm
  all_goals grind
def Bl(g:Nat->Option Value)(m:Nat):ADc:=(List.range m).map λj=>(g j).getD Go.undef
theorem Ab(g:Nat->Option Value)(m:Nat):(Bl g m).length=m:=by simp[Bl]
theorem CK{m:Nat}(h:∀k,k<m->∃v,g k=some v/\v.oneCell'=true)(k:Nat)(hk:k<m):(Bl g m)[k]?=g k:=by obtain⟨v,hv,_⟩:=h k hk;simp[Bl,hk,hv]
theorem HX{m:Nat}(h:∀k,k<m->∃v,g k=some v/\v.oneCell'=true):∀v∈Bl g m,v.oneCell'=true:=by intro v hv;obtain⟨k,hk,rfl⟩:=AAw.1 hv;grind
end
theorem L.Ft:∀(l:L) {d:Nat} {w:World} {fz:Nat->Prop},l.rd d w fz (B4 l) (Kw l) []
 | .int _,_,_,_=>⟨rfl,rfl⟩
 | .bool,_,_,_=>⟨rfl,rfl⟩
 | .str,_,_,_=>⟨rfl,rfl⟩
 | .sl _ e,_,_,_=>Bt
theorem Ls.Ft:∀(e:Ls) {d:Nat} {w:World} {fz:Nat->Prop} {g:Nat->Option Value},(∀j,j<e.n->g j=(e.kinds.map B4)[j]?)->e.rd d w fz g (FG e) []
 | .nil,_,_,_,_,_=>rfl
 | .one l,_,_,_,_,hg=>by simp only[Ls.rd];exact⟨B4 l,(hg 0 (by simp[Ls.n])).trans rfl,L.Ft l⟩
 | .cons l ls,_,_,_,_,hg=>by
  simp only[Ls.rd];exact⟨B4 l,[],[],(hg 0 (by simp[Ls.n])).trans rfl,L.Ft l,Ls.Ft ls λj hj=>(hg (j+1) (by simp[Ls.n];omega)).trans (by simp[Ls.kinds]),rfl⟩
end Go.Ev
namespace Go.Ev
theorem EM{P:Program}{w w':World}(t ty e:TypeId)(i:TypeInfo)(ht:P.underlying t=some (.slice e))(hi:P.info? e=some i)(b:Addr)(sLen sCap:Nat)(A:Option Addr)(n c:Nat)(news:ADc)
  (hf:(Builtin.firstCells i.size n (.slice A n c)).run P w=.ok news.toArray w) (yd:sLen+n<=sCap) (hst:(storeCells (b.add (sLen*i.size)) news).run P w=.ok () w'):
  (Builtin.append_ #[t,t] ty #[.slice (some b) sLen sCap,.slice A n c]).run P w=.ok (.slice (some b) (sLen+n) sCap) w':=by
 simp[Builtin.append_,run_underlying ht,sizeOf,typeInfo,hi,Builtin.lenOf,yd,hf,hst]
theorem D2{P:Program}{w:World}(t ty e:TypeId)(i:TypeInfo)(ht:P.underlying t=some (.slice e))(hi:P.info? e=some i)(sCap:Nat)(A:Option Addr)(c:Nat)(news:ADc)
  (hf:(Builtin.firstCells i.size 0 (.slice A 0 c)).run P w=.ok news.toArray w):
  (Builtin.append_ #[t,t] ty #[.slice none 0 sCap,.slice A 0 c]).run P w=.ok (.slice none 0 sCap) w:=by
 simp[Builtin.append_,run_underlying ht,sizeOf,typeInfo,hi,Builtin.lenOf,hf]
theorem Gm{α β:Type}:∀l:List α,(l.flatMap λ_=>([]:List β))=[]
 | []=>rfl
 |_::l=>by simp[Gm l]
section
variable {P:Program}{E:Ci}{s:St}{W:Wd}{o:Oper}{a:Act}{ws:List Wr}{cx:Cx}{v:Nat}
theorem MA(e:Ls)(m k:Nat)(hk:k<m):(madeCells (e.kinds.map B4).toArray m)[k]?=some ((e.kinds.map B4).toArray[k%e.n]!):=by simp[madeCells,hk,BT]
theorem L9(e:Ls)(hp:0<e.n)(n:Nat){d:Nat}{w:World}{fz:Nat->Prop}:DM e d w fz (λk=>(madeCells (e.kinds.map B4).toArray (n*e.n))[0+k]?) (List.replicate n (FG e)) λ_=>[]:=by intro i hi;rw[List.getElem_replicate];refine Ls.Ft e λj hj=>?_;simp only[AAd];rw[MA e _ _ (KO No hj),Nat.mul_add_mod',Nat.mod_eq_of_lt hj];simp[BT,hj]
theorem JE(hc:Di P cx)(h:AW E s a.tmps W)(hv:Aj s v){t:TypeId}{x y:Operand}(ho:o.op=.makeSlice t x y)(hd:∀d,o.dst=some d->d<a.tmps.size)(hl:(AA cx v o s).leads ws):BU P E o a W.w (s.app ws):=by
 simp only[AA,ho]at hl;split at hl
 ·rename_i ty d ht yp;split at hl
  ·exact hl.elim
  ·rename_i z8;split at hl
   ·rename_i t' e zd;obtain⟨kl,n,hx,hl⟩:=EA (Ad h x) hl;obtain⟨kc,m,hy,hl⟩:=EA (Ad h y) hl;rcases Al hl with⟨hb,hl⟩|⟨_,hl⟩
    ·simp only[AAN,AAh]at hb;obtain⟨⟨h0,h1⟩,rfl⟩:=hb;obtain⟨yz,yS⟩:=(CQ hc ht zd No:GF P t (.sl t' e));obtain⟨i,hi,yP,hby,z,hz,hzc⟩:=yS.info;have zT:m<=68719476736:=h1
     have yK:=run_make (P:=P) W.w t t' i z yz hi hz kl kc m m h0 (Int.le_refl _)
      (Int.le_trans (Int.mul_le_mul (show(i.bytes:Int)<=1024 by omega) zT h0 ADd) ADd) J
     rw[hzc,yP]at yK
     obtain⟨W',zL,xw⟩:=h.C5 hv [] (hd d yp) (t0:=t') (e:=e) (xs:=List.replicate m.toNat (FG e)) (dd:=2) (u:=.slice (some ⟨W.w.heap.size,0,none⟩) m.toNat m.toNat) (w':=W.w.alloc (.cells (madeCells (e.kinds.map B4).toArray (m.toNat*e.n)) t')) (o:=[W.w.heap.size]) (EO h _) (λb hb _=>Bh _ _ ADx) (by rw[BR];omega) ⟨rfl,rfl,rfl⟩
      (by
       have:=GX (e:=e) (w:=W.w.alloc (.cells (madeCells (e.kinds.map B4).toArray (m.toNat*e.n)) t')) (fz:=W.fz) (ad:=⟨W.w.heap.size,0,none⟩) (c:=m.toNat) (xs:=List.replicate m.toNat (FG e)) (os:=λ_=>[])
        (heap_alloc_new _ _) rfl J (by simp[size_madeCells]) so (L9 e yS.pos m.toNat)
       simpa[Gm]using this) so (λb hb=>by simp at hb;subst hb;exact .inr ⟨AAi _,by rw[BR];omega⟩)
     have hl:_=ws:=hl;rw[<-hl];refine Br h yp ?_ zL xw;simp[execOp,ho,hx,hy,yK]
    ·exact hl.elim
   ·exact hl.elim
 ·exact hl.elim
def KD(P:Program)(s:St)(W:Wd)(e:Ls)(u:Value)(ys:List e.D)(us:List (Nat×Nat)):Prop:=
 ∃A c g os,u=.slice A ys.length c/\(A=none->ys=[])/\(∀ad,A=some ad->ys≠[]->ad.spot=none/\∀k,W.w.cell? (at_ ad k)=g k)/\DM e 2 W.w W.fz g ys os/\((List.range ys.length).flatMap os).Nodup/\
  (∀i,i<ys.length->∀b∈os i,∃r j,(r,j)∈us/\b∈W.om (.lf r j))/\us.Nodup
theorem I8(h:AW E s a.tmps W){la:LA}{u:Value}(hu:AT s W la u){t:TypeId}{e:Ls}{β:Type}{k:List e.D->List (Nat×Nat)->Step β}{z:β}(hl:(EK cx s la t e k).leads z):
  ∃ys us,(k ys us).leads z/\KD P s W e u ys us:=by
 unfold EK at hl;split at hl
 ·rename_i hf;obtain⟨ys,hl,hr⟩:=Bq h hu hl;refine⟨ys,[],hl,?_⟩;obtain⟨A,c,hv,hc,hn,yf⟩:=AE.K7 (L.Nv.1 hr);cases A with
  |none=>
   have:ys=[]:=AAU No;subst this;exact⟨none,c,λ_=>none,λ_=>[],hv,λ_=>rfl,(λad zb _=>by cases zb),(λi hi=>by simp at hi),so,(λi hi=>by simp at hi),AAW⟩
  |some ad=>
   by_cases hc0:c=0
   ·have:ys=[]:=AAU J;subst this;exact⟨some ad,c,λ_=>none,λ_=>[],hv,λ_=>rfl,(λad zb yF=>absurd rfl yF),(λi hi=>by simp at hi),so,(λi hi=>by simp at hi),AAW⟩
   obtain⟨arr,T,fr,os,hs,hh,_,_,yS,_,_⟩:=yf ad rfl (.inl J);refine⟨some ad,c,_,_,hv,(λhA=>by cases hA),?_,DM.flat hf yS 2 W.w W.fz,No,(λi hi b hb=>by cases hb),AAW⟩;intro ad' zb _;injection zb with zb;subst zb
   exact⟨hs,λk=>by simp[World.cell?,at_,hh]⟩
 ·split at hl
  ·rename_i c;split at hl
   ·rename_i AB gen t' e' xs d xt;split at hl
    ·rename_i yC;simp only[AAN,AAX,AAa]at yC;obtain⟨⟨⟨yB,hp⟩,hpin⟩,hd⟩:=yC;subst yB;subst hd;have hp:c.p=[]:=by cases hq:c.p<;>simp_all[isNil]
     split at hl
     ·rename_i ys hys;obtain⟨h1,h2⟩:=L.AH hys;cases h1;have h2:xs=ys:=h2;subst h2;obtain⟨h',e',yW,hn⟩:=hu gen _ _ _ _ xt (.inl hp);rw[hp]at hn;obtain⟨rfl,rfl⟩:=hn;obtain⟨u',yG,yD⟩:=(h.roots c.r).row xt;rw[yW]at yG;injection yG with yG;subst yG
      refine⟨xs,_,hl,?_⟩;obtain⟨A,cc,hv,hc,hn,yf⟩:=yD.K7;cases A with
      |none=>
       have:xs=[]:=AAU No;subst this;exact⟨none,cc,λ_=>none,λ_=>[],hv,λ_=>rfl,(λad zb _=>by cases zb),(λi hi=>by simp at hi),so,(λi hi=>by simp at hi),so⟩
      |some ad=>
       obtain⟨arr,T,fr,os,hs,hh,_,_,yS,ho,_⟩:=yf ad rfl (.inr ADd);have ho:=ho ADd;have zG:=h.sep.nodup (.lf c.r c.j);rw[ho]at zG;refine⟨some ad,cc,_,os,hv,(λhA=>by cases hA),?_,yS,(AAf.1 zG).2,?_,so⟩
       ·intro ad' zb _;injection zb with zb;subst zb
        exact⟨hs,λk=>by simp[World.cell?,at_,hh]⟩
       grind
     ·exact hl.elim
    ·exact hl.elim
   ·exact hl.elim
  ·exact hl.elim
theorem K4{w:World}{fz:Nat->Prop}{v:Value}{xs:By}{d:Nat}{oo:It}{t1 t2 t0:TypeId}(e1:P.underlying t1=some (.slice t0))(e2:P.underlying t2=some .string)(e0:P.underlying t0=some (.int .u8))
  (hr:AE (.one (.int .u8)) d w fz v xs oo):(convert t1 t2 v).run P w=.ok (.string ⟨(bytesOf xs).toArray⟩) w:=by
 obtain⟨A,c,hv,yk,zl,yf⟩:=hr.K7;have hv:v=.slice A (List.length (α:=Int) xs) c:=hv;have yk:List.length (α:=Int) xs<=c:=yk;rw[hv];cases A with
 |none=>
  obtain⟨hc0,_⟩:=zl rfl;have hx0:xs=[]:=AAU J;subst hx0;rw[run_convert_bytes_nil w t1 t0 e1 e0 _ _ t2 e2];rfl
 |some ad=>
  by_cases hpos:0<c
  ·obtain⟨arr,T,fr,os,hs,hh,yP,_,yS,_⟩:=yf ad rfl (.inl hpos);obtain⟨b,off,sp⟩:=ad;dsimp only at hs hh yP yS;subst hs
   rw[run_convert_bytes_arg w t1 t0 e1 e0 b off (List.length (α:=Int) xs) c xs rfl (λi hi=>by
    obtain⟨y,hy,hr2⟩:=yS i hi;have hy:arr[off+(i*1+0)]?=some y:=hy;have hy2:y=.int .u8 (xs[i]'hi):=hr2.1;simp only[World.cell?,hh];grind) t2 e2]
   rfl
  ·have hx0:xs=[]:=AAU J;subst hx0;rw[run_convert_bytes_string w t1 t2 t0 (some ad) _ c e1 e0 e2]
   have:=run_bytesToString (P:=P) w ad 0 c [] (by
    have:=run_loadCells_list (P:=P) (w:=w) ad [] (λj v hj=>by simp at hj);grind)
   exact this
theorem KQ(hc:Di P cx)(h:AW E s a.tmps W){t1 t2:TypeId}{x:Operand}(ho:o.op=.convert t1 t2 x)(hl:(AA cx v o s).leads ws):BU P E o a W.w (s.app ws):=by
 simp only[AA,ho]at hl;have h1:=Ad h x;generalize s.Ag x=p at hl h1;split at hl
 ·rename_i ta ty k0 n hta ht;split at hl
  ·exact hl.elim
  ·rename_i z8;split at hl
   ·rename_i k zd;rw[AK hl];have hu:P.underlying t2=some (.int k):=CQ hc ht zd No
    have hd:∃d,P.underlying t1=some d:=by
     cases hg:ta.agg with
     |true=>obtain⟨fs,zn,_⟩:=(hc _ _ hta).agg hg;grind
     |false=>obtain⟨l,_,zR⟩:=(hc _ _ hta).lone hg;obtain⟨d,hd,_⟩:=zR.JA;grind
    obtain⟨d,hd⟩:=hd;refine AP h (u:=.int k (k.wrap n)) ?_ (BY _ _);have e1:a.eval x=.int k0 n:=h1.1;simp only[execOp,ho,convert,Sem.run_bind,run_underlying hd,run_underlying hu,Result.andThen_ok,e1];simp[Conv.intToInt]
   ·exact hl.elim
 ·rename_i ta ty p hta ht hno;split at hl
  ·exact hl.elim
  ·rename_i z8;simp only[AAg,not_or,Bool.not_eq_true]at z8;obtain⟨hg1,hg2⟩:=z8;split at hl
   ·rename_i t0 hls1 hls2;split at hl
    ·rename_i hu8;have e1:P.underlying t1=some (.slice t0):=(CQ hc hta hls1 hg1).1;have e2:P.underlying t2=some .string:=CQ hc ht hls2 hg2
     have e0:P.underlying t0=some (.int .u8):=by
      unfold IH at hu8;split at hu8
      ·rename_i ty0 hty0;simp only[AAN,AAa]at hu8;exact CQ hc hty0 (Ls.Dd hu8.2) hu8.1
      ·cases hu8
     obtain⟨xs,hl,hr⟩:=Bq h h1 hl;rw[AK hl];have yK:=K4 e1 e2 e0 (xs:=xs) hr;refine AP h (u:=.string ⟨(bytesOf xs).toArray⟩) ?_ (KX _);simp[execOp,ho,yK]
    ·exact hl.elim
   ·exact hl.elim
 ·exact hl.elim
end
end Go.Ev
