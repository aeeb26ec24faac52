/- A plain evaluator for Go's loaded code,and that it is sound;part 1. Conditions: none. -/
import Derived.Calls
import Derived.Orders
import Derived.Below
import Derived.Sort.Defs
import Derived.Laws.Rows
import Derived.Laws.Small
import Derived.Laws.StructEq
import Derived.Laws.Concat
import Derived.Laws.IdiomCopy
import Derived.Deep.MidRow
import Derived.Tactics
import Derived.WalkKit
import Derived.Laws.MakeOwn
import Derived.Laws.Append
namespace Go.Ev
mutual
inductive L where
 | int (k:IntKind)
 | bool
 | str
 | sl (t:TypeId) (e:Ls)
inductive Ls where
 | nil
 | one (l:L)
 | cons (l:L) (ls:Ls)
end
mutual
def L.D:L→Type
 | .int _=>Int
 | .bool=>Bool
 | .str=>List UInt8
 | .sl _ e=>List e.D
def Ls.D:Ls→Type
 | .nil=>Unit
 | .one l=>l.D
 | .cons l ls=>l.D×ls.D
end
def Ls.n:Ls→Nat
 | .nil=>0
 | .one _=>1
 | .cons _ ls=>ls.n+1
def IntKind.code:IntKind→Nat
 | .i8=>0 | .i16=>1 | .i32=>2 | .i64=>3 | .u8=>4 | .u16=>5 | .u32=>6 | .u64=>7
theorem IntKind.EM {a b:IntKind} (h:IntKind.code a=IntKind.code b):a=b:=by cases a <;> cases b <;> first | rfl | cases h
mutual
def L.eq? : (a b:L)→Bool
 | .int j, .int k=>IntKind.code j==IntKind.code k
 | .bool, .bool=>true
 | .str, .str=>true
 | .sl t e, .sl u f=>t==u&&Ls.eq? e f
 | _,_=>false
def Ls.eq? : (a b:Ls)→Bool
 | .nil, .nil=>true
 | .one a, .one b=>L.eq? a b
 | .cons a as, .cons b bs=>L.eq? a b&&Ls.eq? as bs
 | _,_=>false
end
mutual
theorem L.Dj:∀ {a b:L},L.eq? a b=true→a=b
 | .int _, .int _,h=>by simp [L.eq?] at h;rw [IntKind.EM h]
 | .bool, .bool,_=>rfl
 | .str, .str,_=>rfl
 | .sl t e, .sl u f,h=>by simp [L.eq?] at h;rw [h.1,Ls.Dj h.2]
 | .int _, .bool,h | .int _, .str,h | .int _, .sl ..,h | .bool, .int _,h | .bool, .str,h | .bool, .sl ..,h | .str, .int _,h | .str, .bool,h | .str, .sl ..,h | .sl .., .int _,h | .sl .., .bool,h | .sl .., .str,h=>by simp [L.eq?] at h
theorem Ls.Dj:∀ {a b:Ls},Ls.eq? a b=true→a=b
 | .nil, .nil,_=>rfl
 | .one _, .one _,h=>by simp [Ls.eq?] at h;rw [L.Dj h]
 | .cons _ _, .cons _ _,h=>by simp [Ls.eq?] at h;rw [L.Dj h.1,Ls.Dj h.2]
 | .nil, .one _,h | .nil, .cons ..,h | .one _, .nil,h | .one _, .cons ..,h | .cons .., .nil,h | .cons .., .one _,h=>by simp [Ls.eq?] at h
end
structure Lv where
 l:L
 x:l.D
def L.cast {a:L} (b:L) (x:a.D):Option b.D:=if h:L.eq? a b=true then some (L.Dj h ▸ x) else none
def Ls.cast {a:Ls} (b:Ls) (x:a.D):Option b.D:=if h:Ls.eq? a b=true then some (Ls.Dj h ▸ x) else none
theorem L.AI {a b:L} {x:a.D} {y:b.D} (h:L.cast b x=some y):∃ e:a=b,e ▸ x=y:=by
 unfold L.cast at h;split at h
 ·rename_i e;exact ⟨L.Dj e,by injection h⟩
 ·cases h
theorem Ls.AI {a b:Ls} {x:a.D} {y:b.D} (h:Ls.cast b x=some y):∃ e:a=b,e ▸ x=y:=by
 unfold Ls.cast at h;split at h
 ·rename_i e;exact ⟨Ls.Dj e,by injection h⟩
 ·cases h
def pack:(ls:Ls)→List Lv→Option ls.D
 | .nil=>fun vs=>match vs with
  | []=>some ()
  | _::_=>none
 | .one l=>fun vs=>match vs with
  | []=>none
  | v::vs=>match vs with
   | []=>L.cast l v.x
   | _::_=>none
 | .cons l ls=>fun vs=>match vs with
  | []=>none
  | v::vs=>match L.cast l v.x with
   | none=>none
   | some x=>match pack ls vs with
    | none=>none
    | some xs=>some (x,xs)
def unpack:(ls:Ls)→ls.D→List Lv
 | .nil,_=>[]
 | .one l,x=>[⟨l,x⟩]
 | .cons l ls,x=>⟨l,x.1⟩::unpack ls x.2
def Ls.kinds:Ls→List L
 | .nil=>[]
 | .one l=>[l]
 | .cons l ls=>l::ls.kinds
theorem CA:∀ (ls:Ls) (x:ls.D),(unpack ls x).length=ls.n
 | .nil,_=>rfl
 | .one _,_=>rfl
 | .cons _ ls,x=>by simp [unpack,Ls.n,CA ls x.2]
theorem Ax:∀ (ls:Ls) (vs:List Lv) (x:ls.D),pack ls vs=some x→unpack ls x=vs
 | .nil,[],_,_=>rfl
 | .nil,_::_,_,h=>by simp [pack] at h
 | .one l,[],_,h=>by simp [pack] at h
 | .one l,[v],x,h=>by
  simp only [pack] at h
  obtain ⟨l',y⟩:=v
  obtain ⟨e,he⟩:=L.AI h
  try dsimp only at e he
  subst e;subst he;rfl
 | .one l,_::_::_,_,h=>by simp [pack] at h
 | .cons l ls,[],_,h=>by simp [pack] at h
 | .cons l ls,v::vs,x,h=>by
  obtain ⟨l',y⟩:=v
  simp only [pack] at h
  split at h
  ·cases h
  ·rename_i a ha
   split at h
   ·cases h
   ·rename_i b hb
    obtain ⟨e,he⟩:=L.AI ha
    try dsimp only at e he
    subst e;subst he
    injection h with h;subst h
    simp [unpack,Ax ls vs _ hb]
def Row (w:World) (a:Addr) (n:Nat) (bare:Bool) (g:Nat→Option Value):Prop :=
 a.spot=none∧∃ arr T fr,w.heap[a.block]? = some (.cells arr T fr)∧a.off+n≤arr.size∧(bare=true→∀ j,j<arr.size→¬(fr.1≤j∧j<fr.2))∧∀ j,g j=arr[a.off+j]?
def CK {α:Type} (n:Nat) (R:(Nat→Option Value)→α→List Nat→Prop) (own:Bool) (w:World) (fz:Nat→Prop) (v:Value) (xs:List α) (o:List Nat):Prop :=
 ∃ (A:Option Addr) (c:Nat),v = .slice A xs.length c∧xs.length≤c ∧
  match A with
  | none=>c=0∧o=[]
  | some a=>(own=false∧c=0∧o=[])∨∃ (g:Nat→Option Value) (os:Nat→List Nat),Row w a (c * n) own g∧(∀ i (h:i<xs.length),R (fun j=>g (i * n+j)) xs[i] (os i)) ∧
    match own with
    | true=>o=a.block::(List.range xs.length).flatMap os
    | false=>fz a.block∧o=[]∧∀ i,i<xs.length→os i=[]
def dec:Nat→Nat
 | 0=>0
 | 1=>0
 | d+2=>d+2
mutual
def L.rd:(l:L)→Nat→World→(Nat→Prop)→Value→l.D→List Nat→Prop
 | .int k,_,_,_,v,x,o=>v = .int k x∧o=[]
 | .bool,_,_,_,v,x,o=>v = .bool x∧o=[]
 | .str,_,_,_,v,x,o=>v = .string ⟨x.toArray⟩∧o=[]
 | .sl _ e,d,w,fz,v,x,o=>CK e.n (fun g y o=>e.rd (dec d) w fz g y o) (decide (0<d)) w fz v x o
def Ls.rd:(ls:Ls)→Nat→World→(Nat→Prop)→(Nat→Option Value)→ls.D→List Nat→Prop
 | .nil,_,_,_,_,_,o=>o=[]
 | .one l,d,w,fz,g,x,o=>∃ v,g 0=some v∧l.rd d w fz v x o
 | .cons l ls,d,w,fz,g,x,o=>∃ v o1 o2,g 0=some v∧l.rd d w fz v x.1 o1∧ls.rd d w fz (fun j=>g (j+1)) x.2 o2∧o=o1++o2
end
theorem L.Ix {t:TypeId} {e:Ls} {d:Nat} {w:World} {fz:Nat→Prop} {v:Value} {x:(L.sl t e).D} {o:List Nat} :
  (L.sl t e).rd d w fz v x o↔CK (α:=e.D) e.n (fun g y o=>e.rd (dec d) w fz g y o) (decide (0<d)) w fz v x o:=Iff.rfl
end Go.Ev
namespace Go.Ev
theorem Row.frame {w w':World} {a:Addr} {n:Nat} {bare:Bool} {g:Nat→Option Value} (h:Row w a n bare g) (e:w'.heap[a.block]? = w.heap[a.block]?):Row w' a n bare g:=by
 obtain ⟨hs,arr,T,fr,hh,hn,hb,hg⟩:=h
 exact ⟨hs,arr,T,fr,e.trans hh,hn,hb,hg⟩
theorem Row.lt {w:World} {a:Addr} {n:Nat} {bare:Bool} {g:Nat→Option Value} (h:Row w a n bare g):a.block<w.heap.size:=by
 obtain ⟨hs,arr,T,fr,hh,_⟩:=h
 exact (Array.getElem?_eq_some_iff.1 hh).1
section
variable {α:Type} {n:Nat} {R R':(Nat→Option Value)→α→List Nat→Prop} {own:Bool} {w w':World} {fz fz':Nat→Prop} {v:Value} {xs:List α} {o:List Nat}
theorem CK.imp (h:CK n R own w fz v xs o) (hf:∀ b,b∈o∨fz b→w'.heap[b]? = w.heap[b]?) (hz:∀ b,fz b→fz' b)
  (hr:∀ g x oi,(∀ b∈oi,b∈o)→R g x oi→R' g x oi):CK n R' own w' fz' v xs o:=by
 obtain ⟨A,c,hv,hc,h⟩:=h
 refine ⟨A,c,hv,hc, ?_⟩
 cases A with
 | none=>exact h
 | some a =>
  rcases h with h | ⟨g,os,hrow,hel,ho⟩
  ·exact .inl h
  refine .inr ?_
  cases own with
  | true =>
   refine ⟨g,os,hrow.frame (hf _ (.inl (by rw [ho];simp))),fun i hi=>hr _ _ _ ?_ (hel i hi),ho⟩
   intro b hb;rw [ho];exact List.mem_cons_of_mem _ (List.mem_flatMap.2 ⟨i,List.mem_range.2 hi,hb⟩)
  | false =>
   refine ⟨g,os,hrow.frame (hf _ (.inr ho.1)),fun i hi=>hr _ _ _ ?_ (hel i hi),hz _ ho.1,ho.2⟩
   intro b hb;rw [ho.2.2 i hi] at hb;cases hb
theorem CK.freeze (h:CK n R own w fz v xs o) (hz:∀ b,fz b∨b∈o→fz' b) (hr:∀ g x oi,(∀ b∈oi,b∈o)→R g x oi→R' g x []):CK n R' false w fz' v xs []:=by
 obtain ⟨A,c,hv,hc,h⟩:=h
 refine ⟨A,c,hv,hc, ?_⟩
 cases A with
 | none=>exact ⟨h.1,rfl⟩
 | some a =>
  rcases h with h | ⟨g,os,hrow,hel,ho⟩
  ·exact .inl ⟨rfl,h.2.1,rfl⟩
  obtain ⟨hs,arr,T,fr,hh,hn,hb,hg⟩:=hrow
  refine .inr ⟨g,fun _=>[],⟨hs,arr,T,fr,hh,hn,fun h=>by simp at h,hg⟩,fun i hi=>hr _ _ _ ?_ (hel i hi),hz _ ?_,rfl,fun _ _=>rfl⟩
  ·cases own with
   | true=>intro b hb;rw [ho];exact List.mem_cons_of_mem _ (List.mem_flatMap.2 ⟨i,List.mem_range.2 hi,hb⟩)
   | false=>intro b hb;rw [ho.2.2 i hi] at hb;cases hb
  ·cases own with
   | true=>right;rw [ho];simp
   | false=>exact .inl ho.1
theorem CK.zero (h:CK n R false w fz v xs o):o=[]:=by
 obtain ⟨A,c,hv,hc,h⟩:=h
 cases A with
 | none=>exact h.2
 | some a =>
  rcases h with h | ⟨g,os,hrow,hel,ho⟩
  ·exact h.2.2
  ·exact ho.2.1
theorem CK.dep (h:CK n R own w fz v xs o) (hr:∀ g x oi,R g x oi→∀ b∈oi,b<w.heap.size):∀ b∈o,b<w.heap.size:=by
 obtain ⟨A,c,hv,hc,h⟩:=h
 cases A with
 | none=>rw [h.2];simp
 | some a =>
  rcases h with h | ⟨g,os,hrow,hel,ho⟩
  ·rw [h.2.2];simp
  cases own with
  | false=>rw [ho.2.1];simp
  | true =>
   intro b hb
   rw [ho] at hb
   rcases List.mem_cons.1 hb with rfl | hb
   ·exact hrow.lt
   ·obtain ⟨i,hi,hb⟩:=List.mem_flatMap.1 hb
    exact hr _ _ _ (hel i (List.mem_range.1 hi)) b hb
end
mutual
theorem L.AJ:∀ (l:L) {d:Nat} {w w':World} {fz fz':Nat→Prop} {v:Value} {x:l.D} {o:List Nat},
  l.rd d w fz v x o→(∀ b,b∈o∨fz b→w'.heap[b]? = w.heap[b]?)→(∀ b,fz b→fz' b)→l.rd d w' fz' v x o
 | .int _,_,_,_,_,_,_,_,_,h,_,_=>h
 | .bool,_,_,_,_,_,_,_,_,h,_,_=>h
 | .str,_,_,_,_,_,_,_,_,h,_,_=>h
 | .sl _ e,d,w,w',fz,fz',v,x,o,h,hf,hz=>by
  rw [L.Ix] at h ⊢
  exact CK.imp h hf hz fun g y oi ho hr=>Ls.AJ e hr (fun b hb=>hf b (hb.imp (ho b) id)) hz
theorem Ls.AJ:∀ (ls:Ls) {d:Nat} {w w':World} {fz fz':Nat→Prop} {g:Nat→Option Value} {x:ls.D} {o:List Nat},
  ls.rd d w fz g x o→(∀ b,b∈o∨fz b→w'.heap[b]? = w.heap[b]?)→(∀ b,fz b→fz' b)→ls.rd d w' fz' g x o
 | .nil,_,_,_,_,_,_,_,_,h,_,_=>h
 | .one l,d,w,w',fz,fz',g,x,o,h,hf,hz=>by
  simp only [Ls.rd] at h ⊢
  obtain ⟨v,hg,h⟩:=h
  exact ⟨v,hg,L.AJ l h hf hz⟩
 | .cons l ls,d,w,w',fz,fz',g,x,o,h,hf,hz=>by
  simp only [Ls.rd] at h ⊢
  obtain ⟨v,o1,o2,hg,h1,h2,rfl⟩:=h
  exact ⟨v,o1,o2,hg,L.AJ l h1 (fun b hb=>hf b (hb.imp (List.mem_append_left _) id)) hz,Ls.AJ ls h2 (fun b hb=>hf b (hb.imp (List.mem_append_right _) id)) hz,rfl⟩
end
mutual
theorem L.Cc:∀ (l:L) {d:Nat} {w:World} {fz fz':Nat→Prop} {v:Value} {x:l.D} {o:List Nat},
  l.rd d w fz v x o→(∀ b,fz b∨b∈o→fz' b)→l.rd 0 w fz' v x []
 | .int _,_,_,_,_,_,_,_,h,_=>by simp only [L.rd] at h ⊢;exact ⟨h.1,trivial⟩
 | .bool,_,_,_,_,_,_,_,h,_=>by simp only [L.rd] at h ⊢;exact ⟨h.1,trivial⟩
 | .str,_,_,_,_,_,_,_,h,_=>by simp only [L.rd] at h ⊢;exact ⟨h.1,trivial⟩
 | .sl _ e,d,w,fz,fz',v,x,o,h,hz=>by
  rw [L.Ix] at h ⊢
  exact CK.freeze h hz fun g y oi ho hr=>Ls.Cc e hr fun b hb=>hz b (hb.imp id (ho b))
theorem Ls.Cc:∀ (ls:Ls) {d:Nat} {w:World} {fz fz':Nat→Prop} {g:Nat→Option Value} {x:ls.D} {o:List Nat},
  ls.rd d w fz g x o→(∀ b,fz b∨b∈o→fz' b)→ls.rd 0 w fz' g x []
 | .nil,_,_,_,_,_,_,_,_,_=>rfl
 | .one l,d,w,fz,fz',g,x,o,h,hz=>by
  simp only [Ls.rd] at h ⊢
  obtain ⟨v,hg,h⟩:=h
  exact ⟨v,hg,L.Cc l h hz⟩
 | .cons l ls,d,w,fz,fz',g,x,o,h,hz=>by
  simp only [Ls.rd] at h ⊢
  obtain ⟨v,o1,o2,hg,h1,h2,rfl⟩:=h
  exact ⟨v,[],[],hg,L.Cc l h1 (fun b hb=>hz b (hb.imp id (List.mem_append_left _))),Ls.Cc ls h2 (fun b hb=>hz b (hb.imp id (List.mem_append_right _))),rfl⟩
end
mutual
theorem L.Bn:∀ (l:L) {w:World} {fz:Nat→Prop} {v:Value} {x:l.D} {o:List Nat},l.rd 0 w fz v x o→o=[]
 | .int _,_,_,_,_,_,h=>h.2
 | .bool,_,_,_,_,_,h=>h.2
 | .str,_,_,_,_,_,h=>h.2
 | .sl _ e,w,fz,v,x,o,h=>by
  rw [L.Ix] at h
  exact CK.zero h
theorem Ls.Bn:∀ (ls:Ls) {w:World} {fz:Nat→Prop} {g:Nat→Option Value} {x:ls.D} {o:List Nat},ls.rd 0 w fz g x o→o=[]
 | .nil,_,_,_,_,_,h=>h
 | .one l,w,fz,g,x,o,h=>by
  simp only [Ls.rd] at h
  obtain ⟨v,hg,h⟩:=h
  exact L.Bn l h
 | .cons l ls,w,fz,g,x,o,h=>by
  simp only [Ls.rd] at h
  obtain ⟨v,o1,o2,hg,h1,h2,rfl⟩:=h
  rw [L.Bn l h1,Ls.Bn ls h2];rfl
end
mutual
theorem L.GD:∀ (l:L) {d:Nat} {w:World} {fz:Nat→Prop} {v:Value} {x:l.D} {o:List Nat},l.rd d w fz v x o→∀ b∈o,b<w.heap.size
 | .int _,_,_,_,_,_,_,h=>by simp only [L.rd] at h;rw [h.2];simp
 | .bool,_,_,_,_,_,_,h=>by simp only [L.rd] at h;rw [h.2];simp
 | .str,_,_,_,_,_,_,h=>by simp only [L.rd] at h;rw [h.2];simp
 | .sl _ e,d,w,fz,v,x,o,h=>by
  rw [L.Ix] at h
  exact CK.dep h fun g y oi hr=>Ls.GD e hr
theorem Ls.GD:∀ (ls:Ls) {d:Nat} {w:World} {fz:Nat→Prop} {g:Nat→Option Value} {x:ls.D} {o:List Nat},ls.rd d w fz g x o→∀ b∈o,b<w.heap.size
 | .nil,_,_,_,_,_,_,h=>by simp only [Ls.rd] at h;rw [h];simp
 | .one l,d,w,fz,g,x,o,h=>by
  simp only [Ls.rd] at h
  obtain ⟨v,hg,h⟩:=h
  exact L.GD l h
 | .cons l ls,d,w,fz,g,x,o,h=>by
  simp only [Ls.rd] at h
  obtain ⟨v,o1,o2,hg,h1,h2,rfl⟩:=h
  intro b hb
  rcases List.mem_append.1 hb with hb | hb
  ·exact L.GD l h1 b hb
  ·exact Ls.GD ls h2 b hb
end
def AD (e:Ls) (d:Nat) (w:World) (fz:Nat→Prop) (v:Value) (xs:List e.D) (o:List Nat):Prop :=
 CK e.n (fun g y o=>e.rd (dec d) w fz g y o) (decide (0<d)) w fz v xs o
theorem L.Kf {t:TypeId} {e:Ls} {d:Nat} {w:World} {fz:Nat→Prop} {v:Value} {x:(L.sl t e).D} {o:List Nat} :
  (L.sl t e).rd d w fz v x o↔AD e d w fz v x o:=Iff.rfl
section
variable {e:Ls} {d:Nat} {w w':World} {fz fz':Nat→Prop} {v:Value} {xs:List e.D} {o:List Nat}
theorem AD.frame (h:AD e d w fz v xs o) (hf:∀ b,b∈o∨fz b→w'.heap[b]? = w.heap[b]?) (hz:∀ b,fz b→fz' b):AD e d w' fz' v xs o:=L.AJ (.sl 0 e) h hf hz
theorem AD.freeze (h:AD e d w fz v xs o) (hz:∀ b,fz b∨b∈o→fz' b):AD e 0 w fz' v xs []:=L.Cc (.sl 0 e) h hz
theorem AD.zero (h:AD e 0 w fz v xs o):o=[]:=L.Bn (.sl 0 e) h
theorem AD.dep (h:AD e d w fz v xs o):∀ b∈o,b<w.heap.size:=L.GD (.sl 0 e) h
end
end Go.Ev
namespace Go.Ev
set_option linter.unusedVariables false
structure Loc where
 r:Nat
 j:Nat
 AA:Nat
 gen:Nat
 p:List (Nat×Nat)
inductive LA where
 | bad
 | undef
 | DC
 | JH
 | sc (l:L) (x:l.D)
 | ref (c:Loc)
 | D7 (c:Loc) (lo hi:Nat)
 | ptr (r j AA:Nat)
 | Bm (c:Loc)
 | D1 (e:Ls) (x:e.D) (off:Nat)
 | fn (f:FuncId)
 | JB (t:TypeId) (c:Loc)
 | EB (g:FuncId) (ps qs:List (Nat×Nat))
 | arr (AA gen:Nat) (t:TypeId) (e:Ls) (xs:List e.D) (d:Nat)
inductive AV where
 | v (agg:Bool) (ls:List LA)
 | De (vs:List (Bool×List LA))
 | bx (ls:List LA)
structure Bo where
 box:Bool
 AA:Nat
 ls:List LA
structure St where
 sl:List AV
 ro:List Bo
 Bv:Nat
def nth {α:Type} (d:α):List α→Nat→α
 | [],_=>d
 | x::_,0=>x
 | _::xs,n+1=>nth d xs n
def CV {α:Type}:List α→Nat→α→List α
 | [],_,_=>[]
 | _::xs,0,y=>y::xs
 | x::xs,n+1,y=>x::CV xs n y
def isNil {α:Type}:List α→Bool
 | []=>true
 | _::_=>false
def has (ms:List Nat) (t:Nat):Bool:=match ms with
 | []=>false
 | m::ms=>m==t||has ms t
def dead:Bo:=⟨false,0,[]⟩
def St.slot (s:St) (t:Nat):AV:=nth (.v false [.bad]) s.sl t
def St.root (s:St) (r:Nat):Bo:=nth dead s.ro r
def St.leaf (s:St) (r j:Nat):LA:=nth .bad (s.root r).ls j
inductive Wr where
 | slot (t:Nat) (a:AV)
 | root (r:Nat) (x:Bo)
 | leaf (r j:Nat) (a:LA)
 | half (r j v:Nat)
def LA.Cd (v:Nat):LA→LA
 | .arr AA _ t e xs (_+1) => .arr AA v t e xs 1
 | a=>a
def St.AG (s:St):Wr→St
 | .slot t a=>{ s with sl:=CV s.sl t a }
 | .root r x=>{ s with ro:=CV s.ro r x }
 | .leaf r j a=>{ s with ro:=CV s.ro r { s.root r with ls:=CV (s.root r).ls j a } }
 | .half r j v=>{ s with ro:=CV s.ro r { s.root r with ls:=CV (s.root r).ls j ((s.leaf r j).Cd v) } }
def St.app (s:St):List Wr→St
 | []=>s
 | w::ws=>(s.AG w).app ws
inductive Step (β:Type) where
 | none
 | go (s:β)
 | Mt {α:Type} (m:Option α) (f:α→Step β)
 | iff (b:Bool) (x y:Step β)
def Step.run {β R:Type} (k:β→Option R):Step β→Option R
 | .none=>Option.none
 | .go s=>k s
 | .Mt m f=>m.bind fun x=>(f x).run k
 | .iff b x y=>bif b then x.run k else y.run k
def Step.leads {β:Type} (t:β):Step β→Prop
 | .none=>False
 | .go s=>s=t
 | .Mt m f=>∃ x,m=some x∧(f x).leads t
 | .iff b x y=>match b with
  | true=>x.leads t
  | false=>y.leads t
theorem Step.Cw {β R:Type} {k:β→Option R} {r:R}:∀ (s:Step β),s.run k=some r→∃ t,s.leads t∧k t=some r
 | .none,h=>by simp [Step.run] at h
 | .go s,h=>⟨s,rfl,h⟩
 | .Mt m f,h=>by
  simp only [Step.run] at h
  cases m with
  | none=>simp at h
  | some x=>obtain ⟨t,a,b⟩:=Step.Cw (f x) h;exact ⟨t,⟨x,rfl,a⟩,b⟩
 | .iff b x y,h=>by
  simp only [Step.run] at h
  cases b with
  | true=>obtain ⟨t,a,b⟩:=Step.Cw x h;exact ⟨t,a,b⟩
  | false=>obtain ⟨t,a,b⟩:=Step.Cw y h;exact ⟨t,a,b⟩
variable {β:Type}
structure Ty where
 agg:Bool
 ls:Ls
 fs:List (Nat×TypeId)
 eq:Bool
def H0 {α:Type}:List α→Nat→Option α
 | [],_=>none
 | x::_,0=>some x
 | _::xs,n+1=>H0 xs n
def Eu:List L→Ls
 | [] => .nil
 | [l] => .one l
 | l::m::r => .cons l (Eu (m::r))
inductive PM where
 | val (agg:Bool) (ls:List L)
 | box (ls:List (L×Nat))
 | row (agg:Bool) (ls:List (L×Nat))
 | fn (f:FuncId)
def PM.ins:PM→List L
 | .val _ ls=>ls
 | .box ls=>ls.map (·.1)
 | .row _ ls=>ls.map (·.1)
 | .fn _=>[]
def PM.outs:PM→List (L×Nat)
 | .val _ _=>[]
 | .box ls=>ls
 | .row _ ls=>ls
 | .fn _=>[]
structure Sm where
 ps:List PM
 rs:List (Bool×List (L×Nat))
def Sm.ins (s:Sm):Ls:=Eu (s.ps.flatMap PM.ins)
def Sm.Gq (s:Sm):List (L×Nat):=s.rs.flatMap (·.2)++s.ps.flatMap PM.outs
def Sm.outs (s:Sm):Ls:=Eu (s.Gq.map (·.1))
def Sm.mk? (s:Sm):Bool:=match s.rs with
 | [(false,_::_::_)]=>true
 | _=>false
def PM.isVal:PM→Bool
 | .val _ _=>true
 | _=>false
def Sm.plain (s:Sm):Bool:=s.ps.all PM.isVal&&s.Gq.all fun p=>p.2==0
structure Mz where
 s:Sm
 f:s.ins.D→Option s.outs.D
inductive KK where
 | box (ls:List L)
 | EB (g:FuncId) (bs:List (List L))
 | row
def KK.kinds:KK→List L
 | .box ls=>ls
 | .EB _ bs=>bs.flatten
 | .row=>[]
structure ON where
 t:TypeId
 I8:List KK
 lt:(Eu (I8.flatMap KK.kinds)).D→Int→Int→Option Bool
structure Env where
 fn:FuncId→Option Mz
 O3:FuncId→FuncId→Option ON
 Oo:TypeId→Bool
structure Cx where
 ty:TypeId→Option Ty
 env:Env
 lock:Nat→Bool
 E6:Nat→Bool
 KM:Nat→Bool
def JF:(e:Ls)→Nat→e.D→((t:TypeId)→(f:Ls)→List f.D→Step β)→Step β
 | .nil,_,_,_ => .none
 | .one l,0,x,k=>match l,x with
  | .sl t f,xs=>k t f xs
  | _,_ => .none
 | .one _,_+1,_,_ => .none
 | .cons l ls,0,x,k=>match l,x with
  | .sl t f,xs=>k t f xs.1
  | _,_ => .none
 | .cons _ ls,j+1,x,k=>JF ls j x.2 k
def OU (k:(t:TypeId)→(e:Ls)→List e.D→Nat→Step β):(p:List (Nat×Nat))→(t:TypeId)→(e:Ls)→List e.D→Nat→Step β
 | [],t,e,xs,d=>k t e xs d
 | (i,j)::p,_,e,xs,d => .Mt (xs[i]?) fun x=>JF e j x fun t f ys=>OU k p t f ys (dec d)
def St.content (s:St) (c:Loc) (k:(t:TypeId)→(e:Ls)→List e.D→Nat→Step β):Step β:=match s.leaf c.r c.j with
 | .arr AA gen t e xs d=>if AA==c.AA&&(isNil c.p||gen==c.gen) then OU k c.p t e xs d else .none
 | _ => .none
def ND {α:Type} (xs:List α) (i:Int):Option α:=if 0≤i then xs[i.toNat]? else none
def Of {α:Type} (xs:List α) (i:Int):Bool:=decide (0≤i)&&decide (i<xs.length)
def sub {α:Type} (xs:List α) (lo hi:Nat):List α:=(xs.drop lo).take (hi - lo)
def St.Aw (s:St) (l:L) (a:LA) (k:l.D→Step β):Step β:=match a with
 | .sc m x=>match L.cast l (a:=m) x with
  | some y=>k y
  | none => .none
 | .DC=>match l,k with
  | .sl _ _,k=>k []
  | _,_ => .none
 | .ref c=>s.content c fun t e xs _=>match L.cast l (a := .sl t e) xs with
  | some y=>k y
  | none => .none
 | .D7 c lo hi=>s.content c fun t e xs _=>match L.cast l (a := .sl t e) (sub xs lo hi) with
  | some y=>k y
  | none => .none
 | _ => .none
def St.data (s:St):List L→List LA→(List Lv→Step β)→Step β
 | [],[],k=>k []
 | l::ls,a::as,k=>s.Aw l a fun x=>s.data ls as fun vs=>k (⟨l,x⟩::vs)
 | _,_,_ => .none
def Bs:(e:Ls)→Nat→List Lv→Option (e.D→e.D)
 | .nil=>fun _ _=>none
 | .one l=>fun off vs=>match off,vs with
  | 0,[v]=>match L.cast l v.x with
   | some y=>some fun _=>y
   | none=>none
  | _,_=>none
 | .cons l ls=>fun off vs=>match off with
  | 0=>match vs with
   | []=>none
   | [v]=>match L.cast l v.x with
    | some y=>some fun x=>(y,x.2)
    | none=>none
   | v::u::vs=>match L.cast l v.x,Bs ls 0 (u::vs) with
    | some y,some f=>some fun x=>(y,f x.2)
    | _,_=>none
  | off+1=>match Bs ls off vs with
   | some f=>some fun x=>(x.1,f x.2)
   | none=>none
def CI:(e:Ls)→Nat→((t:TypeId)→(f:Ls)→Option (List f.D→List f.D))→Option (e.D→e.D)
 | .nil=>fun _ _=>none
 | .one l=>fun j g=>match j with
  | 0=>match l with
   | .sl t f=>g t f
   | _=>none
  | _+1=>none
 | .cons l ls=>fun j g=>match j with
  | 0=>match l with
   | .sl t f=>match g t f with
    | some h=>some fun x=>(h x.1,x.2)
    | none=>none
   | _=>none
  | j+1=>match CI ls j g with
   | some h=>some fun x=>(x.1,h x.2)
   | none=>none
def Gp (vs:List Lv):(p:List (Nat×Nat))→(e:Ls)→Option (List e.D→List e.D)
 | [],_=>none
 | (i,j)::p,e=>match p with
  | []=>match (if j==0&&vs.length==e.n then pack e vs else none) with
   | some y=>some fun xs=>CV xs i y
   | none=>match Bs e j vs with
    | some f=>some fun xs=>xs.modify i f
    | none=>none
  | _::_=>match CI e j fun _ f=>Gp vs p f with
   | some h=>some fun xs=>xs.modify i h
   | none=>none
def Ht (g:(t:TypeId)→(e:Ls)→Option (List e.D→List e.D)):(p:List (Nat×Nat))→(t:TypeId)→(e:Ls)→Option (List e.D→List e.D)
 | [],t,e=>g t e
 | (i,j)::p,_,e=>match CI e j fun t f=>Ht g p t f with
  | some h=>some fun xs=>xs.modify i h
  | none=>none
def N9 (x:Lv) (t:TypeId) (e:Ls):Option (List e.D→List e.D):=match L.cast (a:=x.l) (.sl t e) x.x with
 | some y=>some fun _=>y
 | none=>none
def ofConst:Value→LA
 | .int k n => .sc (.int k) (show Int from n)
 | .bool b => .sc .bool (show Bool from b)
 | .string s => .sc .str (show List UInt8 from s.data.toList)
 | .slice none 0 0 => .DC
 | .pointer none => .JH
 | _ => .bad
def St.Ap (s:St):Operand→AV
 | .tmp t=>s.slot t
 | .const (.agg cs) => .v true (cs.toList.map ofConst)
 | .const v => .v false [ofConst v]
 | .func f => .v false [.fn f]
 | .global _ => .v false [.bad]
def AV.one? : AV→LA
 | .v false [a]=>a
 | _ => .bad
def St.Ai (s:St) (x:Operand):LA:=(s.Ap x).one?
def Bw:L→Bool
 | .sl _ _=>true
 | _=>false
def Bq:Ls→Bool
 | .nil=>true
 | .one l => !Bw l
 | .cons l ls => !Bw l&&Bq ls
def I2 (v:Nat):L→LA
 | .int k => .sc (.int k) (show Int from 0)
 | .bool => .sc .bool (show Bool from false)
 | .str => .sc .str (show List UInt8 from [])
 | .sl t e => .arr v v t e [] 2
def K4:(l:L)→l.D
 | .int _=>(0:Int)
 | .bool=>false
 | .str=>([]:List UInt8)
 | .sl _ e=>([]:List e.D)
def FQ:(ls:Ls)→ls.D
 | .nil=>()
 | .one l=>K4 l
 | .cons l ls=>(K4 l,FQ ls)
def St.take (cx:Cx) (s:St) (v:Nat) (a:LA) (l:L) (k:LA→List (Nat×Nat)→Step β):Step β:=match a with
 | .sc m x=>if L.eq? m l then k (.sc m x) [] else .none
 | .DC=>match l with
  | .sl t e=>k (.arr v v t e [] 2) []
  | _ => .none
 | .ref c=>match s.leaf c.r c.j with
  | .arr AA _ t e xs d=>if AA==c.AA&&isNil c.p && !cx.KM c.r&&L.eq? l (.sl t e) then k (.arr v v t e xs d) [(c.r,c.j)] else match d with
   | 0=>s.content c fun t e ys _=>if L.eq? l (.sl t e) then k (.sc (.sl t e) ys) [] else .none
   | _+1 => .none
  | _ => .none
 | .D7 c lo hi=>match s.leaf c.r c.j with
  | .arr AA _ t e xs d=>if AA==c.AA&&isNil c.p && !cx.KM c.r&&L.eq? l (.sl t e) then k (.arr v v t e (sub xs lo hi) d) [(c.r,c.j)] else .none
  | _ => .none
 | .ptr r j AA=>if (s.root r).box&&(s.root r).AA==AA then k (.ptr r j AA) [] else .none
 | .fn f=>k (.fn f) []
 | _ => .none
def St.Ft (cx:Cx) (s:St) (v:Nat):List L→List LA→(List LA→List (Nat×Nat)→Step β)→Step β
 | [],[],k=>k [] []
 | l::ls,a::as,k=>s.take cx v a l fun b us=>s.Ft cx v ls as fun bs vs=>if us.all fun u => !vs.contains u then k (b::bs) (us++vs) else .none
 | _,_,_ => .none
def gone (us:List (Nat×Nat)):List Wr:=us.map fun u => .leaf u.1 u.2 .bad
end Go.Ev
namespace Go.Ev
set_option linter.unusedVariables false
variable {β:Type}
def one (a:LA):AV := .v false [a]
def IQ (k:IntKind) (n:Int):AV:=one (.sc (.int k) (show Int from n))
def IP (b:Bool):AV:=one (.sc .bool (show Bool from b))
def Og (s:List UInt8):AV:=one (.sc .str (show List UInt8 from s))
def isZero:Operand→Bool
 | .const (.int _ n)=>n==0
 | _=>true
def OO (k:IntKind) (x y:Int):Int:=k.wrap (BitVec.ofInt k.bits x &&& BitVec.ofInt k.bits y).toNat
def O2 (k:IntKind) (x y:Int):Int:=k.wrap (BitVec.ofInt k.bits x ||| BitVec.ofInt k.bits y).toNat
def Oa (k:IntKind) (x y:Int):Int:=k.wrap (BitVec.ofInt k.bits x ^^^ BitVec.ofInt k.bits y).toNat
def OC (k:IntKind) (x y:Int):Int:=k.wrap (x * 2 ^ (min y.toNat k.bits))
def OD (k:IntKind) (x y:Int):Int:=x.fdiv (2 ^ (min y.toNat k.bits))
def L7 (op:BinOp) (y:Operand) (i:IntKind) (a b:Int) (k:AV→Step β):Step β:=match op with
 | .quo=>if isZero y then .iff (b==0) .none (k (IQ i (i.wrap (Int.tdiv a b)))) else k (IQ i (i.wrap (Int.tdiv a b)))
 | .rem=>if isZero y then .iff (b==0) .none (k (IQ i (Int.tmod a b))) else k (IQ i (Int.tmod a b))
 | .add=>k (IQ i (i.wrap (a+b)))
 | .sub=>k (IQ i (i.wrap (a - b)))
 | .mul=>k (IQ i (i.wrap (a * b)))
 | .eql=>k (IP (a==b))
 | .neq=>k (IP (a != b))
 | .lss=>k (IP (decide (a<b)))
 | .leq=>k (IP (decide (a≤b)))
 | .gtr=>k (IP (decide (a>b)))
 | .geq=>k (IP (decide (a≥b)))
 | .and=>k (IQ i (OO i a b))
 | .or=>k (IQ i (O2 i a b))
 | .xor=>k (IQ i (Oa i a b))
 | .shl => .iff (decide (0≤b)) (k (IQ i (OC i a b))) .none
 | .shr => .iff (decide (0≤b)) (k (IQ i (OD i a b))) .none
 | _ => .none
def Nn (op:BinOp) (a b:Bool) (k:AV→Step β):Step β:=match op with
 | .eql=>k (IP (a==b))
 | .neq=>k (IP (a != b))
 | _ => .none
def Np (op:BinOp) (a b:List UInt8) (k:AV→Step β):Step β:=match op with
 | .eql=>k (IP (a==b))
 | .neq=>k (IP (!(a==b)))
 | .add => .iff (decide (a.length+b.length≤4611686018427387904)) (k (Og (a++b))) .none
 | _ => .none
def IV (cx:Cx) (t:TypeId) (l:L):Bool:=match cx.ty t with
 | some ty => !ty.agg&&Ls.eq? ty.ls (.one l)
 | none=>false
def isRow (cx:Cx) (t:TypeId) (e:Ls):Bool:=match cx.ty t with
 | some ty => !ty.agg&&match ty.ls with
  | .one (.sl _ f)=>Ls.eq? f e
  | _=>false
 | none=>false
def Gy:BinOp→Bool
 | .shl=>true
 | .shr=>true
 | _=>false
def binop (isb:Bool) (op:BinOp) (y:Operand) (a b:LA) (k:AV→Step β):Step β:=match a,b with
 | .sc l a, .sc m b=>match l,a,m,b with
  | .int i,a, .int j,b=>if IntKind.code i==IntKind.code j||Gy op then L7 op y i a b k else .none
  | .bool,a, .bool,b=>if isb then Nn op a b k else .none
  | .str,a, .str,b=>Np op a b k
  | _,_,_,_ => .none
 | _,_ => .none
def OB (l:L) (a b:LA):Option Bool:=match l with
 | .int k=>match a,b with
  | .sc (.int i) x, .sc (.int j) y=>if IntKind.code i==IntKind.code k&&IntKind.code j==IntKind.code k then some ((show Int from x)==(show Int from y)) else none
  | _,_=>none
 | .bool=>match a,b with
  | .sc .bool x, .sc .bool y=>some ((show Bool from x)==(show Bool from y))
  | _,_=>none
 | .str=>match a,b with
  | .sc .str x, .sc .str y=>some ((show List UInt8 from x)==(show List UInt8 from y))
  | _,_=>none
 | .sl _ _=>none
def FV:List L→List LA→List LA→Option Bool
 | [],[],[]=>some true
 | l::ls,a::as,b::bs=>match OB l a b,FV ls as bs with
  | some p,some q=>some (p&&q)
  | _,_=>none
 | _,_,_=>none
def Lx (cx:Cx) (op:BinOp) (tx:TypeId) (as bs:List LA) (k:AV→Step β):Step β:=match cx.ty tx with
 | some ty=>if ty.eq then match FV ty.ls.kinds as bs with
   | some q=>match op with
    | .eql=>k (IP q)
    | .neq=>k (IP (!q))
    | _ => .none
   | none => .none
  else .none
 | none => .none
def N1 (a:Int):Int:=0 - a
def NK (a b:Int):Int:=bif decide (b<a) then b else a
def NJ (a b:Int):Int:=bif decide (b>a) then b else a
def seen (r j:Nat) (a:LA):LA:=match a with
 | .arr AA _ _ _ _ _ => .ref ⟨r,j,AA,AA,[]⟩
 | b=>b
def Az (r:Nat):Nat→List LA→List LA
 | _,[]=>[]
 | j,a::as=>seen r j a::Az r (j+1) as
def IF (r j:Nat) (a:LA):LA:=match a with
 | .arr AA gen t e xs d=>match d with
  | 0 => .sc (.sl t e) xs
  | _+1 => .ref ⟨r,j,AA,AA,[]⟩
 | b=>b
def BO (r:Nat):Nat→List LA→List LA
 | _,[]=>[]
 | j,a::as=>IF r j a::BO r (j+1) as
def Bp (c:Loc) (i:Nat) (d:Nat):Nat→List Lv→List LA
 | _,[]=>[]
 | off,v::vs=>(if Bw v.l&&decide (0<d) then LA.ref { c with p:=c.p++[(i,off)] } else .sc v.l v.x)::Bp c i d (off+1) vs
def Aj:List (Nat×Nat)→Option (List (Nat×Nat)×Nat×Nat)
 | []=>none
 | [x]=>some ([],x.1,x.2)
 | x::y::r=>match Aj (y::r) with
  | some (q,i,off)=>some (x::q,i,off)
  | none=>none
def St.Ju (s:St) (r j:Nat):Nat:=match s.leaf r j with
 | .arr _ gen _ _ _ _=>gen
 | _=>0
def St.C7 (s:St) (a:LA) (n:Nat) (k:List LA→Step β):Step β:=match a with
 | .ptr r j AA=>if (s.root r).box&&(s.root r).AA==AA&&decide (j+n≤(s.root r).ls.length) then k (BO r j (((s.root r).ls.drop j).take n)) else .none
 | .D1 e x off=>k ((((unpack e x).drop off).take n).map fun v => .sc v.l v.x)
 | .Bm c=>match Aj c.p with
  | none => .none
  | some (q,i,off)=>s.content { c with p:=q } fun t e xs d => .Mt (xs[i]?) fun x=>k (Bp { c with p:=q,gen:=s.Ju c.r c.j } i (dec d) off (((unpack e x).drop off).take n))
 | _ => .none
def St.FI (s:St) (a:AV) (n:Nat) (k:List LA→Step β):Step β:=match a with
 | .bx as=>if decide (n≤as.length) then k (as.take n) else .none
 | a=>s.C7 a.one? n k
def MH (s:St) (as:List LA):Bool:=as.any fun a=>match a with
 | .ref c=>c.AA==1 && !(s.root c.r).box
 | _=>false
def St.alive (s:St):LA→Bool
 | .ptr r j AA=>(s.root r).box&&(s.root r).AA==AA
 | .Bm c=>match s.leaf c.r c.j with
  | .arr AA gen _ _ _ _=>AA==c.AA&&(decide (c.p.length≤1)||gen==c.gen)
  | _=>false
 | .D1 _ _ _=>true
 | _=>false
def St.setAt (s:St) (g:Nat) (c:Loc) (h:(e:Ls)→Option (List e.D→List e.D)):Option (List Wr):=match s.leaf c.r c.j with
 | .arr AA gen t e xs d=>if AA==c.AA&&(isNil c.p||gen==c.gen) then match h e with
   | some f=>some [.leaf c.r c.j (.arr AA g t e (f xs) d)]
   | none=>none
  else none
 | _=>none
def St.KD (s:St) (g:Nat) (c:Loc) (vs:List Lv):Option (List Wr):=match s.leaf c.r c.j with
 | .arr AA gen t e xs d=>if AA==c.AA&&(decide (c.p.length≤1)||gen==c.gen)&&decide (0<d)&&(decide (c.p.length≤1)||d==2) then match Gp vs c.p e with
   | some f=>some [.leaf c.r c.j (.arr AA g t e (f xs) d)]
   | none=>none
  else none
 | _=>none
def A4 (r:Nat):Nat→List LA→List Wr
 | _,[]=>[]
 | j,a::as => .leaf r j a::A4 r (j+1) as
def St.half (s:St) (r j:Nat):Bool:=match s.leaf r j with
 | .arr _ _ _ _ _ 1=>true
 | _=>false
def Nv:LA→Bool
 | .sc _ _=>true
 | _=>false
def St.Cy (s:St) (v:Nat) (c:Loc) (ls:List L) (as:List LA) (k:List Wr→Step β):Step β:=match s.leaf c.r c.j with
 | .arr AA _ t e xs 1=>if AA==c.AA&&as.all Nv then s.data ls as fun vs=>match Gp vs c.p e with
   | some f=>k [.leaf c.r c.j (.arr AA v t e (f xs) 1)]
   | none => .none
  else .none
 | _ => .none
def St.GJ (cx:Cx) (s:St) (v:Nat) (a:LA) (ls:List L) (as:List LA) (k:List Wr→Step β):Step β:=match a with
 | .ptr r j AA=>if (s.root r).box&&(s.root r).AA==AA&&decide (j+ls.length≤(s.root r).ls.length) then s.Ft cx v ls as fun bs us=>k (gone us++A4 r j bs) else .none
 | .Bm c=>if ls.all fun l => !Bw l then s.data ls as fun vs=>match s.KD v c vs with
   | some ws=>k ws
   | none => .none
  else match c.p with
   | [_]=>if s.half c.r c.j then s.Cy v c ls as k else s.Ft cx v ls as fun bs us=>if us.all fun u => !(u.1==c.r&&u.2==c.j) then match bs.mapM fun b=>match b with
      | .arr _ _ t e xs 2=>some (⟨.sl t e,xs⟩:Lv)
      | .sc l x=>if Bw l then none else some ⟨l,x⟩
      | _=>none with
     | some vs=>match s.leaf c.r c.j with
      | .arr AA _ t e xs 2=>if AA==c.AA then match Gp vs c.p e with
        | some f=>k (gone us++[.leaf c.r c.j (.arr AA v t e (f xs) 2)])
        | none => .none
       else .none
      | _ => .none
     | none => .none
    else .none
   | _ => .none
 | _ => .none
def BF:LA→LA
 | .arr AA gen t e xs _ => .arr AA gen t e xs 0
 | a=>a
def Au (cx:Cx) (s:St):List Nat→Option (List Wr)
 | []=>some []
 | r::rs=>if cx.KM r then none else match Au cx s rs with
  | some ws=>some (A4 r 0 ((s.root r).ls.map BF)++ws)
  | none=>none
def Hw:List LA→List Nat
 | []=>[]
 | .ref c::as=>if isNil c.p then Hw as else c.r::Hw as
 | _::as=>Hw as
def MQ (q:LA) (as:List LA):List Nat:=match q with
 | .ptr _ _ _=>Hw as
 | _=>[]
def GI (cx:Cx) (v:Nat) (s:St) (dst:Option Tmp) (q:LA) (ls:List L) (as:List LA) (fs:List Wr):Step (List Wr):=s.GJ cx v q ls as fun ws=>match dst with
 | none => .go (fs++ws)
 | some _ => .none
def Ny (a:LA) (k:Int→Step β):Step β:=match a with
 | .sc l x=>match l,x with
  | .str,x=>k (List.length (α:=UInt8) x:Int)
  | _,_ => .none
 | _ => .none
def lenOf (s:St) (a:LA) (k:Int→Step β):Step β:=match a with
 | .sc l x=>match l,x with
  | .sl _ e,x=>k (List.length (α:=e.D) x:Int)
  | _,_ => .none
 | .DC=>k 0
 | .ref c=>s.content c fun t e xs _=>k (xs.length:Int)
 | .D7 c lo hi=>s.content c fun t e xs _=>k ((sub xs lo hi).length:Int)
 | _ => .none
def asInt (a:LA) (k:Int→Step β):Step β:=match a with
 | .sc l n=>match l,n with
  | .int _,n=>k n
  | _,_ => .none
 | _ => .none
def DW (s:St) (x:Option Operand) (d:Int) (k:Int→Step β):Step β:=match x with
 | none=>k d
 | some x=>asInt (s.Ai x) k
def ownRow (d v:Nat) (t:TypeId) (e:Ls) (xs:List e.D):List Wr:=[.root d ⟨false,v,[.arr v v t e xs 2]⟩, .slot d (one (.ref ⟨d,0,v,v,[]⟩))]
def GC (d v:Nat) (ls:List LA):List Wr:=[.root d ⟨true,v,ls⟩, .slot d (one (.ptr d 0 v))]
def EX (cx:Cx) (s:St) (a:LA) (t:TypeId) (e:Ls) (k:List e.D→List (Nat×Nat)→Step β):Step β :=
 if Bq e then s.Aw (.sl t e) a fun ys=>k ys [] else match a with
  | .ref c=>match s.leaf c.r c.j with
   | .arr AA _ t' e' xs d=>if AA==c.AA&&isNil c.p && !cx.KM c.r&&d==2 then match L.cast (a := .sl t' e') (.sl t e) xs with
     | some ys=>k ys [(c.r,c.j)]
     | none => .none
    else .none
   | _ => .none
  | _ => .none
def DZ:Nat:=68719476736
def C1 (cx:Cx) (s:St) (d v:Nat) (t:TypeId) (e:Ls) (a b:LA) (k:List Wr→Step β):Step β:=match a with
 | .DC=>EX cx s b t e fun ys us => .iff (decide (ys.length≤DZ)) (k (gone us++ownRow d v t e ys)) .none
 | .ref c=>match s.leaf c.r c.j with
  | .arr AA _ t' e' xs dd=>if AA==c.AA&&isNil c.p && !cx.KM c.r&&dd==2 then match L.cast (a := .sl t' e') (.sl t e) xs with
    | some xs=>EX cx s b t e fun ys us=>if us.contains (c.r,c.j) then .none else .iff (decide (List.length (α:=e.D) xs+ys.length≤DZ)) (k (gone ((c.r,c.j)::us)++ownRow d v t e (List.append (α:=e.D) xs ys))) .none
    | none => .none
   else .none
  | _ => .none
 | .D7 c lo hi=>match s.leaf c.r c.j with
  | .arr AA _ t' e' xs dd=>if AA==c.AA&&isNil c.p && !cx.KM c.r&&dd==2&&Bq e then match L.cast (a := .sl t' e') (.sl t e) xs with
    | some xs=>EX cx s b t e fun ys us=>if us.contains (c.r,c.j) then .none else .iff (decide ((sub (α:=e.D) xs lo hi).length+ys.length≤DZ)) (k (gone ((c.r,c.j)::us)++ownRow d v t e (sub (α:=e.D) xs lo hi++ys))) .none
    | none => .none
   else .none
  | _ => .none
 | _ => .none
def Du (cx:Cx) (s:St) (d v:Nat) (t:TypeId) (e:Ls) (c:Loc) (b:LA) (k:List Wr→Step β):Step β:=match s.leaf c.r c.j with
 | .arr AA gen t0 e0 xs 2=>if AA==c.AA&&gen==c.gen && !cx.KM c.r&&Bq e then
   s.content c fun t' e' ys0 _=>match L.cast (a := .sl t' e') (.sl t e) ys0 with
    | some ys0=>s.Aw (.sl t e) b fun ys => .iff (decide (List.length (α:=e.D) ys0+List.length (α:=e.D) ys≤DZ)) (k [.half c.r c.j v, .slot d (one (.sc (.sl t e) (List.append (α:=e.D) ys0 ys)))]) .none
    | none => .none
  else .none
 | _ => .none
def nested (a:LA):Option Loc:=match a with
 | .ref c=>match c.p with
  | [_]=>some c
  | _=>none
 | _=>none
def ET (s:St) (a:LA):Option Loc:=match a with
 | .ref c=>match c.p with
  | []=>if s.half c.r c.j then some c else none
  | _=>none
 | _=>none
def Dt (cx:Cx) (s:St) (d v:Nat) (t:TypeId) (e:Ls) (c:Loc) (b:LA) (k:List Wr→Step β):Step β:=match s.leaf c.r c.j with
 | .arr AA _ t' e' xs 1=>if AA==c.AA && !cx.KM c.r&&Nv b then match L.cast (a := .sl t' e') (.sl t e) xs with
   | some xs=>s.Aw (.sl t e) b fun ys => .iff (decide (List.length (α:=e.D) xs+List.length (α:=e.D) ys≤DZ)) (k (gone [(c.r,c.j)]++[.root d ⟨false,v,[.arr v v t e (List.append (α:=e.D) xs ys) 1]⟩, .slot d (one (.ref ⟨d,0,v,v,[]⟩))])) .none
   | none => .none
  else .none
 | _ => .none
def Dh (cx:Cx) (s:St) (d v:Nat) (t:TypeId) (e:Ls) (a b:LA) (k:List Wr→Step β):Step β:=match nested a with
 | some c=>Du cx s d v t e c b k
 | none=>match ET s a with
  | some c=>Dt cx s d v t e c b k
  | none=>C1 cx s d v t e a b k
def Ed:List LA→Nat→List LA→List LA
 | ls,_,[]=>ls
 | ls,j,a::as=>Ed (CV ls j a) (j+1) as
def St.sure (s:St):LA→Bool
 | .sc _ _=>true
 | .DC=>true
 | .JH=>true
 | .D1 _ _ _=>true
 | .fn _=>true
 | .ptr r j AA=>(s.root r).box&&(s.root r).AA==AA
 | .ref c=>match s.leaf c.r c.j with
  | .arr AA gen _ _ _ _=>AA==c.AA&&(isNil c.p||gen==c.gen)
  | _=>false
 | .D7 c _ _=>match s.leaf c.r c.j with
  | .arr AA gen _ _ _ _=>AA==c.AA&&(isNil c.p||gen==c.gen)
  | _=>false
 | .Bm c=>s.alive (.Bm c)
 | _=>false
def Hi (cx:Cx) (s:St) (fs:List (Nat×TypeId)):List (Nat×Operand)→List LA→Option (List LA)
 | [],ls=>some ls
 | (i,x)::ps,ls=>match s.Ap x,H0 fs i with
  | .v g as,some (off,t)=>match cx.ty t with
   | some tf=>if as.length==tf.ls.n&&decide (off+tf.ls.n≤ls.length)&&(g||as.all s.sure) then Hi cx s fs ps (Ed ls off as) else none
   | none=>none
  | _,_=>none
def zeroOf (l:L):LA:=match l with
 | .sl _ _ => .DC
 | l => .sc l (K4 l)
def Cf (cx:Cx) (s:St) (v:Nat) (e:Ls):List (Nat×Operand)→Nat→(List e.D→List (Nat×Nat)→Step β)→Step β
 | [],_,k=>k [] []
 | (i,x)::ps,n,k=>if i==n then match s.Ap x with
   | .v _ as=>(if Bq e then s.data e.kinds as fun vs=>match pack e vs with
     | some y=>Cf cx s v e ps (n+1) fun ys us=>k (y::ys) us
     | none => .none
    else s.Ft cx v e.kinds as fun bs vs=>match bs.mapM fun b=>match b with
      | .arr _ _ t e xs 2=>some (⟨.sl t e,xs⟩:Lv)
      | .sc l x=>if Bw l then none else some ⟨l,x⟩
      | _=>none with
     | some ws=>match pack e ws with
      | some y=>Cf cx s v e ps (n+1) fun ys us=>if vs.all fun u => !us.contains u then k (y::ys) (vs++us) else .none
      | none => .none
     | none => .none)
   | _ => .none
  else .none
def Cb:List LA→Option Loc
 | []=>none
 | a::as=>match nested a with
  | some c=>some c
  | none=>Cb as
def D3 (s:St) (e:Ls) (ps:List (Nat×Operand)):Option (Operand×Loc):=if Bq e then none else match ps with
 | [(0,x)]=>match s.Ap x with
  | .v _ as=>match Cb as with
   | some c=>some (x,c)
   | none=>none
  | _=>none
 | _=>none
def J0 (c:Loc) (a:LA):Bool:=match a with
 | .ref c'=>c'.r==c.r&&c'.j==c.j&&c'.AA==c.AA&&c'.gen==c.gen&&match c'.p with
  | [_]=>true
  | _=>false
 | .sc _ _=>true
 | _=>false
def Cv (cx:Cx) (s:St) (d v:Nat) (t:TypeId) (e:Ls) (x:Operand) (c:Loc) (k:List Wr→Step β):Step β:=match s.Ap x with
 | .v _ as=>match s.leaf c.r c.j with
  | .arr AA gen t0 e0 xs 2=>if AA==c.AA&&gen==c.gen && !cx.KM c.r&&as.all (J0 c) then s.data e.kinds as fun vs=>match pack e vs with
    | some y=>k [.half c.r c.j v, .slot d (one (.sc (.sl t e) (show List e.D from [y])))]
    | none => .none
   else .none
  | _ => .none
 | _ => .none
def EO:List (L×Nat)→List LA→Bool
 | [],[]=>true
 | (l,m)::ls,a::as=>(match a with
  | .arr _ _ _ _ _ d=>d==m
  | .sc _ _ => !Bw l||m==0
  | _=>false)&&EO ls as
 | _,_=>false
abbrev Tg:=Nat×Option Nat
def Tg.DY (a b:Tg):Bool:=a.1==b.1&&match a.2,b.2 with
 | some i,some j=>i==j
 | _,_=>true
def Fc (rs:List Tg) (a:Tg):Bool:=rs.any fun b=>Tg.DY b a
def JT (s:St) (l:L) (d:Nat) (a:LA) (k:Lv→List Tg→Step β):Step β:=match l with
 | .sl t e=>match a with
  | .ref c=>if (match s.leaf c.r c.j with
    | .arr _ _ _ _ _ dd=>dd==d&&(isNil c.p||d==2)
    | _=>false) then s.Aw (.sl t e) (.ref c) fun x=>k ⟨.sl t e,x⟩ [(c.r,some c.j)] else .none
  | _ => .none
 | l=>s.Aw l a fun x=>k ⟨l,x⟩ []
def Ep (s:St):List (L×Nat)→List LA→(List Lv→List Tg→Step β)→Step β
 | [],[],k=>k [] []
 | (l,d)::ls,a::as,k=>JT s l d a fun x us=>Ep s ls as fun y rs=>if us.any (Fc rs) then .none else k (x::y) (us++rs)
 | _,_,_ => .none
def Am (s:St):List PM→List AV→(List Lv→List Tg→Step β)→Step β
 | [],[],k=>k [] []
 | .val g ls::ps, .v g' as::vs,k=>if g==g' then s.data ls as fun x=>Am s ps vs fun y rs=>k (x++y) rs else .none
 | .box ls::ps, .v false [.ptr r 0 AA]::vs,k =>
  if (s.root r).box&&(s.root r).AA==AA&&EO ls (s.root r).ls then
   s.data (ls.map (·.1)) (Az r 0 (s.root r).ls) fun x=>Am s ps vs fun y rs=>if Fc rs (r,none) then .none else k (x++y) ((r,none)::rs)
  else .none
 | .row g ls::ps, .v g' as::vs,k=>if g==g' then Ep s ls as fun x us=>Am s ps vs fun y rs=>if us.any (Fc rs) then .none else k (x++y) (us++rs) else .none
 | .fn f::ps, .v false [.fn g]::vs,k=>if f==g then Am s ps vs k else .none
 | _,_,_ => .none
def LA.roots:LA→List Nat
 | .ref c=>[c.r]
 | .D7 c _ _=>[c.r]
 | .Bm c=>[c.r]
 | .ptr r _ _=>[r]
 | .JB _ c=>[c.r]
 | .EB _ ps qs=>ps.map (·.1)++qs.map (·.1)
 | _=>[]
def AV.roots:AV→List Nat
 | .v _ as=>as.flatMap LA.roots
 | .De vs=>vs.flatMap fun v=>v.2.flatMap LA.roots
 | .bx as=>as.flatMap LA.roots
def Af:List PM→List AV→List Nat
 | .val _ _::ps,v::vs=>v.roots++Af ps vs
 | _::ps,_::vs=>Af ps vs
 | _,_=>[]
def Jg (d v:Nat):List (L×Nat)→List Lv→Nat→Option (List LA×List LA×List Lv)
 | [],vs,_=>some ([],[],vs)
 | (l,m)::ls,vs,j=>match vs with
  | []=>none
  | ⟨l',x⟩::vs=>match Jg d v ls vs (j+1) with
    | some (as,rs,left)=>match l',x with
     | .sl t e,xs=>match m with
      | 0=>some (.sc (.sl t e) xs::as, .bad::rs,left)
      | m+1=>some (.ref ⟨d,j,v,v,[]⟩::as, .arr v v t e xs (m+1)::rs,left)
     | l',x=>some (.sc l' x::as, .bad::rs,left)
    | none=>none
def Dw (d v:Nat):List (Bool×List (L×Nat))→List Lv→Nat→Option (List (Bool×List LA)×List LA×List Lv)
 | [],vs,_=>some ([],[],vs)
 | (g,ls)::rs,vs,j=>match Jg d v ls vs j with
  | some (as,own,vs)=>match Dw d v rs vs (j+ls.length) with
   | some (bs,own',vs)=>some ((g,as)::bs,own++own',vs)
   | none=>none
  | none=>none
def BT (v m:Nat) (x:Lv):LA:=match x with
 | ⟨.sl t e,xs⟩=>match m with
  | 0 => .sc (.sl t e) xs
  | m+1 => .arr v v t e xs (m+1)
 | ⟨l,x⟩ => .sc l x
def AM (v:Nat):List (L×Nat)→List Lv→List LA
 | (_,m)::ls,x::xs=>BT v m x::AM v ls xs
 | _,_=>[]
def putRow (s:St) (v:Nat):List (L×Nat)→List LA→List Lv→Option (List Wr)
 | [],[],_=>some []
 | (l,_)::ls,a::as,x::vs=>match putRow s v ls as vs with
  | some ws=>match l with
   | .sl _ _=>match a with
    | .ref c=>match s.leaf c.r c.j with
     | .arr AA _ t0 e0 xs0 d0=>match Ht (N9 x) c.p t0 e0 with
      | some f=>some (.leaf c.r c.j (.arr AA v t0 e0 (f xs0) d0)::ws)
      | none=>none
     | _=>none
    | _=>none
   | _=>some ws
  | none=>none
 | _,_,_=>none
def AY (s:St) (v:Nat):List PM→List AV→List Lv→Option (List Wr)
 | [],[],[]=>some []
 | .val _ _::ps,_::as,vs=>AY s v ps as vs
 | .fn _::ps,_::as,vs=>AY s v ps as vs
 | .box ls::ps, .v false [.ptr r 0 AA]::as,vs=>match AY s v ps as (vs.drop ls.length) with
  | some ws=>some (A4 r 0 (AM v ls vs)++ws)
  | none=>none
 | .row _ ls::ps, .v _ bs::as,vs=>match putRow s v ls bs vs,AY s v ps as (vs.drop ls.length) with
  | some us,some ws=>some (us++ws)
  | _,_=>none
 | _,_,_=>none
def OR:L→Bool
 | .sl _ e=>Bq e
 | _=>true
def fresh (ls:List (L×Nat)):Bool:=ls.all fun p => !Bw p.1||p.2==2||(p.2==1&&OR p.1)
def OW (lt:Int→Int→Option Bool) (x y:Int):Bool:=match lt x y with
 | some b=>b
 | none=>false
def Mn (lt:Int→Int→Option Bool) (xs:List Int):Option (List Int) :=
 bif decide (xs.length≤1) then some xs else bif decide (xs.length≤20)&&xs.all fun x=>xs.all fun y=>(lt x y).isSome then some (Go.Sort.insertionSort (OW lt) xs.toArray 0 xs.length).toList else none
def Nd:LA→Bool
 | .arr _ _ _ _ _ _=>true
 | .sc _ _=>true
 | _=>false
def DF (s:St) (not:Nat):List (List L)→List (Nat×Nat)→(List Lv→Step β)→Step β
 | [],[],k=>k []
 | ls::bs,(r,AA)::ps,k=>if (s.root r).box&&(s.root r).AA==AA&&r != not&&(s.root r).ls.length==ls.length&&(s.root r).ls.all Nd then
   s.data ls (Az r 0 (s.root r).ls) fun x=>DF s not bs ps fun y=>k (x++y)
  else .none
 | _,_,_ => .none
def Bu (s:St) (c:Loc) (qs:List (Nat×Nat)):List KK→List (Nat×Nat)→(List Lv→Step β)→Step β
 | [],[],k=>k []
 | .box ls::cs,p::ps,k=>DF s c.r [ls] [p] fun x=>Bu s c qs cs ps fun y=>k (x++y)
 | .EB g bs::cs,(r,AA)::ps,k=>match (s.root r).ls with
  | [.EB g' ps' _]=>if (s.root r).box&&(s.root r).AA==AA&&r != c.r&&g==g'&&ps'.all fun q=>qs.contains q then DF s c.r bs ps' fun x=>Bu s c qs cs ps fun y=>k (x++y) else .none
  | _ => .none
 | .row::cs,(r,AA)::ps,k=>if (s.root r).box&&(s.root r).AA==AA&&r==c.r&&c.j==0&&(s.root r).ls.length==1 then Bu s c qs cs ps k else .none
 | _,_,_ => .none
def Dq (cx:Cx) (s:St) (d v:Nat) (f:FuncId) (vs:List AV) (k:List Wr→Step β):Step β:=match vs with
 | [.v false [.JB t c], .v false [.EB g ps qs]]=>match cx.env.O3 f g with
  | some σ=>match s.leaf c.r c.j with
   | .arr AA _ t0 (.one (.int .i64)) xs 2=>if AA==c.AA&&isNil c.p && !cx.KM c.r&&t==σ.t then Bu s c qs σ.I8 ps fun x=>match pack (Eu (σ.I8.flatMap KK.kinds)) x with
     | some y => .Mt (Mn (σ.lt y) (show List Int from xs)) fun zs=>k [.leaf c.r c.j (.arr AA v t0 (.one (.int .i64)) (show List Int from zs) 2), .slot d (.De [])]
     | none => .none
    else .none
   | _ => .none
  | none => .none
 | _ => .none
def C9 (s:St):List AV→Option (List (Nat×Nat))
 | []=>some []
 | .v false [.ptr r 0 AA]::vs=>if (s.root r).box&&(s.root r).AA==AA then match C9 s vs with
   | some ps=>some ((r,AA)::ps)
   | none=>none
  else none
 | _::_=>none
def behind (s:St):List (Nat×Nat)→List (Nat×Nat)
 | []=>[]
 | (r,_)::ps=>(match (s.root r).ls with
  | [.EB _ qs _]=>qs
  | _=>[])++behind s ps
def Kj (bs:List (Bool×List LA)):AV:=match bs with
 | [(g,as)] => .v g as
 | bs => .De bs
def call (cx:Cx) (s:St) (d v:Nat) (f:FuncId) (vs:List AV) (k:List Wr→Step β):Step β:=match cx.env.fn f with
 | none=>Dq cx s d v f vs k
 | some g=>if g.s.mk? then Am s g.s.ps vs fun x _=>if g.s.plain&&isNil (Af g.s.ps vs) then match pack g.s.ins x with
   | none => .none
   | some y => .Mt (g.f y) fun z=>k (GC d v (AM v g.s.Gq (unpack g.s.outs z)))
  else .none
  else Am s g.s.ps vs fun x ws=>if (Af g.s.ps vs).all fun r => !Fc ws (r,none) then match pack g.s.ins x with
   | none => .none
   | some y => .Mt (g.f y) fun z=>match Dw d v g.s.rs (unpack g.s.outs z) 0 with
    | none => .none
    | some (bs,own,left)=>match AY s v g.s.ps vs left,(if fresh g.s.Gq then some [] else Au cx s (Af g.s.ps vs)) with
     | some ws,some fs=>k (fs++ws++[.root d ⟨false,v,own⟩, .slot d (Kj bs)])
     | _,_ => .none
  else .none
def IH (cx:Cx) (s:St) (t:TypeId) (q:LA) (p:AV) (dst:Option Tmp):Step (List Wr):=match p with
 | .v false [.EB g ps qs]=>if cx.env.Oo t then match q with
  | .ptr r j AA=>match dst with
   | none=>if (s.root r).box&&(s.root r).AA==AA&&decide (j+1≤(s.root r).ls.length) then .go [.leaf r j (.EB g ps qs)] else .none
   | some _ => .none
  | _ => .none
 else .none
 | _ => .none
def Hq:AV→Bool
 | .v false [.DC]=>true
 | _=>false
def bytesOf (xs:List Int):List UInt8:=xs.map fun n=>UInt8.ofNat n.toNat
def AB (cx:Cx) (v:Nat) (o:Oper) (s:St):Step (List Wr) :=
 let out (a:AV):Step (List Wr):=match o.dst with
  | some d => .go [.slot d a]
  | none => .go []
 match o.op with
 | .move x=>if Hq (s.Ap x) then match cx.ty o.type,o.dst with
   | some ty,some d=>if ty.agg then .none else match ty.ls with
    | .one (.sl t e) => .go (ownRow d v t e [])
    | _ => .none
   | _,_ => .none
  else out (s.Ap x)
 | .assign x=>match o.dst with
  | none => .none
  | some d=>match s.Ai x with
   | .sc l x => .go [.slot d (one (.sc l x))]
   | .ptr r j AA => .go [.slot d (one (.ptr r j AA))]
   | .fn f => .go [.slot d (one (.fn f))]
   | .JH => .go [.slot d (one .JH)]
   | .Bm c => .go [.slot d (one (.Bm c))]
   | .D1 e x off => .go [.slot d (one (.D1 e x off))]
   | a=>if cx.KM d then .none else match cx.ty o.type with
    | some ty=>match ty.ls with
     | .one l=>s.take cx v a l fun b us=>match b with
      | .arr _ _ t e xs dd => .go (gone us++[.root d ⟨false,v,[.arr v v t e xs dd]⟩, .slot d (one (.ref ⟨d,0,v,v,[]⟩))])
      | _ => .none
     | _ => .none
    | none => .none
 | .pick c a b=>match s.Ai c with
  | .sc .bool t => .iff t (out (s.Ap a)) (out (s.Ap b))
  | _ => .none
 | .alloc t=>match cx.ty t,o.dst with
  | some ty,some d => .go (GC d v (ty.ls.kinds.map (I2 v)))
  | none,some d=>if cx.env.Oo t then .go (GC d v [.bad]) else .none
  | _,_ => .none
 | .box t x=>match cx.ty t,o.dst,s.Ap x with
  | some ty,some d, .v g as=>if g&&MH s as then .go [.slot d (.bx as)] else s.Ft cx v ty.ls.kinds as fun bs us=>if us.all fun u => !(u.1==d) then .go (gone us++GC d v bs) else .none
  | _,_,_ => .none
 | .build t parts=>match cx.ty t with
  | some ty=>match (if ty.agg then Hi cx s ty.fs parts.toList (ty.ls.kinds.map zeroOf) else none) with
   | some ls=>out (.v true ls)
   | none => .none
  | none => .none
 | .buildSlice t len parts=>match cx.ty t,o.dst with
  | some ty,some d=>if ty.agg then .none else match ty.ls with
   | .one (.sl t e)=>if len==parts.size&&decide (len * e.n≤16777216) then (match D3 s e parts.toList with
    | some (x,c)=>Cv cx s d v t e x c fun ws => .go ws
    | none=>Cf cx s v e parts.toList 0 fun ys us=>if us.all fun u => !(u.1==d) then .go (gone us++ownRow d v t e ys) else .none) else .none
   | _ => .none
  | _,_ => .none
 | .load t x=>match cx.ty t with
  | some ty=>s.FI (s.Ap x) ty.ls.n fun as=>if as.length==ty.ls.n then out (.v ty.agg as) else .none
  | none => .none
 | .store t x y=>match cx.ty t,s.Ap y with
  | some ty, .v _ as=>match MQ (s.Ai x) as with
   | []=>GI cx v s o.dst (s.Ai x) ty.ls.kinds as []
   | r::rs=>match Au cx s (r::rs) with
    | some fs=>GI cx v (s.app fs) o.dst (s.Ai x) ty.ls.kinds as fs
    | none => .none
  | none,p=>IH cx s t (s.Ai x) p o.dst
  | _,_ => .none
 | .makeInterface t x=>match cx.ty t,s.Ai x with
  | some ty, .ref c=>if ty.agg then .none else match ty.ls with
   | .one (.sl _ _)=>out (one (.JB t c))
   | _ => .none
  | _,_ => .none
 | .makeFunc (.func g) first captured=>if first.size==0 then match C9 s (captured.toList.map s.Ap) with
   | some ps=>out (one (.EB g ps (behind s ps)))
   | none => .none
  else .none
 | .nilCheck x=>match s.Ap x with
  | .bx as=>out (.bx as)
  | a=>if s.alive a.one? then out (one a.one?) else .none
 | .binOp op tx x y _=>match s.Ap x,s.Ap y with
  | .v true as, .v true bs=>Lx cx op tx as bs fun a=>out a
  | p,q=>binop (IV cx tx .bool) op y p.one? q.one? fun a=>out a
 | .unOp op _ x=>match op,s.Ai x with
  | .not, .sc .bool b=>out (IP (!b))
  | .neg, .sc (.int k) n=>out (IQ k (k.wrap (N1 n)))
  | _,_ => .none
 | .convert a b x=>match cx.ty a,cx.ty b,s.Ai x with
  | some ta,some ty, .sc (.int _) n=>if ty.agg then .none else match ty.ls with
   | .one (.int k)=>out (IQ k (k.wrap n))
   | _ => .none
  | some ta,some ty,y=>if ta.agg||ty.agg then .none else match ta.ls,ty.ls with
   | .one (.sl t0 (.one (.int .u8))), .one .str=>if IV cx t0 (.int .u8) then s.Aw (.sl t0 (.one (.int .u8))) y fun xs=>out (Og (bytesOf xs)) else .none
   | _,_ => .none
  | _,_,_ => .none
 | .makeSlice t l c=>match cx.ty t,o.dst with
  | some ty,some d=>if ty.agg then .none else match ty.ls with
   | .one (.sl t e)=>asInt (s.Ai l) fun n=>asInt (s.Ai c) fun m =>
     .iff (decide (0≤n)&&decide (n≤(DZ:Int))&&decide (m=n)) (.go (ownRow d v t e (List.replicate n.toNat (FQ e)))) .none
   | _ => .none
  | _,_ => .none
 | .slice ti x lo hi none=>match s.Ai x with
  | .sc .str b=>if IV cx ti .str then DW s lo 0 fun l=>DW s hi (List.length (α:=UInt8) b:Int) fun h =>
    .iff (decide (0≤l)&&decide (l≤h)&&decide (h≤(List.length (α:=UInt8) b:Int))) (out (Og (sub (α:=UInt8) b l.toNat h.toNat))) .none
   else .none
  | .sc (.sl t e) b=>if isRow cx ti e then DW s lo 0 fun l=>DW s hi (List.length (α:=e.D) b:Int) fun h =>
    .iff (decide (0≤l)&&decide (l≤h)&&decide (h≤(List.length (α:=e.D) b:Int))) (out (one (.sc (.sl t e) (sub (α:=e.D) b l.toNat h.toNat)))) .none
   else .none
  | .ref c=>s.content c fun t e xs _=>if isRow cx ti e then DW s lo 0 fun l=>DW s hi (xs.length:Int) fun h =>
    .iff (decide (0≤l)&&decide (l≤h)&&decide (h≤(xs.length:Int))) (out (one (.D7 c l.toNat h.toNat))) .none
   else .none
  | _ => .none
 | .fieldAddr t x f=>match cx.ty t with
  | some ty=>match (if ty.agg then H0 ty.fs f else none) with
   | some (fo,ft)=>match cx.ty ft with
    | some tf=>if tf.ls.n==0 then .none else match s.Ap x with
     | .bx as=>out (.bx (as.drop fo))
     | a=>if !s.alive a.one? then .none else match a.one? with
     | .ptr r j AA=>out (one (.ptr r (j+fo) AA))
     | .D1 e y j=>out (one (.D1 e y (j+fo)))
     | .Bm c=>match Aj c.p with
      | some (q,i,off)=>out (one (.Bm { c with p:=q++[(i,off+fo)] }))
      | none => .none
     | _ => .none
    | none => .none
   | none => .none
  | none => .none
 | .field t x f=>match cx.ty t,s.Ap x with
  | some ty, .v true as=>match (if ty.agg then H0 ty.fs f else none) with
   | some (fo,ft)=>match cx.ty ft with
    | some tf=>if decide (fo+tf.ls.n≤as.length) then out (.v tf.agg ((as.drop fo).take tf.ls.n)) else .none
    | none => .none
   | none => .none
  | _,_ => .none
 | .indexAddr ti x i=>asInt (s.Ai i) fun n=>match s.Ai x with
  | .sc (.sl t e) xs=>if isRow cx ti e then .Mt (ND (α:=e.D) xs n) fun y=>out (one (.D1 e y 0)) else .none
  | .ref c=>s.content c fun t e xs _=>if isRow cx ti e then .iff (Of xs n) (out (one (.Bm { c with p:=c.p++[(n.toNat,0)] }))) .none else .none
  | .D7 c lo hi=>s.content c fun t e xs _=>if isRow cx ti e then .iff (Of (sub xs lo hi) n) (out (one (.Bm { c with p:=c.p++[(lo+n.toNat,0)] }))) .none else .none
  | _ => .none
 | .index ti x i=>asInt (s.Ai i) fun n=>match s.Ai x with
  | .sc .str b=>if IV cx ti .str then .Mt (ND (α:=UInt8) b n) fun y=>out (IQ .u8 (y.toNat:Int)) else .none
  | _ => .none
 | .extract x i=>match s.Ap x with
  | .De vs=>match H0 vs i with
   | some (g,as)=>out (.v g as)
   | none => .none
  | _ => .none
 | .call c=>match c.callee with
  | .builtin .len=>match c.args.toList,c.argTypes.toList with
   | [x],[t]=>match cx.ty t with
    | some ty=>if ty.agg then .none else match ty.ls with
     | .one .str=>Ny (s.Ai x) fun n=>out (IQ .i64 n)
     | .one (.sl _ _)=>lenOf s (s.Ai x) fun n=>out (IQ .i64 n)
     | _ => .none
    | none => .none
   | _,_ => .none
  | .builtin .append=>match c.args.toList,c.argTypes.toList,cx.ty o.type,o.dst with
   | [x,y],[t1,t2],some ty,some d=>match ty.ls with
    | .one (.sl t e)=>if t1==t2&&isRow cx t1 e then Dh cx s d v t e (s.Ai x) (s.Ai y) fun ws => .go ws else .none
    | _ => .none
   | _,_,_,_ => .none
  | .builtin .min=>match c.args.toList with
   | [x,y]=>match s.Ai x,s.Ai y with
    | .sc (.int k) a, .sc (.int j) b=>out (IQ k (NK a b))
    | _,_ => .none
   | _ => .none
  | .builtin .max=>match c.args.toList with
   | [x,y]=>match s.Ai x,s.Ai y with
    | .sc (.int k) a, .sc (.int j) b=>out (IQ k (NJ a b))
    | _,_ => .none
   | _ => .none
  | .value f=>match s.Ai f,o.dst with
   | .fn f,some d=>call cx s d v f (c.args.toList.map s.Ap) fun ws => .go ws
   | _,_ => .none
  | _ => .none
 | _ => .none
end Go.Ev
namespace Go.Ev
set_option linter.unusedVariables false
variable {β:Type}
def number {α:Type}:Nat→List α→List (Nat×α)
 | _,[]=>[]
 | n,x::xs=>(n,x)::number (n+1) xs
inductive VP where
 | slot (s:Nat) (l:L)
 | own (s:Nat) (t:TypeId) (e:Ls) (d:Nat) (k:Bool)
 | box (r:Nat) (ls:List (Option (L×Nat)))
def VP.kinds:VP→List L
 | .slot _ l=>[l]
 | .own _ t e _ _=>[.sl t e]
 | .box _ ls=>ls.filterMap fun x=>x.map (·.1)
def VP.roots:VP→List Nat
 | .slot _ _=>[]
 | .own s _ _ _ _=>[s]
 | .box r _=>[r]
def VP.AP:VP→List Nat
 | .slot s _=>[s]
 | .own s _ _ _ _=>[s]
 | .box _ _=>[]
def C8 (ps:List VP):Ls:=Eu (ps.flatMap VP.kinds)
def Dm (s:St):List (Option (L×Nat))→List LA→(List Lv→Step β)→Step β
 | [],[],k=>k []
 | none::ls,_::as,k=>Dm s ls as k
 | some (l,d)::ls,a::as,k=>match a with
  | .arr _ _ t e xs d'=>if d==0||d==d' then match L.cast (a := .sl t e) l xs with
    | some y=>Dm s ls as fun vs=>k (⟨l,y⟩::vs)
    | none => .none
   else .none
  | a=>match d with
   | 0=>s.Aw l a fun y=>Dm s ls as fun vs=>k (⟨l,y⟩::vs)
   | _+1=>match l with
    | .sl _ _ => .none
    | l=>s.Aw l a fun y=>Dm s ls as fun vs=>k (⟨l,y⟩::vs)
 | _,_,_ => .none
def St.still (s:St) (l:L) (a:LA):Bool:=match l with
 | .sl _ _=>match a with
  | .sc _ _=>true
  | .DC=>true
  | .ref c=>match s.leaf c.r c.j with
   | .arr _ _ _ _ _ 0=>true
   | _=>false
  | .D7 c _ _=>match s.leaf c.r c.j with
   | .arr _ _ _ _ _ 0=>true
   | _=>false
  | _=>false
 | _=>true
def KA (s:St) (v:VP) (k:List Lv→Step β):Step β:=match v with
 | .slot t l=>if s.still l (s.slot t).one? then s.Aw l (s.slot t).one? fun x=>k [⟨l,x⟩] else .none
 | .own t ty e d k0=>match s.slot t,s.root t with
  | .v false [.ref c],⟨false,_,[.arr AA _ t' e' xs d']⟩=>if c.r==t&&c.j==0&&isNil c.p&&AA==c.AA&&d==d'&&(!k0||AA==1) then match L.cast (a := .sl t' e') (.sl ty e) xs with
    | some y=>k [⟨.sl ty e,y⟩]
    | none => .none
   else .none
  | _,_ => .none
 | .box r ls=>if (s.root r).box then Dm s ls (s.root r).ls k else .none
def Kt (s:St):List VP→(List Lv→Step β)→Step β
 | [],k=>k []
 | v::vs,k=>KA s v fun x=>Kt s vs fun y=>k (x++y)
def Aq (ps:List VP) (s:St):Option (C8 ps).D:=(Kt s ps .go).run (pack (C8 ps))
def AQ (v:Nat):List (Option (L×Nat))→List Lv→List LA
 | [],_=>[]
 | none::ls,vs => .bad::AQ v ls vs
 | some (l,d)::ls,x::vs=>BT v d x::AQ v ls vs
 | some _::ls,[] => .bad::AQ v ls []
def FO (v:Nat) (k:Bool):Nat:=match k with
 | true=>1
 | false=>v
def DN (v d:Nat) (k:Bool) (x:Lv):LA:=match BT v d x with
 | .arr _ g t e xs d => .arr (FO v k) g t e xs d
 | a=>a
def B2 (v:Nat) (s:St):List VP→List Lv→List Wr
 | [],_=>[]
 | .slot t _::ps,x::vs => .slot t (one (.sc x.l x.x))::B2 v s ps vs
 | .own t ty e d k::ps,x::vs => .root t ⟨false,v,[DN v d k x]⟩ :: .slot t (one (.ref ⟨t,0,FO v k,v,[]⟩))::B2 v s ps vs
 | .box r ls::ps,vs => .root r ⟨true,(s.root r).AA,AQ v ls vs⟩::B2 v s ps (vs.drop (ls.filterMap id).length)
 | _,[]=>[]
def LA.clean (ms ch:Nat→Bool) (a:LA):LA:=match a with
 | .ref c=>if ch c.r then .bad else .ref c
 | .D7 c lo hi=>if ch c.r then .bad else .D7 c lo hi
 | .Bm c=>if ch c.r then .bad else .Bm c
 | .ptr r j AA=>if ms r then .bad else .ptr r j AA
 | .JB t c=>if ch c.r then .bad else .JB t c
 | .EB g ps qs=>if ps.any fun p=>ms p.1 then .bad else .EB g ps qs
 | a=>a
def AV.clean (ms ch:Nat→Bool):AV→AV
 | .v g as => .v g (as.map (LA.clean ms ch))
 | .De _=>one .bad
 | .bx _=>one .bad
def KX {α γ:Type} (f:Nat→α→γ):Nat→List α→List γ
 | _,[]=>[]
 | n,x::xs=>f n x::KX f (n+1) xs
def base (ms:List Nat) (ps:List VP) (s:St):St :=
 {sl:=KX (fun t x=>if has ms t then one .bad else x.clean (fun r=>has ms r||has (ps.flatMap VP.AP) r) fun r=>has ms r||has (ps.flatMap VP.roots) r) 0 s.sl
  ro:=KX (fun r x=>if has ms r then dead else x) 0 s.ro
  Bv:=s.Bv+1 }
def B1 (ms:List Nat) (ps:List VP) (s:St) (x:(C8 ps).D):St:=(base ms ps s).app (B2 s.Bv s ps (unpack (C8 ps) x))
def Cx.in (cx:Cx) (ms:List Nat) (ps:List VP):Cx :=
 { cx with lock:=fun r=>cx.lock r || !(has ms r||has (ps.flatMap VP.roots) r),E6:=fun t=>cx.E6 t || !(has ms t||has (ps.flatMap VP.AP) t) }
def distinct:List Nat→Bool
 | []=>true
 | x::xs => !has xs x&&distinct xs
def Ck (cx:Cx) (ms:List Nat) (ps:List VP):Bool:=distinct (ps.flatMap VP.roots)&&distinct (ps.flatMap VP.AP)&&ps.all fun p=>match p with
 | .slot s _ => !cx.E6 s
 | .own s _ _ _ _ => !cx.lock s && !cx.E6 s && !cx.KM s
 | .box r _ => !has ms r && !cx.lock r && !has (ps.flatMap VP.AP) r
structure An where
 Oq:Nat→Option (List VP)
 AX:Nat→Option (List VP×Bool)
 O7:Nat→Option (List VP×Bool)
 pre:Nat→List Nat
def Gn:List (Nat×Oper)→List Nat
 | []=>[]
 | (_,o)::r=>match o.dst with
  | some d=>d::Gn r
  | none=>Gn r
def CC:Code→List Nat
 | .region _ ops _=>Gn (number 0 ops.toList)
 | .seq a b=>CC a++CC b
 | .cond _ a b=>CC a++CC b
 | .block _ c=>CC c
 | .loop c=>CC c
 | _=>[]
def F6:Code→Nat
 | .region id _ _=>id
 | .seq a _=>F6 a
 | .block _ c=>F6 c
 | .loop c=>F6 c
 | _=>0
def Nx:Code→Nat
 | .seq a _=>3 * F6 a+3
 | .block id _=>3 * id+4
 | .cond _ x y=>3 * (match F6 x with
  | 0=>F6 y
  | n+1=>n+1)+5
 | _=>0
def mask (t:Nat):Nat:=2 ^ t
def JP (r:Nat):Nat:=2 ^ (4 * r+1)
def Jv (r:Nat):Nat:=2 ^ (4 * r+3)
def AV.mask (a:AV):Nat:=a.roots.foldr (fun r m=>Nat.lor (JP r) (Nat.lor (Jv r) m)) 0
def BW (ops:Array Oper) (o:Oper):Nat:=match o.guard with
 | some (g,_)=>match (ops[g]?).bind (·.dst) with
  | some t=>2 ^ (2 * t)
  | none=>0
 | none=>0
def A8 (ops:Array Oper) (o:Oper) (s:St):Nat:=match o.op with
 | .move (.tmp t)=>Nat.lor (2 ^ (2 * t)) (BW ops o)
 | .extract (.tmp t) _=>Nat.lor (2 ^ (2 * t)) (BW ops o)
 | .field _ (.tmp t) _=>Nat.lor (2 ^ (2 * t)) (BW ops o)
 | .load _ (.tmp t)=>Nat.lor (2 ^ (2 * t)) (Nat.lor (match s.slot t with
  | .v _ [.ptr r _ _]=>JP r
  | a=>a.mask) (BW ops o))
 | .fieldAddr _ (.tmp t) _=>Nat.lor (2 ^ (2 * t)) (Nat.lor (match s.slot t with
  | .v _ [.ptr r _ _]=>JP r
  | a=>a.mask) (BW ops o))
 | _=>o.op.operands.toList.foldr (fun x m=>match x with
  | .tmp t=>Nat.lor (2 ^ (2 * t)) (Nat.lor (s.slot t).mask m)
  | _=>m) (BW ops o)
def Wr.mask:Wr→Nat
 | .slot t _=>2 ^ (2 * t)
 | .root r _=>Nat.lor (JP r) (Jv r)
 | .leaf r _ _=>Nat.lor (JP r) (Jv r)
 | .half r _ _=>Jv r
def AE (ws:List Wr):Nat:=ws.foldr (fun w m=>Nat.lor w.mask m) 0
def bit (m i:Nat):Bool:=m.testBit i
def Es:List Oper→List Nat→List Nat
 | [],acc=>acc
 | o::r,acc=>Es r (acc++[o.after.toList.foldr (fun e m=>if Region.binds .any e then Nat.lor (2 ^ e.on) (Nat.lor (nth 0 acc e.on) m) else m) 0])
def indep (b rm wm:Nat):Nat→List (Nat×Nat)→Bool
 | _,[]=>true
 | j,(r,w)::lg=>(bit b j||(Nat.land w (Nat.lor rm wm)==0&&Nat.land r wm==0))&&indep b rm wm (j+1) lg
def LA.AH:LA→List Nat
 | .ref c=>[c.AA,c.gen]
 | .D7 c _ _=>[c.AA,c.gen]
 | .Bm c=>[c.AA,c.gen]
 | .ptr _ _ AA=>[AA]
 | .JB _ c=>[c.AA,c.gen]
 | .EB _ ps _=>ps.map (·.2)
 | .arr AA gen _ _ _ _=>[AA,gen]
 | _=>[]
def AV.AH:AV→List Nat
 | .v _ as=>as.flatMap LA.AH
 | .De vs=>vs.flatMap fun v=>v.2.flatMap LA.AH
 | .bx as=>as.flatMap LA.AH
def Bo.AH (r:Bo):List Nat:=r.AA::r.ls.flatMap LA.AH
def Wr.AH:Wr→List Nat
 | .slot _ a=>a.AH
 | .root _ x=>x.AH
 | .leaf _ _ a=>a.AH
 | .half _ _ v=>[v]
def LA.Ca:LA→Bool
 | .ref _=>false
 | .D7 _ _ _=>false
 | .Bm _=>false
 | .JB _ _=>false
 | _=>true
def Wr.ok (cx:Cx) (dst:Option Nat):Wr→Bool
 | .slot t _=>match dst with
  | some d=>t==d
  | none=>false
 | .root r x => !cx.lock r&&x.ls.all LA.Ca&&match dst with
  | some d=>r==d
  | none=>false
 | .leaf r _ a => !cx.lock r&&a.Ca
 | .half r _ _ => !cx.lock r
def JJ (cx:Cx) (dst:Option Nat) (v0 v b:Nat) (ws:List Wr):Bool :=
 ws.all fun w=>w.ok cx dst&&w.AH.all fun n=>decide (n<v0)||n==v||(decide (v0≤n)&&bit b (n - v0))
def Cp (dst:Option Nat):List Wr:=match dst with
 | some d=>[.slot d (one .undef)]
 | none=>[]
structure Rg where
 ops:Array Oper
 v0:Nat
 draw:Bool
def ER {R:Type} (cx:Cx) (g:Rg):List (Nat×Oper)→List Nat→List (Nat×Nat)→St→(St→Option R)→Option R
 | [],_,_,s,k=>k s
 | (i,o)::r,bs,lg,s,k =>
  let b:=nth 0 bs i
  let rm:=A8 g.ops o s
  let exec (s:St):Option R:=(AB cx (g.v0+i) o s).run fun ws =>
   if JJ cx o.dst g.v0 (g.v0+i) b ws&&(!g.draw||indep b rm (AE ws) 0 lg) then ER cx g r bs (lg++[(rm,AE ws)]) (s.app ws) k else none
  let skip (s:St):Option R:=if !g.draw||indep b rm (AE (Cp o.dst)) 0 lg then ER cx g r bs (lg++[(rm,AE (Cp o.dst))]) (s.app (Cp o.dst)) k else none
  match o.guard with
  | none=>exec s
  | some (j,want)=>match (g.ops[j]?).bind (·.dst) with
   | none=>none
   | some t=>match s.slot t with
    | .v false [.undef]=>skip s
    | .v false [.sc .bool c]=>match want with
     | true=>bif c then exec (s.AG (.slot t (IP true))) else skip (s.AG (.slot t (IP false)))
     | false=>bif c then skip (s.AG (.slot t (IP true))) else exec (s.AG (.slot t (IP false)))
    | _=>none
def JE (os:List Oper):List VP:=match os.getLast? with
 | some o=>match o.dst with
  | some d=>[.slot d .bool]
  | none=>[]
 | none=>[]
def El {R:Type} (cx:Cx) (an:An) (id:Nat) (ops:Array Oper) (draw:Bool) (s:St) (k:St→Option R):Option R :=
 let os:=number 0 ops.toList
 let g:Rg:=⟨ops,s.Bv,draw⟩
 let bs:=Es ops.toList []
 if ops.toList.all fun o=>match o.guard with
  | none=>true
  | some _=>false
 then ER cx g os bs [] s fun s'=>k { s' with Bv:=s.Bv+ops.size }
 else
  let ps:=match an.Oq id with
   | some p=>p
   | none=>JE ops.toList
  let ms:=Gn os
  if Ck cx ms ps then (ER (cx.in ms ps) g os bs [] s (Aq ps)).bind fun x=>k (B1 ms ps s x) else none
def Hg {R:Type} (cx:Cx) (an:An) (id:Nat) (ops:Array Oper) (draw:Bool) (s:St) (k:St→Option R):Option R:=match an.pre id with
 | []=>El cx an id ops draw s k
 | r::rs=>if (r::rs).all fun r => !cx.lock r then match Au cx s (r::rs) with
   | some fs=>El cx an id ops draw (s.app fs) k
   | none=>none
  else none
def iter {α γ:Type}:Nat→(α→Option (α⊕γ))→α→Option γ
 | 0,_,_=>none
 | n+1,f,x=>(f x).bind fun y=>match y with
  | .inl x=>iter n f x
  | .inr z=>some z
def ev (an:An) (n:Nat) {RD:Type} (rp:St→Option RD):Code→{R:Type}→Cx→St→(St→Option R)→(Nat→St→Option R)→(RD→Option R)→Option R
 | .skip,_,cx,s,kn,kx,kr=>kn s
 | .region id ops draw,_,cx,s,kn,kx,kr=>Hg cx an id ops draw s kn
 | .seq a b,_,cx,s,kn,kx,kr=>match an.O7 (Nx a) with
  | none=>ev an n rp a cx s (fun s=>ev an n rp b cx s kn kx kr) kx kr
  | some (ps,rets) =>
   let ms:=CC a
   if Ck cx ms ps then match rets with
    | false=>(ev an n rp a (R:=(C8 ps).D) (cx.in ms ps) s (Aq ps) (fun _ _=>none) (fun _=>none)).bind fun x=>ev an n rp b cx (B1 ms ps s x) kn kx kr
    | true=>(ev an n rp a (R:=(C8 ps).D⊕RD) (cx.in ms ps) s (fun s=>(Aq ps s).bind fun x=>some (.inl x)) (fun _ _=>none) (fun r=>some (.inr r))).bind fun q=>match q with
     | .inl x=>ev an n rp b cx (B1 ms ps s x) kn kx kr
     | .inr r=>kr r
   else none
 | .cond c x y,_,cx,s,kn,kx,kr=>match s.Ai c with
  | .sc .bool b=>bif b then ev an n rp x cx s kn kx kr else ev an n rp y cx s kn kx kr
  | _=>none
 | .block id c,_,cx,s,kn,kx,kr=>match an.AX id with
  | none=>ev an n rp c cx s kn (fun i s=>if i==id then kn s else kx i s) kr
  | some (ps,rets)=>match c with
   | .loop c =>
    let ms:=CC c
    if Ck cx ms ps then match rets with
     | false=>(Aq ps s).bind fun x0=>(iter (α:=(C8 ps).D) (γ:=(C8 ps).D) n (fun x=>ev an n rp c (cx.in ms ps) (B1 ms ps s x)
        (fun s=>(Aq ps s).bind fun x=>some (.inl x)) (fun i s=>if i==id then (Aq ps s).bind fun x=>some (.inr x) else none) (fun _=>none)) x0).bind fun x =>
       kn (B1 ms ps s x)
     | true=>(Aq ps s).bind fun x0=>(iter (α:=(C8 ps).D) (γ:=(C8 ps).D⊕RD) n (fun x=>ev an n rp c (cx.in ms ps) (B1 ms ps s x)
        (fun s=>(Aq ps s).bind fun x=>some (.inl x)) (fun i s=>if i==id then (Aq ps s).bind fun x=>some (.inr (.inl x)) else none) (fun r=>some (.inr (.inr r)))) x0).bind fun q=>match q with
       | .inl x=>kn (B1 ms ps s x)
       | .inr r=>kr r
    else none
   | _=>none
 | .exit id,_,cx,s,kn,kx,kr=>kx id s
 | .ret,_,cx,s,kn,kx,kr=>(rp s).bind kr
 | _,_,_,_,_,_,_=>none
def D0:Nat→List Oper→Bool
 | _,[]=>true
 | i,o::r=>o.after.toList.all (fun e => !Region.binds .any e||decide (e.on<i))&&D0 (i+1) r
def codeOk (n:Nat):Code→Bool
 | .region _ ops _=>D0 0 ops.toList&&ops.toList.all fun o=>match o.dst with
  | some d=>decide (d<n)
  | none=>true
 | .seq a b=>codeOk n a&&codeOk n b
 | .cond _ a b=>codeOk n a&&codeOk n b
 | .block _ c=>codeOk n c
 | .loop c=>codeOk n c
 | _=>true
def BC (i:Nat):Nat→List (L×Nat)→List Lv→List LA
 | j,(l,_)::ls,x::vs=>(match l with
  | .sl _ _=>LA.ref ⟨i,j,1,1,[]⟩
  | _ => .sc x.l x.x)::BC i (j+1) ls vs
 | _,_,_=>[]
def C6:Nat→List PM→List Lv→Option (List Wr)
 | _,[],[]=>some []
 | _,[],_::_=>none
 | i, .val g ls::ps,vs=>match C6 (i+1) ps (vs.drop ls.length) with
  | some ws=>some (.slot i (.v g ((vs.take ls.length).map fun x => .sc x.l x.x))::ws)
  | none=>none
 | i, .box ls::ps,vs=>match C6 (i+1) ps (vs.drop ls.length) with
  | some ws=>some (.root i ⟨true,1,AM 1 ls vs⟩ :: .slot i (one (.ptr i 0 1))::ws)
  | none=>none
 | i, .row g ls::ps,vs=>match C6 (i+1) ps (vs.drop ls.length) with
  | some ws=>some (.root i ⟨false,1,AM 1 ls vs⟩ :: .slot i (.v g (BC i 0 ls vs))::ws)
  | none=>none
 | i, .fn f::ps,vs=>match C6 (i+1) ps vs with
  | some ws=>some (.slot i (one (.fn f))::ws)
  | none=>none
def blank (n:Nat):St:={sl:=List.replicate n (one .bad),ro:=List.replicate n dead,Bv:=2 }
def FX (s:St) (us:List (Nat×Nat)) (l:L) (m:Nat) (a:LA) (k:Lv→List (Nat×Nat)→Step β):Step β:=match l with
 | .sl t e=>match m with
  | 0=>if s.still (.sl t e) a then s.Aw (.sl t e) a fun x=>k ⟨.sl t e,x⟩ us else .none
  | m+1=>match a with
   | .DC=>k ⟨.sl t e,([]:List e.D)⟩ us
   | .ref c=>match s.leaf c.r c.j with
    | .arr AA _ t' e' xs d=>if AA==c.AA&&isNil c.p&&d==m+1 && !us.contains (c.r,c.j) then match L.cast (a := .sl t' e') (.sl t e) xs with
      | some y=>k ⟨.sl t e,y⟩ ((c.r,c.j)::us)
      | none => .none
     else .none
    | _ => .none
   | .D7 c lo hi=>match s.leaf c.r c.j with
    | .arr AA _ t' e' xs d=>if AA==c.AA&&isNil c.p&&d==m+1 && !us.contains (c.r,c.j) then match L.cast (a := .sl t' e') (.sl t e) (sub xs lo hi) with
      | some y=>k ⟨.sl t e,y⟩ ((c.r,c.j)::us)
      | none => .none
     else .none
    | _ => .none
   | _ => .none
 | l=>s.Aw l a fun x=>k ⟨l,x⟩ us
def CY (s:St):List (L×Nat)→List LA→List (Nat×Nat)→(List Lv→List (Nat×Nat)→Step β)→Step β
 | [],[],us,k=>k [] us
 | (l,m)::ls,a::as,us,k=>FX s us l m a fun x us=>CY s ls as us fun xs us=>k (x::xs) us
 | _,_,_,_ => .none
def Dx (ty:TypeId→Option Ty) (s:St):List (Bool×List (L×Nat))→List ResultVar→List (Nat×Nat)→(List Lv→List (Nat×Nat)→Step β)→Step β
 | [],[],us,k=>k [] us
 | (g,ls)::rs, .tmp t::vs,us,k=>match s.slot t with
  | .v g' as=>if g==g' then CY s ls as us fun xs us=>Dx ty s rs vs us fun ys us=>k (xs++ys) us else .none
  | _ => .none
 | (g,ls)::rs, .cell t T::vs,us,k=>match ty T,s.slot t with
  | some y, .v false [.ptr r 0 AA]=>if y.agg==g&&y.ls.n==ls.length then s.C7 (.ptr r 0 AA) ls.length fun as=>if as.length==ls.length then CY s ls as us fun xs us=>Dx ty s rs vs us fun ys us=>k (xs++ys) us else .none else .none
  | _,_ => .none
 | _,_,_,_ => .none
def Ei (s:St) (i:Nat):Nat→List (L×Nat)→List Lv→List (Nat×Nat)→(List Lv→List (Nat×Nat)→Step β)→Step β
 | _,[],_,us,k=>k [] us
 | _,_::_,[],_,_ => .none
 | j,(l,d)::ls,x::vs,us,k=>match l with
  | .sl t e=>FX s us (.sl t e) d (match s.leaf i j with
    | .arr 1 gen _ _ _ _ => .ref ⟨i,j,1,gen,[]⟩
    | _ => .bad) fun y us=>Ei s i (j+1) ls vs us fun ys us=>k (y::ys) us
  | _=>Ei s i (j+1) ls vs us fun ys us=>k (x::ys) us
def C2 (s:St):Nat→List PM→List Lv→List (Nat×Nat)→(List Lv→Step β)→Step β
 | _,[],_,_,k=>k []
 | i, .box ls::ps,vs,us,k=>if (s.root i).box&&(s.root i).AA==1&&(s.root i).ls.length==ls.length then s.C7 (.ptr i 0 1) ls.length fun as=>CY s ls as us fun xs us=>C2 s (i+1) ps (vs.drop ls.length) us fun ys=>k (xs++ys) else .none
 | i, .row _ ls::ps,vs,us,k=>Ei s i 0 ls vs us fun xs us=>C2 s (i+1) ps (vs.drop ls.length) us fun ys=>k (xs++ys)
 | i, .val _ ls::ps,vs,us,k=>C2 s (i+1) ps (vs.drop ls.length) us k
 | i, .fn _::ps,vs,us,k=>C2 s (i+1) ps vs us k
def DO:List L→List LA→Option (List Lv)
 | [],[]=>some []
 | l::ls, .sc m x::as=>match L.cast l (a:=m) x,DO ls as with
  | some y,some vs=>some (⟨l,y⟩::vs)
  | _,_=>none
 | _,_=>none
def Nf (sm:Sm) (rv:List ResultVar) (s:St):Option sm.outs.D:=match rv with
 | [.tmp t]=>match s.slot t with
  | .v false [.ptr r 0 AA]=>if sm.plain&&(s.root r).box&&(s.root r).AA==AA then match DO (sm.Gq.map (·.1)) (s.root r).ls with
    | some vs=>pack sm.outs vs
    | none=>none
   else none
  | _=>none
 | _=>none
def KZ (s:St):List (L×Nat)→List LA→List Nat
 | (l,m)::ls,a::as=>(if Bw l&&m==0 && !s.still l a then match a with
   | .ref c=>[c.r]
   | .D7 c _ _=>[c.r]
   | _=>[]
  else [])++KZ s ls as
 | _,_=>[]
def Me (s:St):List (Bool×List (L×Nat))→List ResultVar→List Nat
 | (_,ls)::rs, .tmp t::vs=>(match s.slot t with
  | .v _ as=>KZ s ls as
  | _=>[])++Me s rs vs
 | (_,ls)::rs, .cell t _::vs=>(match s.slot t with
  | .v false [.ptr r 0 _]=>KZ s ls (Az r 0 (s.root r).ls)
  | _=>[])++Me s rs vs
 | _,_=>[]
def IB (ty:TypeId→Option Ty) (sm:Sm) (rv:List ResultVar) (vs:List Lv) (s:St):Option sm.outs.D :=
 (Dx ty s sm.rs rv [] fun xs us=>C2 s 0 sm.ps vs us fun ys => .go (xs++ys)).run (pack sm.outs)
def O6:Cx:={ty:=fun _=>none,env:=⟨fun _=>none,fun _ _=>none,fun _=>false⟩,lock:=fun _=>false,E6:=fun _=>false,KM:=fun _=>false }
def DP (ty:TypeId→Option Ty) (sm:Sm) (rv:List ResultVar) (vs:List Lv) (s:St):Option sm.outs.D:=if sm.mk? then Nf sm rv s else
 match Au O6 s (Me s sm.rs rv) with
 | some fs=>IB ty sm rv vs (s.app fs)
 | none=>none
def L9 (ty:TypeId→Option Ty) (env:Env) (an:An) (n:Nat) (fn:Func) (sm:Sm) (x:sm.ins.D):Option sm.outs.D :=
 match fn.body,C6 0 sm.ps (unpack sm.ins x) with
 | some c,some ws=>if !codeOk fn.ntmps c then none else ev an n (DP ty sm fn.results.toList (unpack sm.ins x)) c {ty:=ty,env:=env,lock:=fun _=>false,E6:=fun _=>false,KM:=fun _=>false } ((blank fn.ntmps).app ws) (DP ty sm fn.results.toList (unpack sm.ins x)) (fun _ _=>none) some
 | _,_=>none
end Go.Ev
namespace Go.Ev
set_option linter.unusedVariables false
theorem Ah {α:Type} (d:α):∀ (l:List α) (n:Nat),nth d l n=(l[n]?).getD d
 | [],n=>by simp [nth]
 | x::xs,0=>by simp [nth]
 | x::xs,n+1=>by simp [nth,Ah d xs n]
theorem CU {α:Type}:∀ (l:List α) (n:Nat) (y:α),(CV l n y).length=l.length
 | [],_,_=>rfl
 | _::xs,0,_=>rfl
 | _::xs,n+1,y=>by simp [CV,CU xs n y]
theorem Bk {α:Type}:∀ (l:List α) (n:Nat) (y:α),CV l n y=l.set n y
 | [],_,_=>rfl
 | _::xs,0,_=>rfl
 | x::xs,n+1,y=>by simp [CV,Bk xs n y]
theorem Ay {α:Type} (d:α) (l:List α) (n m:Nat) (y:α):nth d (CV l n y) m=if n=m∧n<l.length then y else nth d l m:=by
 rw [Ah,Ah,Bk,List.getElem?_set]
 by_cases h:n=m
 ·subst h
  by_cases h2:n<l.length
  ·simp [h2]
  ·simp [h2]
 ·simp [h]
theorem A3 {α:Type} (d:α) {l:List α} {n:Nat} (h:l.length≤n):nth d l n=d:=by rw [Ah];simp [List.getElem?_eq_none h]
structure Cq where
 base:Nat
 io:Nat→Prop
 fa:Nat→Prop
 w0:World
 OP:Nat→Nat→Option Value
 O0:Nat→Nat
 NY:List (String×Array Value)
def at_ (a:Addr) (k:Nat):Addr:=⟨a.block,a.off+k,none⟩
def JV (w:World):List (Nat×Nat)→Ls→Value→Ls→Value→Prop
 | [],e,h,e',v=>e'=e∧v=h
 | (i,j)::p,e,h,e',v=>∃ a len c t f h',h = .slice (some a) len c∧a.spot=none∧i<len∧e.kinds[j]? = some (.sl t f)∧w.cell? (at_ a (i * e.n+j))=some h'∧JV w p f h' e' v
inductive Key where
 | AX (r:Nat)
 | lf (r j:Nat)
 | fl (k:Nat)
 deriving DecidableEq
structure Wd where
 w:World
 fz:Nat→Prop
 cv:Nat→Nat→Option Value
 bk:Nat→Nat
 om:Key→List Nat
def AR (s:St) (W:Wd):LA→Value→Prop
 | .bad,_=>True
 | .undef,v=>v=Go.undef
 | .DC,v=>v = .slice none 0 0
 | .JH,v=>v = .pointer none
 | .sc l x,v=>l.rd 0 W.w W.fz v x []
 | .ref c,v=>∀ gen t e xs d,s.leaf c.r c.j = .arr c.AA gen t e xs d→(c.p=[]∨gen=c.gen)→∃ h e',W.cv c.r c.j=some h∧JV W.w c.p e h e' v
 | .D7 c lo hi,v=>∀ gen t e xs d,s.leaf c.r c.j = .arr c.AA gen t e xs d→(c.p=[]∨gen=c.gen)→∃ h e' A n k,W.cv c.r c.j=some h∧JV W.w c.p e h e' (.slice A n k) ∧
   lo≤hi∧hi≤n∧v = .slice (if k=lo then A else A.map (·.add (lo * e'.n))) (hi - lo) (k - lo)
 | .ptr r j AA,v=>(s.root r).box=true→(s.root r).AA=AA→v = .pointer (some ⟨W.bk r,j,none⟩)
 | .Bm c,v=>∀ gen t e xs d,s.leaf c.r c.j = .arr c.AA gen t e xs d→(c.p.length≤1∨gen=c.gen)→∃ q i off h e' a n k,Aj c.p=some (q,i,off)∧W.cv c.r c.j=some h ∧
   JV W.w q e h e' (.slice (some a) n k)∧a.spot=none∧i<n∧v = .pointer (some (at_ a (i * e'.n+off)))
 | .D1 e x off,v=>∃ (a:Addr) (g:Nat→Option Value) (arr:Array Value) (T:TypeId) (fr:Nat×Nat),v = .pointer (some (at_ a off))∧W.fz a.block∧W.w.heap[a.block]? = some (.cells arr T fr) ∧
   (∀ j,g j=arr[a.off+j]?)∧e.rd 0 W.w W.fz g x []
 | .fn f,v=>v = .func (.func f) #[] #[]
 | .JB t c,v=>∃ u,v = .iface t u∧∀ gen t e xs d,s.leaf c.r c.j = .arr c.AA gen t e xs d→(c.p=[]∨gen=c.gen)→∃ h e',W.cv c.r c.j=some h∧JV W.w c.p e h e' u
 | .EB g ps _,v=>∃ bs:List Nat,v = .func (.func g) #[] (bs.map fun b=>Value.pointer (some ⟨b,0,none⟩)).toArray∧bs.length=ps.length∧∀ (k:Nat) (p:Nat×Nat) (b:Nat),ps[k]? = some p→bs[k]? = some b→(s.root p.1).box=true→(s.root p.1).AA=p.2→b=W.bk p.1
 | .arr ..,_=>False
def Ex (s:St) (W:Wd) (g:Bool) (as:List LA) (v:Value):Prop:=match g with
 | false=>match as with
  | [a]=>AR s W a v
  | _=>False
 | true=>∃ cs:Array Value,v = .agg cs∧cs.size=as.length∧∀ (j:Nat) (a:LA),as[j]? = some a→∃ u,cs[j]? = some u∧AR s W a u
def BY (s:St) (W:Wd):AV→Value→Prop
 | .v g as,v=>Ex s W g as v
 | .De vs,v=>∃ us:Array Value,v = .tuple us∧us.size=vs.length∧∀ (j:Nat) (p:Bool×List LA),vs[j]? = some p→∃ u,us[j]? = some u∧Ex s W p.1 p.2 u
 | .bx as,v=>∃ (b off:Nat) (arr:Array Value) (T:TypeId) (fr:Nat×Nat),v = .pointer (some ⟨b,off,none⟩)∧W.fz b∧W.w.heap[b]? = some (.cells arr T fr)∧(∀ j,j<arr.size→¬(fr.1≤j∧j<fr.2))∧∀ (j:Nat) (a:LA),as[j]? = some a→∃ u,arr[off+j]? = some u∧AR s W a u
def Aa (s:St) (W:Wd) (a:LA) (v? : Option Value) (o:List Nat):Prop:=match a with
 | .arr _ _ t e xs d=>∃ v,v? = some v∧AD e d W.w W.fz v xs o
 | a=>o=[]∧∀ v,v? = some v→AR s W a v
def EF (s:St) (W:Wd) (r:Nat) (x:Bo):Prop :=
 (∀ j,Aa s W (nth .bad x.ls j) (W.cv r j) (W.om (.lf r j))) ∧
 (if x.box then W.om (.AX r)=[W.bk r]∧∃ arr T fr,W.w.heap[W.bk r]? = some (.cells arr T fr)∧(∀ j,j<arr.size→¬(fr.1≤j∧j<fr.2))∧arr.size=x.ls.length∧∀ j,W.cv r j=arr[j]?
  else W.om (.AX r)=[])
structure Sep (E:Cq) (W:Wd):Prop where
 nodup:∀ k,(W.om k).Nodup
 A6:∀ k k',k≠k'→∀ b∈W.om k,b∉W.om k'
 own:∀ k,∀ b∈W.om k,¬ W.fz b∧b<W.w.heap.size∧(E.base≤b∨E.io b)
 fz:∀ b,W.fz b→b<W.w.heap.size∧(E.fa b∨E.base≤b∨E.io b)
 frame:∀ b,b<E.base→¬ E.io b→W.w.heap[b]? = E.w0.heap[b]?
 size:E.base≤W.w.heap.size
 rest:W.w.os=E.w0.os∧W.w.tape=E.w0.tape∧W.w.output=E.w0.output
structure AW (E:Cq) (s:St) (tm:Array Value) (W:Wd):Prop where
 DB:s.sl.length=tm.size
 Bx:s.ro.length=tm.size
 AP:∀ t,BY s W (s.slot t) (tm.getD t Go.undef)
 roots:∀ r,EF s W r (s.root r)
 sep:Sep E W
 init:(∀ (r j gen:Nat) (t:TypeId) (e:Ls) (xs:List e.D) (d:Nat),s.leaf r j = .arr 1 gen t e xs d→W.cv r j=E.OP r j)∧∀ r,(s.root r).box=true→(s.root r).AA=1→W.bk r=E.O0 r
theorem Ls.G4:∀ (e:Ls) (j:Nat) {d:Nat} {w:World} {fz:Nat→Prop} {g:Nat→Option Value} {x:e.D} {o:List Nat} {t:TypeId} {f:Ls},
  e.rd d w fz g x o→e.kinds[j]? = some (.sl t f)→∃ (h:Value) (ys:List f.D) (o':List Nat),g j=some h∧AD f d w fz h ys o'∧∀ b∈o',b∈o
 | .nil,j,_,_,_,_,_,_,_,_,_,hk=>by simp [Ls.kinds] at hk
 | .one l,j,d,w,fz,g,x,o,t,f,h,hk=>by
  simp only [Ls.rd] at h
  obtain ⟨v,hg,h⟩:=h
  cases j with
  | zero=>simp [Ls.kinds] at hk;subst hk;exact ⟨v,x,o,hg,h,fun b hb=>hb⟩
  | succ j=>simp [Ls.kinds] at hk
 | .cons l ls,j,d,w,fz,g,x,o,t,f,h,hk=>by
  simp only [Ls.rd] at h
  obtain ⟨v,o1,o2,hg,h1,h2,rfl⟩:=h
  cases j with
  | zero=>simp [Ls.kinds] at hk;subst hk;exact ⟨v,x.1,o1,hg,h1,fun b hb=>List.mem_append_left _ hb⟩
  | succ j =>
   simp only [Ls.kinds,List.getElem?_cons_succ] at hk
   obtain ⟨h',ys,o',a,b,c⟩:=Ls.G4 ls j h2 hk
   exact ⟨h',ys,o',a,b,fun x hx=>List.mem_append_right _ (c x hx)⟩
theorem Row.cell {w:World} {a:Addr} {n:Nat} {own:Bool} {g:Nat→Option Value} (h:Row w a n own g) (j:Nat):w.cell? (at_ a j)=g j:=by
 obtain ⟨hs,arr,T,fr,hh,hn,hb,hg⟩:=h
 simp [World.cell?,at_,hh,hg]
theorem MP {w:World}:∀ (p:List (Nat×Nat)) {e:Ls} {d:Nat} {fz:Nat→Prop} {h:Value} {xs:List e.D} {o:List Nat} {e':Ls} {v:Value},
  AD e d w fz h xs o→JV w p e h e' v→∃ (d':Nat) (ys:List e'.D) (o':List Nat),AD e' d' w fz v ys o'∧∀ b∈o',b∈o
 | [],e,d,fz,h,xs,o,e',v,hr,hn=>by
  obtain ⟨rfl,rfl⟩:=hn
  exact ⟨d,xs,o,hr,fun b hb=>hb⟩
 | (i,j)::p,e,d,fz,h,xs,o,e',v,hr,hn=>by
  obtain ⟨a,len,c,t',f,h',rfl,hs,hi,hk,hc,hn⟩:=hn
  obtain ⟨A,c',hv,hle,hr⟩:=hr
  injection hv with hA hl hc'
  subst hA
  have hi':i<xs.length:=hl ▸ hi
  rcases hr with hr | ⟨g,os,hrow,hel,ho⟩
  ·have:=hr.2.1;omega
  obtain ⟨h2,ys,o',hg,hrd,hsub⟩:=Ls.G4 e j (hel i hi') hk
  have:h2=h':=by
   have:=hrow.cell (i * e.n+j)
   rw [this,hg] at hc
   exact Option.some.inj hc
  subst this
  obtain ⟨d2,zs,o2,hz,hs2⟩:=MP p hrd hn
  refine ⟨d2,zs,o2,hz,fun b hb => ?_⟩
  have hb':=hsub b (hs2 b hb)
  revert ho
  cases decide (0<d) with
  | true=>intro ho;rw [ho];exact List.mem_cons_of_mem _ (List.mem_flatMap.2 ⟨i,List.mem_range.2 hi',hb'⟩)
  | false=>intro ho;rw [ho.2.2 i hi'] at hb';cases hb'
theorem BN {w w':World}:∀ (p:List (Nat×Nat)) {e:Ls} {d:Nat} {fz:Nat→Prop} {h:Value} {xs:List e.D} {o:List Nat} {e':Ls} {v:Value},
  AD e d w fz h xs o→JV w p e h e' v→(∀ b,b∈o∨fz b→w'.heap[b]? = w.heap[b]?)→JV w' p e h e' v
 | [],e,d,fz,h,xs,o,e',v,hr,hn,hf=>hn
 | (i,j)::p,e,d,fz,h,xs,o,e',v,hr,hn,hf=>by
  obtain ⟨a,len,c,t',f,h',rfl,hs,hi,hk,hc,hn⟩:=hn
  obtain ⟨A,c',hv,hle,hr⟩:=hr
  injection hv with hA hl hc'
  subst hA
  have hi':i<xs.length:=hl ▸ hi
  rcases hr with hr | ⟨g,os,hrow,hel,ho⟩
  ·have:=hr.2.1;omega
  obtain ⟨h2,ys,o',hg,hrd,hsub⟩:=Ls.G4 e j (hel i hi') hk
  have hblk:a.block∈o∨fz a.block:=by
   revert ho
   cases decide (0<d) with
   | true=>intro ho;left;rw [ho];simp
   | false=>intro ho;exact .inr ho.1
  have:h2=h':=by
   have:=hrow.cell (i * e.n+j)
   rw [this,hg] at hc
   exact Option.some.inj hc
  subst this
  refine ⟨a,len,c,t',f,h2,rfl,hs,hi,hk, ?_,BN p hrd hn fun b hb=>hf b ?_⟩
  ·rw [(hrow.frame (hf _ hblk)).cell,hg]
  ·rcases hb with hb | hb
   ·have hb':=hsub b hb
    left
    revert ho
    cases decide (0<d) with
    | true=>intro ho;rw [ho];exact List.mem_cons_of_mem _ (List.mem_flatMap.2 ⟨i,List.mem_range.2 hi',hb'⟩)
    | false=>intro ho;rw [ho.2.2 i hi'] at hb';cases hb'
   ·exact .inr hb
section
variable {E:Cq} {s s':St} {tm:Array Value} {W:Wd} {w':World}
theorem EF.row {r:Nat} (h:EF s W r (s.root r)) {j AA gen:Nat} {t:TypeId} {e:Ls} {xs:List e.D} {d:Nat} (hl:s.leaf r j = .arr AA gen t e xs d) :
  ∃ v,W.cv r j=some v∧AD e d W.w W.fz v xs (W.om (.lf r j)):=by
 have:=h.1 j
 unfold St.leaf at hl
 rw [hl] at this
 exact this
def Still (W:Wd) (w':World):Prop:=∀ b,(W.fz b∨∃ k,b∈W.om k)→w'.heap[b]? = W.w.heap[b]?
theorem AR.world (hr:∀ r,EF s W r (s.root r)) (hf:Still W w') {a:LA} {v:Value} (h:AR s W a v):AR s { W with w:=w' } a v:=by
 cases a with
 | bad=>trivial
 | undef=>exact h
 | DC=>exact h
 | JH=>exact h
 | sc l x=>exact L.AJ l h (fun b hb=>hf b (hb.elim (fun hb=>by cases hb) .inl)) fun b hb=>hb
 | ref c =>
  intro gen t e xs d hl hp
  obtain ⟨h',e',hc,hn⟩:=h gen t e xs d hl hp
  obtain ⟨u,hu,hrd⟩:=(hr c.r).row hl
  have:u=h':=Option.some.inj (hu.symm.trans hc)
  subst this
  exact ⟨u,e',hc,BN _ hrd hn fun b hb=>hf b (hb.elim (fun hb => .inr ⟨_,hb⟩) .inl)⟩
 | D7 c lo hi =>
  intro gen t e xs d hl hp
  obtain ⟨h',e',A,n,k,hc,hn,rest⟩:=h gen t e xs d hl hp
  obtain ⟨u,hu,hrd⟩:=(hr c.r).row hl
  have:u=h':=Option.some.inj (hu.symm.trans hc)
  subst this
  exact ⟨u,e',A,n,k,hc,BN _ hrd hn fun b hb=>hf b (hb.elim (fun hb => .inr ⟨_,hb⟩) .inl),rest⟩
 | ptr r j AA=>exact h
 | Bm c =>
  intro gen t e xs d hl hp
  obtain ⟨q,i,off,h',e',a,n,k,hs,hc,hn,rest⟩:=h gen t e xs d hl hp
  obtain ⟨u,hu,hrd⟩:=(hr c.r).row hl
  have:u=h':=Option.some.inj (hu.symm.trans hc)
  subst this
  exact ⟨q,i,off,u,e',a,n,k,hs,hc,BN _ hrd hn fun b hb=>hf b (hb.elim (fun hb => .inr ⟨_,hb⟩) .inl),rest⟩
 | D1 e x off =>
  obtain ⟨a,g,arr,T,fr,hv,hz,hh,hg,hrd⟩:=h
  exact ⟨a,g,arr,T,fr,hv,hz,(hf _ (.inl hz)).trans hh,hg,Ls.AJ e hrd (fun b hb=>hf b (hb.elim (fun hb=>by cases hb) .inl)) fun b hb=>hb⟩
 | fn f=>exact h
 | JB t c =>
  obtain ⟨u,hv,h⟩:=h
  refine ⟨u,hv,fun gen t e xs d hl hp => ?_⟩
  obtain ⟨h',e',hc,hn⟩:=h gen t e xs d hl hp
  obtain ⟨u',hu,hrd⟩:=(hr c.r).row hl
  have:u'=h':=Option.some.inj (hu.symm.trans hc)
  subst this
  exact ⟨u',e',hc,BN _ hrd hn fun b hb=>hf b (hb.elim (fun hb => .inr ⟨_,hb⟩) .inl)⟩
 | EB g ps qs=>exact h
 | arr=>exact h
theorem Ex.map {s s':St} {W W':Wd} (f:∀ a v,AR s W a v→AR s' W' a v) {g:Bool} {as:List LA} {v:Value} (h:Ex s W g as v):Ex s' W' g as v:=by
 unfold Ex at *
 cases g with
 | false=>cases as with
  | nil=>exact h
  | cons a as=>cases as with
   | nil=>exact f _ _ h
   | cons=>exact h
 | true =>
  obtain ⟨cs,hv,hs,h⟩:=h
  exact ⟨cs,hv,hs,fun j a ha=>let ⟨u,hu,hl⟩:=h j a ha;⟨u,hu,f _ _ hl⟩⟩
theorem BY.map {s s':St} {W W':Wd} (hz:∀ b,W.fz b→W'.fz b∧W'.w.heap[b]? = W.w.heap[b]?) (f:∀ a v,AR s W a v→AR s' W' a v) {a:AV} {v:Value} (h:BY s W a v):BY s' W' a v:=by
 cases a with
 | v g as=>exact Ex.map f h
 | De vs =>
  obtain ⟨us,hv,hs,h⟩:=h
  exact ⟨us,hv,hs,fun j p hp=>let ⟨u,hu,hl⟩:=h j p hp;⟨u,hu,Ex.map f hl⟩⟩
 | bx as =>
  obtain ⟨b,off,arr,T,fr,hv,h1,h2,h3,h⟩:=h
  exact ⟨b,off,arr,T,fr,hv,(hz b h1).1,(hz b h1).2.trans h2,h3,fun j a ha=>let ⟨u,hu,hl⟩:=h j a ha;⟨u,hu,f _ _ hl⟩⟩
theorem Aa.map {s s':St} {W W':Wd} (f:∀ a v,AR s W a v→AR s' W' a v) {a:LA} {v? : Option Value} {o:List Nat}
  (g:∀ (e:Ls) (d:Nat) (xs:List e.D) (v:Value),AD e d W.w W.fz v xs o→AD e d W'.w W'.fz v xs o) (h:Aa s W a v? o):Aa s' W' a v? o:=by
 unfold Aa at *
 cases a with
 | arr AA gen t e xs d=>obtain ⟨v,hv,h⟩:=h;exact ⟨v,hv,g _ _ _ _ h⟩
 | _=>exact ⟨h.1,fun v hv=>f _ _ (h.2 v hv)⟩
theorem AW.world (h:AW E s tm W) (hf:Still W w') (hb:∀ b,b<E.base→¬ E.io b→w'.heap[b]? = W.w.heap[b]?) (hs:W.w.heap.size≤w'.heap.size) (ho:w'.os=W.w.os∧w'.tape=W.w.tape∧w'.output=W.w.output):AW E s tm { W with w:=w' } where
 DB:=h.DB
 Bx:=h.Bx
 AP t:=BY.map (W:=W) (W':={ W with w:=w' }) (fun b hb=>⟨hb,hf b (.inl hb)⟩) (fun _ _=>AR.world h.roots hf) (h.AP t)
 roots r:=by
  obtain ⟨h1,h2⟩:=h.roots r
  refine ⟨fun j=>(h1 j).map (fun _ _=>AR.world h.roots hf) fun e d xs v hrd=>hrd.frame (fun b hb=>hf b (hb.elim (fun hb => .inr ⟨_,hb⟩) .inl)) fun b hb=>hb, ?_⟩
  split
  ·rename_i hbx
   rw [if_pos hbx] at h2
   obtain ⟨ho,arr,T,fr,hh,rest⟩:=h2
   exact ⟨ho,arr,T,fr,(hf _ (.inr ⟨.AX r,by rw [ho];simp⟩)).trans hh,rest⟩
  ·rename_i hbx;rw [if_neg hbx] at h2;exact h2
 sep:={
  nodup:=h.sep.nodup
  A6:=h.sep.A6
  own:=fun k b hb=>let ⟨a,c,d⟩:=h.sep.own k b hb;⟨a,Nat.lt_of_lt_of_le c hs,d⟩
  fz:=fun b hb'=>let ⟨a,c⟩:=h.sep.fz b hb';⟨Nat.lt_of_lt_of_le a hs,c⟩
  frame:=fun b hb1 hb2=>(hb b hb1 hb2).trans (h.sep.frame b hb1 hb2)
  size:=Nat.le_trans h.sep.size hs
  rest:=⟨ho.1.trans h.sep.rest.1,ho.2.1.trans h.sep.rest.2.1,ho.2.2.trans h.sep.rest.2.2⟩ }
 init:=h.init
theorem AW.KF (h:AW E s tm W) (hf:∀ b,b<W.w.heap.size→w'.heap[b]? = W.w.heap[b]?):Still W w':=by
 intro b hb
 rcases hb with hb | ⟨k,hb⟩
 ·exact hf b (h.sep.fz b hb).1
 ·exact hf b (h.sep.own k b hb).2.1
end
end Go.Ev
namespace Go.Ev
set_option linter.unusedVariables false
def LA.CH:LA→Bool
 | .arr _ _ _ _ _ _=>true
 | _=>false
def Ae (s:St) (v:Nat):Prop:=(∀ t,v∉(s.slot t).AH)∧(∀ r j,(s.leaf r j).CH=true∨v∉(s.leaf r j).AH)∧1<v
structure EG (v:Nat) (s s':St) (W W':Wd):Prop where
 fz:∀ b,W.fz b→W'.fz b
 LL:∀ b,W.fz b→W'.w.heap[b]? = W.w.heap[b]?
 leaf:∀ r j AA gen t e xs d,s'.leaf r j = .arr AA gen t e xs d→AA≠v→W'.cv r j=W.cv r j ∧
  ∃ gen0 t0 xs0 d0,s.leaf r j = .arr AA gen0 t0 e xs0 d0∧(gen≠v→gen=gen0∧∀ p h e' u,W.cv r j=some h→JV W.w p e h e' u→JV W'.w p e h e' u)
 box:∀ r,(s'.root r).box=true→(s'.root r).AA≠v→(s.root r).box=true∧(s.root r).AA=(s'.root r).AA∧W'.bk r=W.bk r
section
variable {v:Nat} {E:Cq} {s s':St} {tm tm':Array Value} {W W':Wd}
theorem Ci:∀ {p q:List (Nat×Nat)} {i off:Nat},Aj p=some (q,i,off)→p=q++[(i,off)]
 | [],_,_,_,h=>by simp [Aj] at h
 | [x],q,i,off,h=>by simp [Aj] at h;obtain ⟨rfl,rfl,rfl⟩:=h;rfl
 | x::y::r,q,i,off,h=>by
  simp only [Aj] at h
  split at h
  ·rename_i q' i' off' hq
   injection h with h
   injection h with h1 h2
   injection h2 with h2 h3
   subst h1;subst h2;subst h3
   rw [Ci hq];rfl
  ·cases h
theorem AR.Df (h:EG v s s' W W') {a:LA} {u:Value} (hv:v∉a.AH) (ha:AR s W a u):AR s' W' a u:=by
 cases a with
 | bad=>trivial
 | undef=>exact ha
 | DC=>exact ha
 | JH=>exact ha
 | sc l x=>exact L.AJ l ha (fun b hb=>h.LL b (hb.elim (fun hb=>by cases hb) id)) h.fz
 | ref c =>
  intro gen t e xs d hl hp
  have hne:c.AA≠v∧c.gen≠v:=by simp [LA.AH] at hv;exact ⟨fun e=>hv.1 e.symm,fun e=>hv.2 e.symm⟩
  obtain ⟨hc,gen0,t0,xs0,d0,hl0,hg⟩:=h.leaf _ _ _ _ _ _ _ _ hl hne.1
  by_cases hn:c.p=[]
  ·obtain ⟨h',e',hc',hn'⟩:=ha _ _ _ _ _ hl0 (.inl hn)
   rw [hn] at hn'
   exact ⟨h',e',hc.trans hc',by rw [hn];exact hn'⟩
  ·have hge:gen=c.gen:=hp.resolve_left hn
   obtain ⟨rfl,hnav⟩:=hg (by rw [hge];exact hne.2)
   obtain ⟨h',e',hc',hn'⟩:=ha _ _ _ _ _ hl0 (.inr hge)
   exact ⟨h',e',hc.trans hc',hnav _ _ _ _ hc' hn'⟩
 | D7 c lo hi =>
  intro gen t e xs d hl hp
  have hne:c.AA≠v∧c.gen≠v:=by simp [LA.AH] at hv;exact ⟨fun e=>hv.1 e.symm,fun e=>hv.2 e.symm⟩
  obtain ⟨hc,gen0,t0,xs0,d0,hl0,hg⟩:=h.leaf _ _ _ _ _ _ _ _ hl hne.1
  by_cases hn:c.p=[]
  ·obtain ⟨h',e',A,n,k,hc',hn',rest⟩:=ha _ _ _ _ _ hl0 (.inl hn)
   rw [hn] at hn'
   exact ⟨h',e',A,n,k,hc.trans hc',by rw [hn];exact hn',rest⟩
  ·have hge:gen=c.gen:=hp.resolve_left hn
   obtain ⟨rfl,hnav⟩:=hg (by rw [hge];exact hne.2)
   obtain ⟨h',e',A,n,k,hc',hn',rest⟩:=ha _ _ _ _ _ hl0 (.inr hge)
   exact ⟨h',e',A,n,k,hc.trans hc',hnav _ _ _ _ hc' hn',rest⟩
 | ptr r j AA =>
  intro hb hver
  have hne:AA≠v:=by simp [LA.AH] at hv;exact fun e=>hv e.symm
  obtain ⟨b1,b2,b3⟩:=h.box r hb (by rw [hver];exact hne)
  rw [b3]
  exact ha b1 (b2.trans hver)
 | Bm c =>
  intro gen t e xs d hl hp
  have hne:c.AA≠v∧c.gen≠v:=by simp [LA.AH] at hv;exact ⟨fun e=>hv.1 e.symm,fun e=>hv.2 e.symm⟩
  obtain ⟨hc,gen0,t0,xs0,d0,hl0,hg⟩:=h.leaf _ _ _ _ _ _ _ _ hl hne.1
  by_cases hn:c.p.length≤1
  ·obtain ⟨q,i,off,h',e',a,n,k,hs,hc',hn',rest⟩:=ha _ _ _ _ _ hl0 (.inl hn)
   have hq:q=[]:=by
    have h1:=Ci hs
    rw [h1,List.length_append] at hn
    simpa using hn
   subst hq
   exact ⟨[],i,off,h',e',a,n,k,hs,hc.trans hc',hn',rest⟩
  ·have hge:gen=c.gen:=hp.resolve_left hn
   obtain ⟨rfl,hnav⟩:=hg (by rw [hge];exact hne.2)
   obtain ⟨q,i,off,h',e',a,n,k,hs,hc',hn',rest⟩:=ha _ _ _ _ _ hl0 (.inr hge)
   exact ⟨q,i,off,h',e',a,n,k,hs,hc.trans hc',hnav _ _ _ _ hc' hn',rest⟩
 | D1 e x off =>
  obtain ⟨a,g,arr,T,fr,hv',hz,hh,hg,hrd⟩:=ha
  exact ⟨a,g,arr,T,fr,hv',h.fz _ hz,(h.LL _ hz).trans hh,hg,Ls.AJ e hrd (fun b hb=>h.LL b (hb.elim (fun hb=>by cases hb) id)) h.fz⟩
 | fn f=>exact ha
 | JB tt c =>
  obtain ⟨u',hv',ha⟩:=ha
  refine ⟨u',hv',fun gen t e xs d hl hp => ?_⟩
  have hne:c.AA≠v∧c.gen≠v:=by simp [LA.AH] at hv;exact ⟨fun e=>hv.1 e.symm,fun e=>hv.2 e.symm⟩
  obtain ⟨hc,gen0,t0,xs0,d0,hl0,hg⟩:=h.leaf _ _ _ _ _ _ _ _ hl hne.1
  by_cases hn:c.p=[]
  ·obtain ⟨h',e',hc',hn'⟩:=ha _ _ _ _ _ hl0 (.inl hn)
   rw [hn] at hn'
   exact ⟨h',e',hc.trans hc',by rw [hn];exact hn'⟩
  ·have hge:gen=c.gen:=hp.resolve_left hn
   obtain ⟨rfl,hnav⟩:=hg (by rw [hge];exact hne.2)
   obtain ⟨h',e',hc',hn'⟩:=ha _ _ _ _ _ hl0 (.inr hge)
   exact ⟨h',e',hc.trans hc',hnav _ _ _ _ hc' hn'⟩
 | EB g ps qs =>
  obtain ⟨bs,hu,hlen,hk⟩:=ha
  refine ⟨bs,hu,hlen,fun k p b hp hb h1 h2 => ?_⟩
  have hne:p.2≠v:=fun e=>hv (by simp only [LA.AH];exact List.mem_map.2 ⟨p,List.mem_of_getElem? hp,e⟩)
  obtain ⟨b1,b2,b3⟩:=h.box p.1 h1 (by rw [h2];exact hne)
  rw [b3]
  exact hk k p b hp hb b1 (b2.trans h2)
 | arr=>exact ha
theorem Ex.Df (h:EG v s s' W W') {g:Bool} {as:List LA} {u:Value} (hv:∀ a∈as,v∉a.AH) (ha:Ex s W g as u):Ex s' W' g as u:=by
 unfold Ex at *
 cases g with
 | false=>cases as with
  | nil=>exact ha
  | cons a as=>cases as with
   | nil=>exact AR.Df h (hv a (by simp)) ha
   | cons=>exact ha
 | true =>
  obtain ⟨cs,hc,hs,ha⟩:=ha
  exact ⟨cs,hc,hs,fun j a hj=>let ⟨u,hu,hl⟩:=ha j a hj;⟨u,hu,AR.Df h (hv a (List.mem_of_getElem? hj)) hl⟩⟩
theorem BY.Df (h:EG v s s' W W') {a:AV} {u:Value} (hv:v∉a.AH) (ha:BY s W a u):BY s' W' a u:=by
 cases a with
 | v g as=>exact Ex.Df h (fun a hm hx=>hv (List.mem_flatMap.2 ⟨a,hm,hx⟩)) ha
 | De vs =>
  obtain ⟨us,hu,hs,ha⟩:=ha
  refine ⟨us,hu,hs,fun j p hp => ?_⟩
  obtain ⟨u,hu,hl⟩:=ha j p hp
  exact ⟨u,hu,Ex.Df h (fun a hm hx=>hv (List.mem_flatMap.2 ⟨p,List.mem_of_getElem? hp,List.mem_flatMap.2 ⟨a,hm,hx⟩⟩)) hl⟩
 | bx as =>
  obtain ⟨b,off,arr,T,fr,hu,h1,h2,h3,ha⟩:=ha
  refine ⟨b,off,arr,T,fr,hu,h.fz b h1,(h.LL b h1).trans h2,h3,fun j a hj => ?_⟩
  obtain ⟨u,hu,hl⟩:=ha j a hj
  exact ⟨u,hu,AR.Df h (fun hx=>hv (List.mem_flatMap.2 ⟨a,List.mem_of_getElem? hj,hx⟩)) hl⟩
theorem G0 {α:Type} {d:α} {l:List α} {n:Nat} (h:n<l.length):nth d l n∈l:=by
 rw [Ah,List.getElem?_eq_getElem h];simp
theorem Aa.Df (h:EG v s s' W W') {a:LA} {v? : Option Value} {o:List Nat} (hv:a.CH=true∨v∉a.AH) (ho:∀ b∈o,W'.w.heap[b]? = W.w.heap[b]?) (ha:Aa s W a v? o):Aa s' W' a v? o:=by
 unfold Aa at *
 cases a with
 | arr AA gen t e xs d =>
  obtain ⟨u,hu,hr⟩:=ha
  exact ⟨u,hu,hr.frame (fun b hb=>hb.elim (ho b) (h.LL b)) h.fz⟩
 | _=>exact ⟨ha.1,fun u hu=>AR.Df h (hv.resolve_left (by simp [LA.CH])) (ha.2 u hu)⟩
theorem Sep.H9 (h:Sep E W) (ch:Key→Prop) (hfz:W'.fz=W.fz) (hsz:W.w.heap.size≤W'.w.heap.size)
  (hfr:∀ b,b<E.base→¬ E.io b→W'.w.heap[b]? = W.w.heap[b]?) (ho:W'.w.os=W.w.os∧W'.w.tape=W.w.tape∧W'.w.output=W.w.output)
  (hsame:∀ k,¬ ch k→W'.om k=W.om k) (hnd:∀ k,ch k→(W'.om k).Nodup) (hdis:∀ k k',ch k→ch k'→k≠k'→∀ b∈W'.om k,b∉W'.om k')
  (hfrom:∀ k,ch k→∀ b∈W'.om k,(∃ k0,ch k0∧b∈W.om k0)∨(W.w.heap.size≤b∧b<W'.w.heap.size)):Sep E W' where
 nodup k:=by
  by_cases hk:ch k
  ·exact hnd k hk
  ·rw [hsame k hk];exact h.nodup k
 A6 k k' hne b hb hb':=by
  by_cases hk:ch k <;> by_cases hk':ch k'
  ·exact hdis k k' hk hk' hne b hb hb'
  ·rw [hsame k' hk'] at hb'
   rcases hfrom k hk b hb with ⟨k0,hk0,h0⟩ | ⟨h0,_⟩
   ·exact h.A6 k0 k' (fun e=>hk' (e ▸ hk0)) b h0 hb'
   ·have:=(h.own k' b hb').2.1;omega
  ·rw [hsame k hk] at hb
   rcases hfrom k' hk' b hb' with ⟨k0,hk0,h0⟩ | ⟨h0,_⟩
   ·exact h.A6 k0 k (fun e=>hk (e ▸ hk0)) b h0 hb
   ·have:=(h.own k b hb).2.1;omega
  ·rw [hsame k hk] at hb;rw [hsame k' hk'] at hb';exact h.A6 k k' hne b hb hb'
 own k b hb:=by
  rw [hfz]
  by_cases hk:ch k
  ·rcases hfrom k hk b hb with ⟨k0,_,h0⟩ | ⟨h0,h1⟩
   ·obtain ⟨a,c,d⟩:=h.own k0 b h0;exact ⟨a,by omega,d⟩
   ·exact ⟨fun hz=>by have:=(h.fz b hz).1;omega,h1, .inl (by have:=h.size;omega)⟩
  ·rw [hsame k hk] at hb
   obtain ⟨a,c,d⟩:=h.own k b hb;exact ⟨a,by omega,d⟩
 fz b hb:=by rw [hfz] at hb;obtain ⟨a,c⟩:=h.fz b hb;exact ⟨by omega,c⟩
 frame b h1 h2:=(hfr b h1 h2).trans (h.frame b h1 h2)
 size:=Nat.le_trans h.size hsz
 rest:=⟨ho.1.trans h.rest.1,ho.2.1.trans h.rest.2.1,ho.2.2.trans h.rest.2.2⟩
theorem AW.H9 (h:AW E s tm W) (hv:Ae s v) (ht:EG v s s' W W') (hsep:Sep E W') (l1:s'.sl.length=tm'.size) (l2:s'.ro.length=tm'.size)
  (hs:∀ t,(s'.slot t=s.slot t∧tm'.getD t Go.undef=tm.getD t Go.undef)∨BY s' W' (s'.slot t) (tm'.getD t Go.undef))
  (hr:∀ r,EF s' W' r (s'.root r)):AW E s' tm' W' where
 DB:=l1
 Bx:=l2
 AP t:=by
  rcases hs t with ⟨a,b⟩ | a
  ·rw [a,b];exact BY.Df ht (hv.1 t) (h.AP t)
  ·exact a
 roots:=hr
 sep:=hsep
 init:=by
  have h1:1≠v:=Nat.ne_of_lt hv.2.2
  refine ⟨fun r j gen t e xs d hl => ?_,fun r hb hver => ?_⟩
  ·obtain ⟨hc,gen0,t0,xs0,d0,hl0,_⟩:=ht.leaf r j 1 gen t e xs d hl h1
   exact hc.trans (h.init.1 _ _ _ _ _ _ _ hl0)
  ·obtain ⟨b1,b2,b3⟩:=ht.box r hb (by rw [hver];exact h1)
   exact b3.trans (h.init.2 r b1 (b2.trans hver))
end
end Go.Ev
namespace Go.Ev
set_option linter.unusedVariables false
set_option linter.unusedSimpArgs false
def CJ:L→Value
 | .int k => .int k 0
 | .bool => .bool false
 | .str => .string .empty
 | .sl _ _ => .slice none 0 0
structure Lr (P:Program) (t:TypeId) (e:Ls):Prop where
 info:∃ i,P.info? t=some i∧i.size=e.n∧i.bytes≤1024∧∃ z,i.zero=some z∧z.cells=(e.kinds.map CJ).toArray
 pos:0<e.n
def GK (P:Program) (t:TypeId):L→Prop
 | .int k=>P.underlying t=some (.int k)
 | .bool=>P.underlying t=some .bool
 | .str=>P.underlying t=some .string
 | .sl t' e=>P.underlying t=some (.slice t')∧Lr P t' e
def I3 (P:Program) (t:TypeId):L→Prop
 | .int k=>P.underlying t=some (.int k)
 | .bool=>P.underlying t=some .bool
 | .str=>P.underlying t=some .string
 | .sl _ _=>False
def Gs (P:Program):Nat→List Field→List L→Prop
 | _,[],[]=>True
 | n, f :: fs, l :: ls => f.name ≠ "_" ∧ f.offset = n ∧ I3 P f.type l ∧ Gs P (n + 1) fs ls
 | _,_,_=>False
structure Ox (P:Program) (t:TypeId) (ls:List L):Prop where
 held:P.stoodInHeld t=false
 guard:P.eqGuardType P.depth t=false
 fields:∃ fs:Array Field,P.underlying t=some (.struct fs)∧Gs P 0 fs.toList ls
structure Nc (P:Program) (t:TypeId) (ty:Ty):Prop where
 info:∃ i,P.info? t=some i∧i.size=ty.ls.n∧∃ z,i.zero=some z∧z.cells=(ty.ls.kinds.map CJ).toArray∧(z = .agg (ty.ls.kinds.map CJ).toArray∨ty.agg=false)
 agg:ty.agg=true→∃ fs:Array Field,P.underlying t=some (.struct fs)∧fs.toList.map (fun f=>(f.offset,f.type))=ty.fs∧∃ pl,fs.toList.mapM (fun f=>(P.info? f.type).map fun i=>(f.offset,i.size))=some pl
 lone:ty.agg=false→∃ l,ty.ls = .one l∧GK P t l
 eqs:ty.eq=true→Ox P t ty.ls.kinds
def Oj (P:Program) (t:TypeId):Prop:=∃ i z c,P.info? t=some i∧i.size=1∧i.zero=some z∧z.cells = #[c]∧c.oneCell'=true
def Lt (P:Program) (env:Env):Prop:=∀ t,env.Oo t=true→Oj P t
def Dg (P:Program) (cx:Cx):Prop:=∀ t ty,cx.ty t=some ty→Nc P t ty
theorem GK.JI {P:Program} {t:TypeId} {l:L} (h:GK P t l):∃ d,P.underlying t=some d∧(match d with | .struct _ | .array _ _=>true | _=>false)=false:=by
 cases l with
 | int k=>exact ⟨_,h,rfl⟩
 | bool=>exact ⟨_,h,rfl⟩
 | str=>exact ⟨_,h,rfl⟩
 | sl t' e=>exact ⟨_,h.1,rfl⟩
def Bc (P:Program) (E:Cq) (o:Oper) (a:Act) (w:World) (s':St):Prop :=
 ∀ (next:Act→World→Prop) (Q:Exit→Act→World→Prop),(∀ a' W',a'.defers=a.defers→AW E s' a'.tmps W'→next a' W'.w)→o.wp P a w next Q
section
variable {P:Program} {E:Cq} {s:St} {tm:Array Value} {W:Wd} {o:Oper} {a:Act}
theorem BR (s:St) (d:Nat) (x:AV) (t:Nat):(s.AG (.slot d x)).slot t=if d=t∧d<s.sl.length then x else s.slot t:=Ay _ _ _ _ _
theorem Av (s:St) (d:Nat) (x:Bo) (t:Nat):(s.AG (.root d x)).root t=if d=t∧d<s.ro.length then x else s.root t:=Ay _ _ _ _ _
theorem AW.slot (h:AW E s tm W) (d:Nat) {x:AV} {u:Value} (hx:BY s W x u):AW E (s.AG (.slot d x)) (tm.setIfInBounds d u) W where
 DB:=by simp [St.AG,CU,h.DB]
 Bx:=by simp [St.AG,h.Bx]
 AP t:=by
  rw [BR]
  by_cases hd:d=t∧d<s.sl.length
  ·obtain ⟨rfl,hlt⟩:=hd
   rw [if_pos ⟨rfl,hlt⟩]
   have:(tm.setIfInBounds d u).getD d Go.undef=u:=by
    rw [h.DB] at hlt
    simp [Array.getElem?_setIfInBounds,hlt]
   rw [this];exact hx
  ·rw [if_neg hd]
   have:(tm.setIfInBounds d u).getD t Go.undef=tm.getD t Go.undef:=by
    by_cases hdt:d=t
    ·have:¬ d<tm.size:=fun hl=>hd ⟨hdt,by rw [h.DB];exact hl⟩
     subst hdt
     simp [Array.getElem?_setIfInBounds,this]
    ·simp [Array.getElem?_setIfInBounds,hdt]
   rw [this];exact h.AP t
 roots r:=h.roots r
 sep:=h.sep
 init:=h.init
theorem AW.outs (h:AW E s tm W) (dst:Option Nat) {x:AV} {u:Value} (hx:BY s W x u) :
  AW E (s.app (match dst with | some d=>[.slot d x] | none=>[])) (match dst with | some d=>tm.setIfInBounds d u | none=>tm) W:=by
 cases dst with
 | none=>exact h
 | some d=>exact h.slot d hx
theorem BQ (v:Value):AR s W (ofConst v) v:=by
 cases v with
 | int k n=>exact ⟨rfl,rfl⟩
 | bool b=>exact ⟨rfl,rfl⟩
 | string b=>exact ⟨by simp,rfl⟩
 | slice A n c =>
  cases A with
  | none=>cases n with
   | zero=>cases c with
    | zero=>exact rfl
    | succ c=>trivial
   | succ n=>trivial
  | some a=>trivial
 | pointer A=>cases A with
  | none=>exact rfl
  | some a=>trivial
 | _=>trivial
theorem BG (h:AW E s a.tmps W) (x:Operand):BY s W (s.Ap x) (a.eval x):=by
 cases x with
 | tmp t=>exact h.AP t
 | const v =>
  cases v with
  | agg cs =>
   refine ⟨cs,rfl,by simp,fun j b hj => ?_⟩
   simp only [List.getElem?_map] at hj
   cases hc:cs.toList[j]? with
   | none=>rw [hc] at hj;cases hj
   | some u =>
    rw [hc] at hj;injection hj with hj;subst hj
    exact ⟨u,by simpa using hc,BQ u⟩
  | bool b=>exact BQ (s:=s) (W:=W) (.bool b)
  | int k n=>exact BQ (s:=s) (W:=W) (.int k n)
  | float k n=>exact BQ (s:=s) (W:=W) (.float k n)
  | complex k x y=>exact BQ (s:=s) (W:=W) (.complex k x y)
  | string b=>exact BQ (s:=s) (W:=W) (.string b)
  | pointer b=>exact BQ (s:=s) (W:=W) (.pointer b)
  | slice b n c=>exact BQ (s:=s) (W:=W) (.slice b n c)
  | map r=>exact BQ (s:=s) (W:=W) (.map r)
  | chan r=>exact BQ (s:=s) (W:=W) (.chan r)
  | func f x y=>exact BQ (s:=s) (W:=W) (.func f x y)
  | nilFunc=>exact BQ (s:=s) (W:=W) .nilFunc
  | iface t x=>exact BQ (s:=s) (W:=W) (.iface t x)
  | nilIface=>exact BQ (s:=s) (W:=W) .nilIface
  | tuple vs=>exact BQ (s:=s) (W:=W) (.tuple vs)
 | global g=>exact trivial
 | func f=>exact rfl
theorem Ad (h:AW E s a.tmps W) (x:Operand):AR s W (s.Ai x) (a.eval x):=by
 have:=BG h x
 unfold St.Ai
 revert this
 cases s.Ap x with
 | De vs=>intro _;trivial
 | bx as=>intro _;trivial
 | v g as =>
  cases g with
  | true=>intro _;cases as with
   | nil=>trivial
   | cons b bs=>cases bs <;> trivial
  | false=>cases as with
   | nil=>intro _;trivial
   | cons b bs=>cases bs with
    | nil=>intro h;exact h
    | cons=>intro _;trivial
theorem Hm (h:AW E s a.tmps W) {u:Value} {x:AV} (hrun:(execOp a.eval o).run P W.w = .ok (.value u) W.w) (hx:BY s W x u) :
  Bc P E o a W.w (s.app (match o.dst with | some d=>[.slot d x] | none=>[])):=by
 intro next Q hn
 unfold Oper.wp
 rw [hrun]
 show next (a.put o.dst u) W.w
 refine hn _ W ?_ ?_
 ·cases o.dst <;> rfl
 ·have:=h.outs o.dst hx
  cases hd:o.dst with
  | none=>rw [hd] at this;exact this
  | some d=>rw [hd] at this;exact this
theorem OL (h:AW E s a.tmps W) {x:Operand} (ho:o.op = .move x):Bc P E o a W.w (s.app (match o.dst with | some d=>[.slot d (s.Ap x)] | none=>[])) :=
 Hm h (by simp [execOp,ho]) (BG h x)
theorem IntKind.HZ {i j:IntKind} (h:(IntKind.code i==IntKind.code j)=true):i=j:=IntKind.EM (by simpa using h)
theorem Bj (k:IntKind) (n:Int):BY s W (IQ k n) (.int k n):=⟨rfl,rfl⟩
theorem Co (b:Bool):BY s W (IP b) (.bool b):=⟨rfl,rfl⟩
theorem Kh (b:List UInt8):BY s W (Og b) (.string ⟨b.toArray⟩):=⟨rfl,rfl⟩
theorem Ln {cx:Cx} (hc:Dg P cx) {t:TypeId} (h:IV cx t .bool=true):P.underlying t=some .bool:=by
 unfold IV at h
 split at h
 ·rename_i ty ht
  simp at h
  obtain ⟨l,hl,hf⟩:=(hc t ty ht).lone h.1
  rw [hl] at h
  have:=h.2
  simp only [Ls.eq?] at this
  obtain rfl:=L.Dj this
  exact hf
 ·cases h
variable {T:Type} {β:Type}
theorem Ag {b:Bool} {x y:Step β} {t:β} (h:(Step.iff b x y).leads t):(b=true∧x.leads t)∨(b=false∧y.leads t):=by
 cases b
 ·exact .inr ⟨rfl,h⟩
 ·exact .inl ⟨rfl,h⟩
theorem M6 {op:BinOp} {y:Operand} {i:IntKind} {m n:Int} {k:AV→Step β} {t:β} (hz:isZero y=false→n≠0) (h:(L7 op y i m n k).leads t) (tx:TypeId) (x:Operand) (w:World) :
  ∃ z r,(k z).leads t∧BY s W z r∧(do eqGuard op tx x y (.int i m) (.int i n);binOp op tx (.int i m) (.int i n):Sem Value).run P w = .ok r w:=by
 cases op <;> simp only [L7] at h
 case add=>exact ⟨_,_,h,Bj _ _,by simp [eqGuard,binOp,Op.intArith]⟩
 case sub=>exact ⟨_,_,h,Bj _ _,by simp [eqGuard,binOp,Op.intArith]⟩
 case mul=>exact ⟨_,_,h,Bj _ _,by simp [eqGuard,binOp,Op.intArith]⟩
 case quo =>
  have h0:n≠0∧(k (IQ i (i.wrap (Int.tdiv m n)))).leads t:=by
   split at h
   ·rcases Ag h with ⟨_,h⟩ | ⟨hb,h⟩
    ·exact h.elim
    ·exact ⟨by simpa using hb,h⟩
   ·rename_i hy;exact ⟨hz (by simpa using hy),h⟩
  exact ⟨_,_,h0.2,Bj _ _,by simp [eqGuard,binOp,Op.intDiv,h0.1]⟩
 case rem =>
  have h0:n≠0∧(k (IQ i (Int.tmod m n))).leads t:=by
   split at h
   ·rcases Ag h with ⟨_,h⟩ | ⟨hb,h⟩
    ·exact h.elim
    ·exact ⟨by simpa using hb,h⟩
   ·rename_i hy;exact ⟨hz (by simpa using hy),h⟩
  exact ⟨_,_,h0.2,Bj _ _,by simp [eqGuard,binOp,Op.intDiv,h0.1]⟩
 case eql=>exact ⟨_,_,h,Co _,by simp [eqGuard,binOp,Op.intCmp]⟩
 case neq=>exact ⟨_,_,h,Co _,by simp [eqGuard,binOp,Op.intCmp]⟩
 case lss=>exact ⟨_,_,h,Co _,by simp [eqGuard,binOp,Op.intCmp]⟩
 case leq=>exact ⟨_,_,h,Co _,by simp [eqGuard,binOp,Op.intCmp]⟩
 case gtr=>exact ⟨_,_,h,Co _,by simp [eqGuard,binOp,Op.intCmp]⟩
 case geq=>exact ⟨_,_,h,Co _,by simp [eqGuard,binOp,Op.intCmp]⟩
 case and=>exact ⟨_,_,h,Bj _ _,by simp [eqGuard,binOp,Op.intBits,OO]⟩
 case or=>exact ⟨_,_,h,Bj _ _,by simp [eqGuard,binOp,Op.intBits,O2]⟩
 case xor=>exact ⟨_,_,h,Bj _ _,by simp [eqGuard,binOp,Op.intBits,Oa]⟩
 case shl =>
  rcases Ag h with ⟨hb,h⟩ | ⟨_,h⟩
  ·have hb:¬ n<0:=by have:=of_decide_eq_true hb;omega
   exact ⟨_,_,h,Bj _ _,by simp [eqGuard,binOp,Op.shift,OC,hb]⟩
  ·exact h.elim
 case shr =>
  rcases Ag h with ⟨hb,h⟩ | ⟨_,h⟩
  ·have hb:¬ n<0:=by have:=of_decide_eq_true hb;omega
   exact ⟨_,_,h,Bj _ _,by simp [eqGuard,binOp,Op.shift,OD,hb]⟩
  ·exact h.elim
 all_goals exact h.elim
theorem Mm {op:BinOp} (hs:Gy op=true) {y:Operand} {i j:IntKind} {m n:Int} {k:AV→Step β} {t:β} (h:(L7 op y i m n k).leads t) (tx:TypeId) (x:Operand) (w:World) :
  ∃ z r,(k z).leads t∧BY s W z r∧(do eqGuard op tx x y (.int i m) (.int j n);binOp op tx (.int i m) (.int j n):Sem Value).run P w = .ok r w:=by
 cases op <;> simp only [Gy,Bool.false_eq_true] at hs <;> simp only [L7] at h
 case shl =>
  rcases Ag h with ⟨hb,h⟩ | ⟨_,h⟩
  ·have hb:¬ n<0:=by have:=of_decide_eq_true hb;omega
   exact ⟨_,_,h,Bj _ _,by simp [eqGuard,binOp,Op.shift,OC,hb]⟩
  ·exact h.elim
 case shr =>
  rcases Ag h with ⟨hb,h⟩ | ⟨_,h⟩
  ·have hb:¬ n<0:=by have:=of_decide_eq_true hb;omega
   exact ⟨_,_,h,Bj _ _,by simp [eqGuard,binOp,Op.shift,OD,hb]⟩
  ·exact h.elim
theorem M5 {op:BinOp} {y:Operand} {m n:Bool} {k:AV→Step β} {t:β} (h:(Nn op m n k).leads t) (tx:TypeId) (htx:P.underlying tx=some .bool) (x:Operand) (w:World) :
  ∃ z r,(k z).leads t∧BY s W z r∧(do eqGuard op tx x y (.bool m) (.bool n);binOp op tx (.bool m) (.bool n):Sem Value).run P w = .ok r w:=by
 cases op <;> simp only [Nn] at h
 case eql=>exact ⟨_,_,h,Co _,by simp [eqGuard,run_eql_bool _ tx m n htx]⟩
 case neq=>exact ⟨_, .bool (!(m==n)),h,⟨rfl,rfl⟩,by simp [eqGuard,run_neq_bool _ tx m n htx]⟩
 all_goals exact h.elim
theorem M7 {op:BinOp} {y:Operand} {m n:List UInt8} {k:AV→Step β} {t:β} (h:(Np op m n k).leads t) (tx:TypeId) (x:Operand) (w:World) :
  ∃ z r,(k z).leads t∧BY s W z r∧(do eqGuard op tx x y (.string ⟨m.toArray⟩) (.string ⟨n.toArray⟩);binOp op tx (.string ⟨m.toArray⟩) (.string ⟨n.toArray⟩):Sem Value).run P w = .ok r w:=by
 have tl:∀ l:List UInt8,(⟨l.toArray⟩:ByteArray).toList=l:=fun l=>by simp
 cases op <;> simp only [Np] at h
 case eql=>exact ⟨_,_,h,Co _,by simp [eqGuard,binOp,Op.stringOp,tl]⟩
 case neq=>exact ⟨_,_,h,Co _,by simp [eqGuard,binOp,Op.stringOp,tl]⟩
 case add =>
  rcases Ag h with ⟨hb,h⟩ | ⟨_,h⟩
  ·refine ⟨_,_,h,Kh _, ?_⟩
   have hb:m.length+n.length≤4611686018427387904:=of_decide_eq_true hb
   have hr:=run_string_add_sum (P:=P) w ⟨m.toArray⟩ ⟨n.toArray⟩ (by simp [ByteArray.size];omega)
   rw [ByteArray.mk_append_mk] at hr
   simp only [eqGuard,binOp]
   simpa using hr
  ·exact h.elim
 all_goals exact h.elim
theorem L8 {cx:Cx} (hc:Dg P cx) {op:BinOp} {tx:TypeId} {x y:Operand} (h:AW E s a.tmps W) {k:AV→Step β} {t:β}
  (hl:(binop (IV cx tx .bool) op y (s.Ai x) (s.Ai y) k).leads t) :
  ∃ z r,(k z).leads t∧BY s W z r∧(do eqGuard op tx x y (a.eval x) (a.eval y);binOp op tx (a.eval x) (a.eval y):Sem Value).run P W.w = .ok r W.w:=by
 have h1:=Ad h x
 have h2:=Ad h y
 have hz:∀ (k:IntKind) (n:Int),s.Ai y = .sc (.int k) n→isZero y=false→n≠0:=by
  intro k n hy h0
  cases y with
  | const v =>
   cases v with
   | int j m =>
    simp only [St.Ai,St.Ap,AV.one?,ofConst] at hy
    injection hy with e1 e2
    injection e1 with e1
    subst e1
    subst e2
    simp [isZero] at h0
    exact h0
   | _=>simp [isZero] at h0
  | _=>simp [isZero] at h0
 revert h1 h2 hl hz
 generalize s.Ai x=p
 generalize s.Ai y=q
 intro hl h1 h2 hz
 unfold binop at hl
 split at hl
 ·rename_i l m n r
  cases l with
  | int i=>cases n with
   | int j =>
    simp only at hl
    split at hl
    ·rename_i hij
     rw [h1.1,h2.1]
     cases hs:Gy op with
     | true=>exact Mm hs hl tx x _
     | false =>
      rw [hs,Bool.or_false] at hij
      obtain rfl:=IntKind.HZ hij
      exact M6 (hz _ _ rfl) hl tx x _
    ·exact hl.elim
   | _=>exact hl.elim
  | bool=>cases n with
   | bool =>
    simp only at hl
    split at hl
    ·rename_i hb
     rw [h1.1,h2.1]
     exact M5 hl tx (Ln hc hb) x _
    ·exact hl.elim
   | _=>exact hl.elim
  | str=>cases n with
   | str =>
    rw [h1.1,h2.1]
    exact M7 hl tx x _
   | _=>exact hl.elim
  | sl t e=>cases n <;> exact hl.elim
 ·exact hl.elim
theorem Im {d:Nat} {w:World} {fz:Nat→Prop} {k:(t:TypeId)→(f:Ls)→List f.D→Step β} {t:β}:∀ (e:Ls) (j:Nat) {g:Nat→Option Value} {x:e.D} {o:List Nat} {t':TypeId} {f:Ls} {h:Value},
  (JF e j x k).leads t→e.rd d w fz g x o→e.kinds[j]? = some (.sl t' f)→g j=some h→∃ (ys:List f.D) (o':List Nat),(k t' f ys).leads t∧AD f d w fz h ys o'∧∀ b∈o',b∈o
 | .nil,j,_,_,_,_,_,_,hl,_,_,_=>hl.elim
 | .one l,0,g,x,o,t',f,h,hl,hr,hk,hg=>by
  simp only [Ls.rd] at hr
  obtain ⟨v,hv,hr⟩:=hr
  simp [Ls.kinds] at hk
  subst hk
  rw [hg] at hv;injection hv with hv;subst hv
  exact ⟨x,o,hl,hr,fun b hb=>hb⟩
 | .one _,_+1,_,_,_,_,_,_,hl,_,_,_=>hl.elim
 | .cons l ls,0,g,x,o,t',f,h,hl,hr,hk,hg=>by
  simp only [Ls.rd] at hr
  obtain ⟨v,o1,o2,hv,hr,hr2,rfl⟩:=hr
  simp [Ls.kinds] at hk
  subst hk
  rw [hg] at hv;injection hv with hv;subst hv
  exact ⟨x.1,o1,hl,hr,fun b hb=>List.mem_append_left _ hb⟩
 | .cons l ls,j+1,g,x,o,t',f,h,hl,hr,hk,hg=>by
  simp only [Ls.rd] at hr
  obtain ⟨v,o1,o2,hv,hr,hr2,rfl⟩:=hr
  obtain ⟨ys,o',a,b,c⟩:=Im ls j hl hr2 (by simpa [Ls.kinds] using hk) hg
  exact ⟨ys,o',a,b,fun x hx=>List.mem_append_right _ (c x hx)⟩
theorem MA {w:World} {fz:Nat→Prop} {k:(t:TypeId)→(e:Ls)→List e.D→Nat→Step β} {t:β}:∀ (p:List (Nat×Nat)) {t0:TypeId} {e:Ls} {xs:List e.D} {d:Nat} {h:Value} {o:List Nat} {e':Ls} {v:Value},
  (OU k p t0 e xs d).leads t→AD e d w fz h xs o→JV w p e h e' v→∃ (t':TypeId) (ys:List e'.D) (d':Nat) (o':List Nat),(k t' e' ys d').leads t∧AD e' d' w fz v ys o'∧∀ b∈o',b∈o
 | [],t0,e,xs,d,h,o,e',v,hl,hr,hn=>by
  obtain ⟨rfl,rfl⟩:=hn
  exact ⟨t0,xs,d,o,hl,hr,fun b hb=>hb⟩
 | (i,j)::p,t0,e,xs,d,h,o,e',v,hl,hr,hn=>by
  obtain ⟨a,len,c,t',f,h',rfl,hs,hi,hk,hc,hn⟩:=hn
  obtain ⟨A,c',hv,hle,hr⟩:=hr
  injection hv with hA hl' hc'
  subst hA
  have hi':i<xs.length:=hl' ▸ hi
  rcases hr with hr | ⟨g,os,hrow,hel,ho⟩
  ·have:=hr.2.1;omega
  obtain ⟨x,hx,hl⟩:=hl
  rw [List.getElem?_eq_getElem hi'] at hx
  injection hx with hx;subst hx
  have hg:(fun j=>g (i * e.n+j)) j=some h':=by rw [hrow.cell (i * e.n+j)] at hc;exact hc
  obtain ⟨ys,o',hl,hrd,hsub⟩:=Im e j hl (hel i hi') hk hg
  obtain ⟨t2,zs,d2,o2,hl,hz,hs2⟩:=MA p hl hrd hn
  refine ⟨t2,zs,d2,o2,hl,hz,fun b hb => ?_⟩
  have hb':=hsub b (hs2 b hb)
  revert ho
  cases decide (0<d) with
  | true=>intro ho;rw [ho];exact List.mem_cons_of_mem _ (List.mem_flatMap.2 ⟨i,List.mem_range.2 hi',hb'⟩)
  | false=>intro ho;rw [ho.2.2 i hi'] at hb';cases hb'
theorem CZ (h:AW E s tm W) {c:Loc} {k:(t:TypeId)→(e:Ls)→List e.D→Nat→Step β} {t:β} (hl:(s.content c k).leads t) :
  ∃ (t0:TypeId) (e0:Ls) (xs0:List e0.D) (d0 gen:Nat),s.leaf c.r c.j = .arr c.AA gen t0 e0 xs0 d0∧(c.p=[]∨gen=c.gen) ∧
   ∀ (u:Value) (e':Ls) (v:Value),W.cv c.r c.j=some u→JV W.w c.p e0 u e' v→∃ (t':TypeId) (ys:List e'.D) (d':Nat) (o':List Nat),(k t' e' ys d').leads t∧AD e' d' W.w W.fz v ys o'∧∀ b∈o',b∈W.om (.lf c.r c.j):=by
 unfold St.content at hl
 split at hl
 ·rename_i AA gen t0 e0 xs0 d0 hleaf
  split at hl
  ·rename_i hcond
   simp only [Bool.and_eq_true,beq_iff_eq,Bool.or_eq_true] at hcond
   obtain ⟨hv,hg⟩:=hcond
   subst hv
   refine ⟨t0,e0,xs0,d0,gen,hleaf,hg.imp (fun h=>by cases hp:c.p <;> simp_all [isNil]) id,fun u e' v hu hn => ?_⟩
   obtain ⟨u',hu',hr⟩:=(h.roots c.r).row hleaf
   rw [hu] at hu';injection hu' with hu';subst hu'
   exact MA c.p hl hr hn
  ·exact hl.elim
 ·exact hl.elim
theorem DG (h:AW E s tm W) {c:Loc} {v:Value} (hv:AR s W (.ref c) v) {k:(t:TypeId)→(e:Ls)→List e.D→Nat→Step β} {t:β} (hl:(s.content c k).leads t) :
  ∃ (t':TypeId) (e':Ls) (ys:List e'.D) (d':Nat) (o':List Nat),(k t' e' ys d').leads t∧AD e' d' W.w W.fz v ys o'∧∀ b∈o',b∈W.om (.lf c.r c.j):=by
 obtain ⟨t0,e0,xs0,d0,gen,hleaf,hp,hk⟩:=CZ h hl
 obtain ⟨u,e',hu,hn⟩:=hv gen t0 e0 xs0 d0 hleaf hp
 obtain ⟨t',ys,d',o',a,b,c⟩:=hk u e' v hu hn
 exact ⟨t',e',ys,d',o',a,b,c⟩
theorem AD.len {e:Ls} {d:Nat} {w:World} {fz:Nat→Prop} {v:Value} {xs:List e.D} {o:List Nat} (h:AD e d w fz v xs o):∃ A c,v = .slice A xs.length c∧xs.length≤c:=by
 obtain ⟨A,c,hv,hc,_⟩:=h
 exact ⟨A,c,hv,hc⟩
theorem CK.sub {α:Type} {n:Nat} {R:(Nat→Option Value)→α→List Nat→Prop} {own:Bool} {w:World} {fz:Nat→Prop} {A:Option Addr} {len c:Nat} {xs:List α} {o:List Nat}
  (h:CK n R own w fz (.slice A len c) xs o) {lo hi:Nat} (h1:lo≤hi) (h2:hi≤len) :
  ∃ o',CK n R own w fz (.slice (if c=lo then A else A.map (·.add (lo * n))) (hi - lo) (c - lo)) (Ev.sub xs lo hi) o'∧(∀ b∈o',b∈o)∧(o.Nodup→o'.Nodup):=by
 obtain ⟨A',c',hv,hc,h⟩:=h
 injection hv with hA hl hc'
 subst hA;subst hl;subst hc'
 have hlen:(Ev.sub xs lo hi).length=hi - lo:=by simp [Ev.sub];omega
 cases A with
 | none =>
  refine ⟨[],⟨none,c - lo, ?_,by rw [hlen];omega, ?_⟩,by simp,by simp⟩
  ·rw [hlen];simp
  ·exact ⟨by omega,rfl⟩
 | some a =>
  rcases h with h | ⟨g,os,hrow,hel,ho⟩
  ·obtain ⟨rfl,rfl,rfl⟩:=h
   have hl0:xs.length=0:=by omega
   have hhi:hi=0:=by omega
   have hlo:lo=0:=by omega
   subst hhi;subst hlo
   have hnil:xs=[]:=List.eq_nil_of_length_eq_zero hl0
   subst hnil
   exact ⟨[],⟨some a,0,by simp [Ev.sub],by simp [Ev.sub], .inl ⟨rfl,rfl,rfl⟩⟩,by simp,by simp⟩
  obtain ⟨hs,arr,T,fr,hh,hn,hb,hg⟩:=hrow
  have hget:∀ i (hi':i<(Ev.sub xs lo hi).length),∃ hx:lo+i<xs.length,(Ev.sub xs lo hi)[i]=xs[lo+i]:=by
   intro i hi'
   have:lo+i<xs.length:=by rw [hlen] at hi';omega
   exact ⟨this,by simp [Ev.sub]⟩
  by_cases hcl:c=lo
  ·have hhi:hi=lo:=by omega
   have hnil:Ev.sub xs lo hi=[]:=by simp [Ev.sub,hhi]
   rw [if_pos hcl,hnil,hhi]
   refine ⟨match own with | true=>[a.block] | false=>[],⟨some a,c - lo,by simp,by simp, .inr ⟨fun j=>arr[a.off+j]?,fun _=>[],⟨hs,arr,T,fr,hh,by rw [hcl];simp;omega,hb,fun j=>rfl⟩,fun i hi=>by simp at hi, ?_⟩⟩, ?_, ?_⟩
   ·cases own with
    | true=>simp
    | false=>exact ⟨ho.1,rfl,fun _ _=>rfl⟩
   ·cases own with
    | true=>intro b hb';simp at hb';subst hb';rw [ho];simp
    | false=>intro b hb';cases hb'
   ·cases own <;> simp
  ·rw [if_neg hcl]
   have hadd:(a.add (lo * n)).block=a.block∧(a.add (lo * n)).off=a.off+lo * n∧(a.add (lo * n)).spot=none:=by
    unfold Addr.add;split
    ·rename_i h0;rw [h0];exact ⟨rfl,rfl,hs⟩
    ·exact ⟨rfl,rfl,rfl⟩
   refine ⟨match own with | true=>a.block::(List.range (hi - lo)).flatMap fun i=>os (lo+i) | false=>[],
    ⟨some (a.add (lo * n)),c - lo,by rw [hlen];rfl,by rw [hlen];omega, .inr ⟨fun j=>g (lo * n+j),fun i=>os (lo+i),⟨hadd.2.2,arr,T,fr,by rw [hadd.1];exact hh, ?_,hb,fun j=>by show g (lo * n+j)=_;rw [hg,hadd.2.1];congr 1;omega⟩,fun i hi' => ?_, ?_⟩⟩, ?_, ?_⟩
   ·rw [hadd.2.1]
    have:lo * n+(c - lo) * n=c * n:=by rw [← Nat.add_mul];congr 1;omega
    omega
   ·obtain ⟨hx,he⟩:=hget i hi'
    have:=hel (lo+i) hx
    rw [he]
    have e:(fun j=>g ((lo+i) * n+j))=fun j=>g (lo * n+(i * n+j)):=by
     funext j;congr 1;rw [Nat.add_mul];omega
    rw [← e];exact this
   ·cases own with
    | true=>simp only [hadd.1,hlen]
    | false=>exact ⟨by rw [hadd.1];exact ho.1,rfl,fun i hi'=>ho.2.2 _ (by rw [hlen] at hi';omega)⟩
   ·cases own with
    | true =>
     intro b hb'
     rw [ho]
     rcases List.mem_cons.1 hb' with rfl | hb'
     ·simp
     ·obtain ⟨i,hi',hb'⟩:=List.mem_flatMap.1 hb'
      exact List.mem_cons_of_mem _ (List.mem_flatMap.2 ⟨lo+i,List.mem_range.2 (by have:=List.mem_range.1 hi';omega),hb'⟩)
    | false=>intro b hb';cases hb'
   ·cases own with
    | false=>simp
    | true =>
     intro hnd
     rw [ho] at hnd
     obtain ⟨h1',h2'⟩:=List.nodup_cons.1 hnd
     refine List.nodup_cons.2 ⟨fun hm => ?_, ?_⟩
     ·obtain ⟨i,hi',hb'⟩:=List.mem_flatMap.1 hm
      exact h1' (List.mem_flatMap.2 ⟨lo+i,List.mem_range.2 (by have:=List.mem_range.1 hi';omega),hb'⟩)
     ·have e:(List.range (hi - lo)).flatMap (fun i=>os (lo+i))=((List.range (hi - lo)).map (lo + ·)).flatMap os:=by
       simp [List.flatMap_map]
      rw [e, ← List.range'_eq_map_range]
      rw [List.range_eq_range'] at h2'
      have:List.range' 0 xs.length=List.range' 0 lo++(List.range' lo (hi - lo)++List.range' hi (xs.length - hi)):=by
       have e1:=List.range'_append_1 (s:=lo) (m:=hi - lo) (n:=xs.length - hi)
       have e2:=List.range'_append_1 (s:=0) (m:=lo) (n:=xs.length - lo)
       rw [show lo+(hi - lo)=hi by omega] at e1
       rw [e1,show hi - lo+(xs.length - hi)=xs.length - lo by omega]
       rw [Nat.zero_add] at e2
       rw [e2];congr 1;omega
      rw [this,List.flatMap_append,List.flatMap_append] at h2'
      exact (List.nodup_append.1 (List.nodup_append.1 h2').2.1).1
end
end Go.Ev
namespace Go.Ev
set_option linter.unusedVariables false
set_option linter.unusedSimpArgs false
def Seen (W:Wd) (rs:List Nat) (b:Nat):Prop:=W.fz b∨∃ r∈rs,∃ j,b∈W.om (.lf r j)
theorem GG:∀ (ls:Ls) {d:Nat} {w:World} {fz:Nat→Prop} {g:Nat→Option Value} {x:ls.D} {o:List Nat},
  ls.rd d w fz g x o→∀ (j:Nat) (lv:Lv),(unpack ls x)[j]? = some lv→∃ u o',g j=some u∧lv.l.rd d w fz u lv.x o'∧∀ b∈o',b∈o
 | .nil,_,_,_,_,_,_,_,j,lv,hj=>by simp [unpack] at hj
 | .one l,d,w,fz,g,x,o,h,j,lv,hj=>by
  simp only [Ls.rd] at h
  obtain ⟨v,hg,h⟩:=h
  cases j with
  | zero=>simp [unpack] at hj;subst hj;exact ⟨v,o,hg,h,fun b hb=>hb⟩
  | succ j=>simp [unpack] at hj
 | .cons l ls,d,w,fz,g,x,o,h,j,lv,hj=>by
  simp only [Ls.rd] at h
  obtain ⟨v,o1,o2,hg,h1,h2,rfl⟩:=h
  cases j with
  | zero=>simp [unpack] at hj;subst hj;exact ⟨v,o1,hg,h1,fun b hb=>List.mem_append_left _ hb⟩
  | succ j =>
   simp only [unpack,List.getElem?_cons_succ] at hj
   obtain ⟨u,o',a,b,c⟩:=GG ls h2 j lv hj
   exact ⟨u,o',a,b,fun x hx=>List.mem_append_right _ (c x hx)⟩
theorem Bi:∀ (ls:Ls) {w:World} {fz:Nat→Prop} {g:Nat→Option Value} {x:ls.D},
  (∀ (j:Nat) (lv:Lv),(unpack ls x)[j]? = some lv→∃ u,g j=some u∧lv.l.rd 0 w fz u lv.x [])→ls.rd 0 w fz g x []
 | .nil,_,_,_,_,_=>by simp only [Ls.rd]
 | .one l,w,fz,g,x,h=>by
  simp only [Ls.rd]
  exact h 0 ⟨l,x⟩ rfl
 | .cons l ls,w,fz,g,x,h=>by
  simp only [Ls.rd]
  obtain ⟨u,hu,hr⟩:=h 0 ⟨l,x.1⟩ rfl
  exact ⟨u,[],[],hu,hr,Bi ls fun j lv hj=>h (j+1) lv (by simpa [unpack] using hj),rfl⟩
theorem Bz {e:Ls} {d:Nat} {w:World} {fz:Nat→Prop}:AD e d w fz (.slice none 0 0) ([]:List e.D) []:=⟨none,0,rfl,Nat.le_refl _,rfl,rfl⟩
section
variable {P:Program} {E:Cq} {s:St} {tm:Array Value} {W:Wd} {o:Oper} {a:Act} {β:Type} {t:β}
theorem Seen.mono {rs rs':List Nat} (h:∀ r∈rs,r∈rs') {b:Nat} (hb:Seen W rs b):Seen W rs' b:=hb.imp id fun ⟨r,hr,x⟩=>⟨r,h r hr,x⟩
theorem EN (h:AW E s tm W) {c:Loc} {lo hi:Nat} {v:Value} (hv:AR s W (.D7 c lo hi) v) {k:(t:TypeId)→(e:Ls)→List e.D→Nat→Step β} (hl:(s.content c k).leads t) :
  ∃ (t':TypeId) (e':Ls) (ys:List e'.D) (d':Nat) (o':List Nat),(k t' e' ys d').leads t∧AD e' d' W.w W.fz v (sub ys lo hi) o'∧(∀ b∈o',b∈W.om (.lf c.r c.j)):=by
 obtain ⟨t0,e0,xs0,d0,gen,hleaf,hp,hk⟩:=CZ h hl
 obtain ⟨u,e',A,n,k',hu,hn,h1,h2,rfl⟩:=hv gen t0 e0 xs0 d0 hleaf hp
 obtain ⟨t',ys,d',o',a,b,c'⟩:=hk u e' _ hu hn
 obtain ⟨o2,q1,q2,_⟩:=CK.sub b h1 h2
 exact ⟨t',e',ys,d',o2,a,q1,fun b hb=>c' b (q2 b hb)⟩
theorem Bl (h:AW E s tm W) {l:L} {la:LA} {v:Value} (hv:AR s W la v) {k:l.D→Step β} (hl:(s.Aw l la k).leads t) :
  ∃ x,(k x).leads t∧l.rd 0 W.w (Seen W la.roots) v x []:=by
 unfold St.Aw at hl
 cases la with
 | sc m x =>
  simp only at hl
  split at hl
  ·rename_i y hy
   obtain ⟨e,he⟩:=L.AI hy
   subst e;subst he
   exact ⟨x,hl,L.AJ m hv (fun b hb=>rfl) fun b hb => .inl hb⟩
  ·exact hl.elim
 | DC =>
  cases l with
  | sl t' e=>exact ⟨_,hl,by rw [show v = .slice none 0 0 from hv];exact Bz⟩
  | _=>exact hl.elim
 | ref c =>
  obtain ⟨t',e',ys,d',o',hl,hr,ho⟩:=DG h hv hl
  split at hl
  ·rename_i y hy
   obtain ⟨e,he⟩:=L.AI hy
   subst e;subst he
   exact ⟨ys,hl,hr.freeze fun b hb=>hb.elim .inl fun hb => .inr ⟨c.r,by simp [LA.roots],c.j,ho b hb⟩⟩
  ·exact hl.elim
 | D7 c lo hi =>
  obtain ⟨t',e',ys,d',o',hl,hr,ho⟩:=EN h hv hl
  split at hl
  ·rename_i y hy
   obtain ⟨e,he⟩:=L.AI hy
   subst e;subst he
   exact ⟨_,hl,hr.freeze fun b hb=>hb.elim .inl fun hb => .inr ⟨c.r,by simp [LA.roots],c.j,ho b hb⟩⟩
  ·exact hl.elim
 | _=>exact hl.elim
theorem Ek (h:AW E s tm W):∀ {ls:List L} {as:List LA} {g:Nat→Option Value} {k:List Lv→Step β},(∀ (j:Nat) (b:LA),as[j]? = some b→∃ u,g j=some u∧AR s W b u)→(s.data ls as k).leads t →
  ∃ vs:List Lv,(k vs).leads t∧vs.length=as.length∧vs.map (·.l)=ls∧∀ (j:Nat) (lv:Lv),vs[j]? = some lv→∃ u,g j=some u∧lv.l.rd 0 W.w (Seen W (as.flatMap LA.roots)) u lv.x []
 | [],[],g,k,hg,hl=>⟨[],hl,rfl,rfl,fun j lv hj=>by simp at hj⟩
 | [],_::_,g,k,hg,hl=>hl.elim
 | _::_,[],g,k,hg,hl=>hl.elim
 | l::ls,b::as,g,k,hg,hl=>by
  obtain ⟨u,hu,hb⟩:=hg 0 b rfl
  obtain ⟨x,hl,hx⟩:=Bl h hb hl
  obtain ⟨vs,hl,hn,hm,hvs⟩:=Ek h (g:=fun j=>g (j+1)) (fun j b hj=>hg (j+1) b (by simpa using hj)) hl
  refine ⟨⟨l,x⟩::vs,hl,by simp [hn],by simp [hm],fun j lv hj => ?_⟩
  cases j with
  | zero =>
   simp at hj;subst hj
   exact ⟨u,hu,L.AJ l hx (fun _ _=>rfl) fun b hb=>Seen.mono (fun r hr=>by simp [hr]) hb⟩
  | succ j =>
   obtain ⟨u',hu',hr⟩:=hvs j lv (by simpa using hj)
   refine ⟨u',hu',L.AJ lv.l hr (fun _ _=>rfl) fun b hb=>Seen.mono (fun r hr => ?_) hb⟩
   simp only [List.flatMap_cons,List.mem_append];exact .inr hr
theorem Cr (r:Nat):∀ (as:List LA) (j i:Nat),(Az r j as)[i]? = (as[i]?).map (seen r (j+i))
 | [],j,i=>by simp [Az]
 | b::as,j,0=>by simp [Az]
 | b::as,j,i+1=>by simp only [Az,List.getElem?_cons_succ];rw [Cr r as (j+1) i,show j+1+i=j+(i+1) by omega]
theorem JU (r:Nat):∀ (as:List LA) (j:Nat),(Az r j as).length=as.length
 | [],j=>rfl
 | b::as,j=>by simp [Az,JU r as (j+1)]
theorem E4 (r:Nat):∀ (as:List LA) (j i:Nat),(BO r j as)[i]? = (as[i]?).map (IF r (j+i))
 | [],j,i=>by simp [BO]
 | b::as,j,0=>by simp [BO]
 | b::as,j,i+1=>by simp only [BO,List.getElem?_cons_succ];rw [E4 r as (j+1) i,show j+1+i=j+(i+1) by omega]
theorem E5 (r:Nat):∀ (as:List LA) (j:Nat),(BO r j as).length=as.length
 | [],j=>rfl
 | b::as,j=>by simp [BO,E5 r as (j+1)]
theorem Ky (h:AW E s tm W) {r j:Nat} {b:LA} {v:Value} (hb:s.leaf r j=b) (hc:W.cv r j=some v):AR s W (seen r j b) v:=by
 have hr:=(h.roots r).1 j
 unfold St.leaf at hb
 rw [hb,hc] at hr
 cases b with
 | arr AA gen t' e xs d =>
  intro gen' t2 e2 xs2 d2 hl _
  have:s.leaf r j = .arr AA gen t' e xs d:=hb
  rw [this] at hl
  injection hl with h1 h2 h3 h4
  subst h4
  exact ⟨v,e,hc,rfl,rfl⟩
 | _=>exact hr.2 v rfl
theorem Mj (h:AW E s tm W) {r j:Nat} {b:LA} {v:Value} (hb:s.leaf r j=b) (hc:W.cv r j=some v):AR s W (IF r j b) v:=by
 have hs:=Ky h hb hc
 cases b with
 | arr AA gen t' e xs d =>
  cases d with
  | succ d=>exact hs
  | zero =>
   obtain ⟨u,hu,hrd⟩:=(h.roots r).row hb
   have:u=v:=Option.some.inj (hu.symm.trans hc)
   subst this
   show AD e 0 W.w W.fz u xs []
   have hz:=AD.zero hrd
   rw [hz] at hrd
   exact hrd
 | _=>exact hs
theorem EP (c:Loc) (i d:Nat):∀ (vs:List Lv) (off j:Nat),(Bp c i d off vs)[j]? = (vs[j]?).map fun v=>if Bw v.l&&decide (0<d) then LA.ref { c with p:=c.p++[(i,off+j)] } else .sc v.l v.x
 | [],off,j=>by simp [Bp]
 | v::vs,off,0=>by simp [Bp]
 | v::vs,off,j+1=>by simp only [Bp,List.getElem?_cons_succ];rw [EP c i d vs (off+1) j,show off+1+j=off+(j+1) by omega]
theorem J5 {w:World}:∀ (q:List (Nat×Nat)) {e:Ls} {h:Value} {e':Ls} {a:Addr} {n k:Nat} {i off:Nat} {t':TypeId} {f:Ls} {u:Value},
  JV w q e h e' (.slice (some a) n k)→a.spot=none→i<n→e'.kinds[off]? = some (.sl t' f)→w.cell? (at_ a (i * e'.n+off))=some u→JV w (q++[(i,off)]) e h f u
 | [],e,h,e',a,n,k,i,off,t',f,u,hn,hs,hi,hk,hc=>by
  obtain ⟨rfl,rfl⟩:=hn
  exact ⟨a,n,k,t',f,u,rfl,hs,hi,hk,hc,rfl,rfl⟩
 | (i0,j0)::q,e,h,e',a,n,k,i,off,t',f,u,hn,hs,hi,hk,hc=>by
  obtain ⟨a0,len,c0,t0,f0,h0,e0,s0,i1,k1,c1,hn⟩:=hn
  exact ⟨a0,len,c0,t0,f0,h0,e0,s0,i1,k1,c1,J5 q hn hs hi hk hc⟩
theorem D5:∀ (ls:Ls) (x:ls.D),(unpack ls x).map (·.l)=ls.kinds
 | .nil,_=>rfl
 | .one _,_=>rfl
 | .cons l ls,x=>by simp [unpack,Ls.kinds,D5 ls x.2]
theorem Fj (h:AW E s tm W) {la:LA} {v:Value} (hv:AR s W la v) {n:Nat} {k:List LA→Step β} (hl:(s.C7 la n k).leads t) :
  ∃ as:List LA,(k as).leads t∧as.length≤n∧∃ (b off:Nat),v = .pointer (some ⟨b,off,none⟩)∧∀ (j:Nat) (x:LA),as[j]? = some x→∃ u,W.w.cell? ⟨b,off+j,none⟩=some u∧AR s W x u:=by
 unfold St.C7 at hl
 cases la with
 | ptr r j AA =>
  simp only at hl
  split at hl
  ·rename_i hcond
   simp only [Bool.and_eq_true,beq_iff_eq,decide_eq_true_eq] at hcond
   obtain ⟨⟨hb,hver⟩,hlen⟩:=hcond
   refine ⟨_,hl,by rw [E5];simp;omega,W.bk r,j,hv hb hver,fun i x hx => ?_⟩
   rw [E4] at hx
   obtain ⟨_,hbox⟩:=h.roots r
   rw [if_pos hb] at hbox
   obtain ⟨_,arr,T,fr,hh,_,hsz,hcv⟩:=hbox
   cases hy:((s.root r).ls.drop j |>.take n)[i]? with
   | none=>rw [hy] at hx;cases hx
   | some y =>
    rw [hy] at hx;injection hx with hx;subst hx
    have hi:i<n∧(s.root r).ls[j+i]? = some y:=by
     rw [List.getElem?_take] at hy
     split at hy
     ·rename_i hi;rw [List.getElem?_drop] at hy;exact ⟨hi,hy⟩
     ·cases hy
    have hlt:j+i<(s.root r).ls.length:=(List.getElem?_eq_some_iff.1 hi.2).1
    have hleaf:s.leaf r (j+i)=y:=by unfold St.leaf;rw [Ah,hi.2];rfl
    have hcell:W.cv r (j+i)=some (arr[j+i]'(by omega)):=by rw [hcv];exact Array.getElem?_eq_getElem _
    refine ⟨arr[j+i]'(by omega), ?_,Mj h hleaf hcell⟩
    rw [← hcell,hcv]
    simp [World.cell?,hh]
  ·exact hl.elim
 | D1 e x off =>
  obtain ⟨a,g,arr,T,fr,hv,hz,hh,hg,hrd⟩:=hv
  refine ⟨_,hl,by simp;omega,a.block,a.off+off,hv,fun i y hy => ?_⟩
  simp only [List.getElem?_map] at hy
  cases hq:(((unpack e x).drop off).take n)[i]? with
  | none=>rw [hq] at hy;cases hy
  | some lv =>
   rw [hq] at hy;injection hy with hy;subst hy
   have hi:(unpack e x)[off+i]? = some lv:=by
    rw [List.getElem?_take] at hq
    split at hq
    ·rw [List.getElem?_drop] at hq;exact hq
    ·cases hq
   obtain ⟨u,o',hu,hr,ho⟩:=GG e hrd _ lv hi
   have:o'=[]:=L.Bn lv.l hr
   subst this
   refine ⟨u, ?_,hr⟩
   rw [hg] at hu
   simp only [World.cell?,hh]
   rw [show a.off+off+i=a.off+(off+i) by omega]
   simpa using hu
 | Bm c =>
  simp only at hl
  split at hl
  ·exact hl.elim
  ·rename_i q i off hq
   obtain ⟨t0,e0,xs0,d0,gen,hleaf,hp,hk⟩:=CZ h hl
   dsimp only at hleaf hp hk
   have hpl:c.p.length≤1∨gen=c.gen:=by
    rcases hp with hp | hp
    ·left;rw [Ci hq,hp];simp
    ·exact .inr hp
   obtain ⟨q',i',off',u,e',a,n',k',hq',hu,hn,hs,hi,rfl⟩:=hv gen t0 e0 xs0 d0 hleaf hpl
   rw [hq] at hq'
   injection hq' with hq'
   injection hq' with q1 q2
   injection q2 with q2 q3
   subst q1;subst q2;subst q3
   obtain ⟨t',ys,d',o',hl,hr,ho⟩:=hk u e' _ hu hn
   obtain ⟨x,hx,hl⟩:=hl
   obtain ⟨A,c',hv,hle,hr⟩:=hr
   injection hv with hA hlen hcap
   subst hA
   have hi':i<ys.length:=hlen ▸ hi
   rcases hr with hr | ⟨g,os,hrow,hel,hos⟩
   ·have:=hr.2.1;omega
   rw [List.getElem?_eq_getElem hi'] at hx
   injection hx with hx;subst hx
   refine ⟨_,hl, ?_,a.block,a.off+(i * e'.n+off),rfl,fun j y hy => ?_⟩
   ·have:∀ (vs:List Lv) (off:Nat),(Bp { c with p:=q,gen:=s.Ju c.r c.j } i (dec d') off vs).length=vs.length:=by
     intro vs;induction vs with
     | nil=>intro _;rfl
     | cons v vs ih=>intro off;simp [Bp,ih]
    rw [this];simp;omega
   ·rw [EP] at hy
    cases hz:(((unpack e' ys[i]).drop off).take n)[j]? with
    | none=>rw [hz] at hy;cases hy
    | some lv =>
     rw [hz] at hy;injection hy with hy
     have hj:(unpack e' ys[i])[off+j]? = some lv:=by
      rw [List.getElem?_take] at hz
      split at hz
      ·rw [List.getElem?_drop] at hz;exact hz
      ·cases hz
     obtain ⟨w1,o1,hw1,hr1,ho1⟩:=GG e' (hel i hi') _ lv hj
     have hcell:W.w.cell? (at_ a (i * e'.n+(off+j)))=some w1:=by rw [hrow.cell];exact hw1
     refine ⟨w1,by rw [show a.off+(i * e'.n+off)+j=a.off+(i * e'.n+(off+j)) by omega];exact hcell, ?_⟩
     subst hy
     dsimp only
     split
     ·rename_i hsl
      simp only [Bool.and_eq_true,decide_eq_true_eq] at hsl
      obtain ⟨ll,lx⟩:=lv
      cases ll with
      | sl t2 f =>
       intro gen2 t3 e3 xs3 d3 hl3 hp3
       dsimp only at hl3 hp3
       rw [hleaf] at hl3
       injection hl3 with z1 z2 z3 z4
       subst z4
       refine ⟨u,f,hu, ?_⟩
       have hkd:e'.kinds[off+j]? = some (.sl t2 f):=by
        rw [← D5 e' ys[i],List.getElem?_map,hj];rfl
       exact J5 q hn hs hi hkd hcell
      | _=>simp [Bw] at hsl
     ·rename_i hsl
      have hzero:lv.l.rd 0 W.w W.fz w1 lv.x []:=by
       obtain ⟨ll,lx⟩:=lv
       cases ll with
       | sl t2 f =>
        have hd:dec d'=0:=by
         simp [Bw] at hsl;exact hsl
        rw [hd] at hr1
        have:o1=[]:=L.Bn _ hr1
        subst this;exact hr1
       | int k=>exact ⟨hr1.1,rfl⟩
       | bool=>exact ⟨hr1.1,rfl⟩
       | str=>exact ⟨hr1.1,rfl⟩
      exact hzero
 | _=>exact hl.elim
end
end Go.Ev
namespace Go.Ev
set_option linter.unusedVariables false
set_option linter.unusedSimpArgs false
def OY (dst:Option Nat) (x:AV):List Wr:=match dst with
 | some d=>[.slot d x]
 | none=>[]
theorem AN {dst:Option Nat} {x:AV} {ws:List Wr} (h:(match dst with | some d=>Step.go [Wr.slot d x] | none=>Step.go []).leads ws):ws=OY dst x:=by
 cases dst <;> exact h.symm
section
variable {P:Program} {E:Cq} {s:St} {W:Wd} {o:Oper} {a:Act} {ws:List Wr} {cx:Cx} {v:Nat} {β:Type}
theorem AT (h:AW E s a.tmps W) {u:Value} {x:AV} (hrun:(execOp a.eval o).run P W.w = .ok (.value u) W.w) (hx:BY s W x u):Bc P E o a W.w (s.app (OY o.dst x)):=Hm h hrun hx
theorem LK {l:L} {la lb:LA} {u w:Value} {q:Bool} (ha:AR s W la u) (hb:AR s W lb w) (h:OB l la lb=some q) {t:TypeId} (ht:I3 P t l) (d:Nat) (w0:World):(Op.equalIn (d+1) t u w).run P w0 = .ok q w0:=by
 unfold OB at h
 cases l with
 | int k =>
  simp only at h
  split at h
  ·rename_i i x j y
   split at h
   ·rename_i hc
    simp only [Bool.and_eq_true] at hc
    obtain rfl:=IntKind.HZ hc.1
    obtain rfl:=IntKind.HZ hc.2
    injection h with h
    rw [show u = .int j x from ha.1,show w = .int j y from hb.1,run_equalIn_int w0 d t j j x y ht]
    subst h;rfl
   ·cases h
  ·cases h
 | bool =>
  simp only at h
  split at h
  ·rename_i x y
   injection h with h
   rw [show u = .bool x from ha.1,show w = .bool y from hb.1,run_equalIn_bool' w0 d t x y ht]
   subst h;rfl
  ·cases h
 | str =>
  simp only at h
  split at h
  ·rename_i x y
   injection h with h
   rw [show u = .string ⟨(show List UInt8 from x).toArray⟩ from ha.1,show w = .string ⟨(show List UInt8 from y).toArray⟩ from hb.1,run_equalIn_string w0 d t _ _ ht]
   have tl:∀ l:List UInt8,(⟨l.toArray⟩:ByteArray).toList=l:=fun l=>by simp
   subst h
   rw [tl,tl]
  ·cases h
 | sl t' e=>cases h
theorem Ir {t:TypeId} {l:L} (h:I3 P t l) (cs:Array Value) (n:Nat) (x:Value) (hx:cs[n]? = some x) (w:World):(part t cs n).run P w = .ok x w:=by
 unfold part
 rw [Sem.run_bind]
 have hagg:(isAgg t).run P w = .ok false w:=by
  unfold isAgg
  rw [Sem.run_bind]
  cases l with
  | int k=>rw [run_underlying (show P.underlying t=some (.int k) from h)];rfl
  | bool=>rw [run_underlying (show P.underlying t=some .bool from h)];rfl
  | str=>rw [run_underlying (show P.underlying t=some .string from h)];rfl
  | sl t' e=>exact h.elim
 rw [hagg]
 simp [hx]
theorem GV {d:Nat} {xs ys:Array Value} {w0:World}:∀ (fs:List Field) (ls:List L) (as bs:List LA) (n:Nat) (q:Bool),Gs P n fs ls→FV ls as bs=some q →
  (∀ (j:Nat) (b:LA),as[j]? = some b→∃ u,xs[n+j]? = some u∧AR s W b u)→(∀ (j:Nat) (b:LA),bs[j]? = some b→∃ u,ys[n+j]? = some u∧AR s W b u) →
  (Op.eqFields (d+1) xs ys fs).run P w0 = .ok q w0
 | [],[],[],[],n,q,hf,hq,h1,h2=>by
  simp only [FV,Option.some.injEq] at hq
  subst hq;rfl
 | f::fs,l::ls,a::as,b::bs,n,q,hf,hq,h1,h2=>by
  obtain ⟨f1,f2,f3,f4⟩:=hf
  simp only [FV] at hq
  split at hq
  ·rename_i p r hp hr
   injection hq with hq;subst hq
   obtain ⟨u,hu,hua⟩:=h1 0 a rfl
   obtain ⟨v,hv,hvb⟩:=h2 0 b rfl
   have ih:=GV (d:=d) (xs:=xs) (ys:=ys) (w0:=w0) fs ls as bs (n+1) r f4 hr (fun j b hj=>by rw [show n+1+j=n+(j+1) by omega];exact h1 (j+1) b (by simpa using hj)) (fun j b hj=>by rw [show n+1+j=n+(j+1) by omega];exact h2 (j+1) b (by simpa using hj))
   simp only [Op.eqFields]
   rw [if_pos f1,f2,Sem.run_bind,Ir f3 xs n u (by simpa using hu)]
   simp only [Result.andThen_ok]
   rw [Sem.run_bind,Ir f3 ys n v (by simpa using hv)]
   simp only [Result.andThen_ok]
   rw [Sem.run_bind,LK hua hvb hp f3 d w0]
   simp only [Result.andThen_ok]
   cases p with
   | true=>simpa using ih
   | false=>simp
  ·cases hq
 | [],[],[],_::_,n,q,hf,hq,h1,h2=>by simp [FV] at hq
 | [],[],_::_,_,n,q,hf,hq,h1,h2=>by simp [FV] at hq
 | f::fs,l::ls,[],_,n,q,hf,hq,h1,h2=>by simp [FV] at hq
 | f::fs,l::ls,_::_,[],n,q,hf,hq,h1,h2=>by simp [FV] at hq
 | [],_::_,as,bs,n,q,hf,hq,h1,h2=>hf.elim
 | _::_,[],as,bs,n,q,hf,hq,h1,h2=>hf.elim
theorem Ly (hc:Dg P cx) {op:BinOp} {tx:TypeId} {x y:Operand} {as bs:List LA} {u w:Value} (hu:Ex s W true as u) (hw:Ex s W true bs w) {k:AV→Step β} {t:β} (hl:(Lx cx op tx as bs k).leads t) (w0:World) :
  ∃ z r,(k z).leads t∧BY s W z r∧(do eqGuard op tx x y u w;binOp op tx u w:Sem Value).run P w0 = .ok r w0:=by
 unfold Lx at hl
 split at hl
 ·rename_i ty hty
  split at hl
  ·rename_i heq
   split at hl
   ·rename_i q hq
    obtain ⟨cs,rfl,_,h1⟩:=hu
    obtain ⟨ds,rfl,_,h2⟩:=hw
    obtain ⟨e1,e2,fs,e3,e4⟩:=(hc tx ty hty).eqs heq
    have hfs:P.fieldsOf tx=fs:=by unfold Program.fieldsOf;rw [e3]
    have hrun:(Op.equalIn 10000 tx (.agg cs) (.agg ds)).run P w0 = .ok q w0:=by
     rw [run_equalIn_struct w0 9999 tx cs ds (by rw [hfs];exact e3) e1,hfs]
     exact GV (d:=9998) _ _ _ _ 0 q e4 hq (fun j b hj=>by rw [Nat.zero_add];exact h1 j b hj) (fun j b hj=>by rw [Nat.zero_add];exact h2 j b hj)
    split at hl
    ·refine ⟨_,_,hl,Co _, ?_⟩
     rw [Sem.run_bind,run_eqGuard_agg w0 _ tx x y cs ds e2]
     simp only [Result.andThen_ok]
     rw [run_eql_struct,hrun];rfl
    ·refine ⟨_,_,hl,Co _, ?_⟩
     rw [Sem.run_bind,run_eqGuard_agg w0 _ tx x y cs ds e2]
     simp only [Result.andThen_ok]
     rw [run_neq_struct,hrun];rfl
    ·exact hl.elim
   ·exact hl.elim
  ·exact hl.elim
 ·exact hl.elim
theorem MT (hc:Dg P cx) (h:AW E s a.tmps W) {op:BinOp} {tx ty:TypeId} {x y:Operand} (ho:o.op = .binOp op tx x y ty) (hl:(AB cx v o s).leads ws):Bc P E o a W.w (s.app ws):=by
 simp only [AB,ho] at hl
 have key:∃ z r,(match o.dst with | some d=>Step.go [Wr.slot d z] | none=>Step.go []).leads ws∧BY s W z r∧(do eqGuard op tx x y (a.eval x) (a.eval y);binOp op tx (a.eval x) (a.eval y):Sem Value).run P W.w = .ok r W.w:=by
  split at hl
  ·rename_i as bs h1 h2
   exact Ly hc (by have:=BG h x;rw [h1] at this;exact this) (by have:=BG h y;rw [h2] at this;exact this) hl W.w
  ·exact L8 (x:=x) hc h hl
 obtain ⟨z,r,hl,hz,hr⟩:=key
 rw [AN hl]
 refine AT h ?_ hz
 simp only [execOp,ho]
 rw [Sem.run_bind,hr];rfl
theorem NQ (h:AW E s a.tmps W) {op:UnOp} {tx:TypeId} {x:Operand} (ho:o.op = .unOp op tx x) (hl:(AB cx v o s).leads ws):Bc P E o a W.w (s.app ws):=by
 simp only [AB,ho] at hl
 have h1:=Ad h x
 revert hl h1
 generalize s.Ai x=p
 intro hl h1
 split at hl
 ·rw [AN hl]
  rename_i b
  refine AT h (u := .bool (!b)) ?_ (Co _)
  simp [execOp,ho,show a.eval x = .bool b from h1.1,Op.unary]
 ·rename_i k n
  rw [AN hl]
  refine AT h (u := .int k (k.wrap (N1 n))) ?_ (Bj _ _)
  simp [execOp,ho,show a.eval x = .int k n from h1.1,Op.unary,Op.intArith,N1]
 ·exact hl.elim
theorem Cg {t:TypeId} {ty:Ty} (hc:Dg P cx) (ht:cx.ty t=some ty) {l:L} (hl:ty.ls = .one l) (hg:ty.agg=false):GK P t l:=by
 obtain ⟨l',h1,h2⟩:=(hc t ty ht).lone hg
 rw [hl] at h1;injection h1 with h1;subst h1;exact h2
theorem NP (h:AW E s a.tmps W) {x y z:Operand} (ho:o.op = .pick x y z) (hl:(AB cx v o s).leads ws):Bc P E o a W.w (s.app ws):=by
 simp only [AB,ho] at hl
 have h1:=Ad h x
 revert hl h1
 generalize s.Ai x=p
 intro hl h1
 split at hl
 ·rename_i t
  rcases Ag hl with ⟨ht,hl⟩ | ⟨ht,hl⟩
  ·rw [AN hl]
   refine AT h (u:=a.eval y) ?_ (BG h y)
   simp [execOp,ho,show a.eval x = .bool t from h1.1,asBool,show t=true from ht]
  ·rw [AN hl]
   refine AT h (u:=a.eval z) ?_ (BG h z)
   simp [execOp,ho,show a.eval x = .bool t from h1.1,asBool,show t=false from ht]
 ·exact hl.elim
theorem G9 {la:LA} {u:Value} (hv:AR s W la u) (ha:s.alive la=true):∃ ad,u = .pointer (some ad):=by
 unfold St.alive at ha
 cases la with
 | ptr r j AA =>
  simp only [Bool.and_eq_true,beq_iff_eq] at ha
  exact ⟨_,hv ha.1 ha.2⟩
 | Bm c =>
  simp only at ha
  split at ha
  ·rename_i AA gen t e xs d hl
   simp only [Bool.and_eq_true,beq_iff_eq,Bool.or_eq_true,decide_eq_true_eq] at ha
   obtain ⟨rfl,hg⟩:=ha
   obtain ⟨q,i,off,h',e',ad,n,k,_,_,_,_,_,hu⟩:=hv gen t e xs d hl hg
   exact ⟨_,hu⟩
  ·cases ha
 | D1 e x off=>obtain ⟨ad,g,arr,T,fr,hu,_⟩:=hv;exact ⟨_,hu⟩
 | _=>cases ha
theorem KR {a:AV} {v:Value} (h:BY s W a v):AR s W a.one? v:=by
 cases a with
 | De vs=>trivial
 | bx as=>trivial
 | v g as =>
  cases g with
  | true=>trivial
  | false=>cases as with
   | nil=>trivial
   | cons b bs=>cases bs with
    | nil=>exact h
    | cons=>trivial
theorem LR {tm:Array Value} (h:AW E s tm W) {la:AV} {v:Value} (hv:BY s W la v) {n:Nat} {β:Type} {t:β} {k:List LA→Step β} (hl:(s.FI la n k).leads t) :
  ∃ as:List LA,(k as).leads t∧as.length≤n∧∃ (b off:Nat),v = .pointer (some ⟨b,off,none⟩)∧∀ (j:Nat) (x:LA),as[j]? = some x→∃ u,W.w.cell? ⟨b,off+j,none⟩=some u∧AR s W x u:=by
 cases la with
 | v g as=>exact Fj h (KR hv) hl
 | De vs=>exact Fj h (KR hv) hl
 | bx as =>
  simp only [St.FI] at hl
  split at hl
  ·rename_i hlen
   obtain ⟨b,off,arr,T,fr,hp,hz,hh,hfr,hget⟩:=hv
   refine ⟨_,hl,by rw [List.length_take];omega,b,off,hp,fun j x hx => ?_⟩
   have hx':as[j]? = some x:=by
    rw [List.getElem?_take] at hx
    split at hx
    ·exact hx
    ·cases hx
   obtain ⟨u,hu,hok⟩:=hget j x hx'
   exact ⟨u,by simp [World.cell?,hh,hu],hok⟩
  ·exact hl.elim
theorem J9 (h:AW E s a.tmps W) {x:Operand} (ho:o.op = .nilCheck x) (hl:(AB cx v o s).leads ws):Bc P E o a W.w (s.app ws):=by
 simp only [AB,ho] at hl
 have h1:=BG h x
 have hone:∀ p:AV,BY s W p (a.eval x)→(if s.alive p.one? then (match o.dst with | some d=>(.go [.slot d (one p.one?)]:Step (List Wr)) | none => .go []) else .none).leads ws→Bc P E o a W.w (s.app ws):=by
  intro p h1 hl
  have h1:=KR h1
  split at hl
  ·rename_i hal
   obtain ⟨ad,hp⟩:=G9 h1 hal
   rw [AN hl]
   exact AT h (u:=a.eval x) (by simp [execOp,ho,hp]) h1
  ·exact hl.elim
 generalize s.Ap x=p at hl h1
 cases p with
 | bx as =>
  have h2:=h1
  obtain ⟨b,off,arr,T,fr,hp,_⟩:=h1
  rw [AN hl]
  exact AT h (u:=a.eval x) (by simp [execOp,ho,hp]) h2
 | v g as=>exact hone _ h1 hl
 | De vs=>exact hone _ h1 hl
theorem EK {la:LA} {u:Value} (hv:AR s W la u) {β:Type} {k:Int→Step β} {t:β} (hl:(asInt la k).leads t):∃ j n,u = .int j n∧(k n).leads t:=by
 unfold asInt at hl
 cases la with
 | sc l x=>cases l with
  | int j=>exact ⟨j,x,hv.1,hl⟩
  | _=>exact hl.elim
 | _=>exact hl.elim
theorem NG {la:LA} {u:Value} (hv:AR s W la u) {β:Type} {k:Int→Step β} {t:β} (hl:(Ny la k).leads t):∃ (n:Int) (b:ByteArray),(k n).leads t∧u = .string b∧n=b.size:=by
 unfold Ny at hl
 cases la with
 | sc l x=>cases l with
  | str=>exact ⟨_,_,hl,hv.1,rfl⟩
  | _=>exact hl.elim
 | _=>exact hl.elim
theorem MG (h:AW E s a.tmps W) {la:LA} {u:Value} (hv:AR s W la u) {β:Type} {k:Int→Step β} {t:β} (hl:(lenOf s la k).leads t) :
  ∃ n:Int,(k n).leads t∧∃ A len c,u = .slice A len c∧n=(len:Int):=by
 unfold lenOf at hl
 cases la with
 | sc l x=>cases l with
  | sl t e =>
   obtain ⟨A,c,hu,_⟩:=AD.len (show AD e 0 W.w W.fz u x [] from hv)
   exact ⟨_,hl,A,_,c,hu,rfl⟩
  | _=>exact hl.elim
 | DC=>exact ⟨_,hl,none,0,0,hv,rfl⟩
 | ref c =>
  obtain ⟨t',e',ys,d',o',hl,hr,ho⟩:=DG h hv hl
  obtain ⟨A,c,hu,_⟩:=hr.len
  exact ⟨_,hl,A,_,c,hu,rfl⟩
 | D7 c lo hi =>
  obtain ⟨t',e',ys,d',o',hl,hr,ho⟩:=EN h hv hl
  obtain ⟨A,c,hu,_⟩:=hr.len
  exact ⟨_,hl,A,_,c,hu,rfl⟩
 | _=>exact hl.elim
theorem NN (hc:Dg P cx) (h:AW E s a.tmps W) {t:TypeId} {x:Operand} (ho:o.op = .load t x) (hl:(AB cx v o s).leads ws):Bc P E o a W.w (s.app ws):=by
 simp only [AB,ho] at hl
 split at hl
 ·rename_i ty ht
  have hty:=hc t ty ht
  obtain ⟨as,hl,_,b,off,hx,hget⟩:=LR h (BG h x) hl
  split at hl
  ·rename_i hlen
   have hlen:as.length=ty.ls.n:=by simpa using hlen
   rw [AN hl]
   cases hag:ty.agg with
   | false =>
    obtain ⟨l,hls,hlo⟩:=hty.lone hag
    rw [hls] at hlen
    obtain ⟨y,rfl⟩:∃ y,as=[y]:=by
     match as,hlen with
     | [y],_=>exact ⟨y,rfl⟩
    obtain ⟨u,hu,hy⟩:=hget 0 y rfl
    obtain ⟨d,hd,hnd⟩:=hlo.JI
    refine AT h (u:=u) ?_ (show BY s W (.v false [y]) u from hy)
    have hagg:(isAgg t).run P W.w = .ok false W.w:=by
     unfold isAgg
     rw [Sem.run_bind,run_underlying hd]
     cases d <;> simp_all
    simp only [Nat.add_zero] at hu
    simp [execOp,ho,Instr.loadAt,hx,Instr.sureAddr,loadVar,hagg,load,Sem.run,hu]
   | true =>
    obtain ⟨fs,hfs,_⟩:=hty.agg hag
    obtain ⟨i,hi,hsz,_⟩:=hty.info
    let f:Nat→Value:=fun j=>(W.w.cell? ⟨b,off+j,none⟩).getD Go.undef
    let cs:List Value:=(List.range as.length).map f
    have hcs:∀ j u,cs[j]? = some u→W.w.cell? ⟨b,off+j,none⟩=some u:=by
     intro j u hj
     simp only [cs,List.getElem?_map] at hj
     by_cases hlt:j<as.length
     ·rw [List.getElem?_range hlt] at hj
      simp at hj
      obtain ⟨u',hu',_⟩:=hget j as[j] (List.getElem?_eq_getElem hlt)
      rw [← hj];simp [f,hu']
     ·rw [List.getElem?_eq_none (by simp;omega)] at hj;cases hj
    have hrun:=run_loadVar_mid (P:=P) W.w b off t cs (.struct fs) (fun j u hj=>hcs j u hj) hfs rfl (by simp [hi,hsz,cs,hlen])
    refine AT h (u := .agg cs.toArray) ?_ ?_
    ·simp [execOp,ho,Instr.loadAt,hx,Instr.sureAddr,hrun]
    ·refine ⟨cs.toArray,rfl,by simp [cs],fun j y hy => ?_⟩
     obtain ⟨u,hu,hok⟩:=hget j y hy
     refine ⟨u, ?_,hok⟩
     have hlt:j<as.length:=(List.getElem?_eq_some_iff.1 hy).1
     simp [cs,f,hlt,hu]
  ·exact hl.elim
 ·exact hl.elim
theorem N4 (hc:Dg P cx) (h:AW E s a.tmps W) {c:Call} (ho:o.op = .call c) (hb:c.callee = .builtin .len) (hl:(AB cx v o s).leads ws):Bc P E o a W.w (s.app ws):=by
 simp only [AB,ho,hb] at hl
 split at hl
 ·rename_i x t hx ht
  split at hl
  ·rename_i ty hty
   split at hl
   ·exact hl.elim
   ·rename_i hag
    have hargs:c.args = #[x]:=by rw [← Array.toList_inj,hx]
    have hats:c.argTypes = #[t]:=by rw [← Array.toList_inj,ht]
    obtain ⟨cal,args,ats⟩:=c
    dsimp only at hb hargs hats
    subst hb;subst hargs;subst hats
    split at hl
    ·rename_i hls
     obtain ⟨n,b,hl,hu,rfl⟩:=NG (Ad h x) hl
     rw [AN hl]
     refine AT h (u := .int .i64 b.size) ?_ (Bj _ _)
     have hund:P.underlying t=some .string:=Cg hc hty hls (by simpa using hag)
     simp [execOp,ho,resolve,invoke,builtin,Builtin.len_,hu,run_underlying hund,goInt]
    ·rename_i t' e hls
     obtain ⟨n,hl,A,len,k,hu,rfl⟩:=MG h (Ad h x) hl
     rw [AN hl]
     refine AT h (u := .int .i64 len) ?_ (Bj _ _)
     have hund:=(Cg hc hty hls (by simpa using hag)).1
     simp [execOp,ho,resolve,invoke,builtin,Builtin.len_,hu,run_underlying hund,goInt]
    ·exact hl.elim
  ·exact hl.elim
 ·exact hl.elim
end
end Go.Ev
namespace Go.Ev
set_option linter.unusedVariables false
set_option linter.unusedSimpArgs false
theorem Fm {α:Type}:∀ (l:List α) (i:Nat),H0 l i=l[i]?
 | [],i=>by simp [H0]
 | x::xs,0=>by simp [H0]
 | x::xs,i+1=>by simp [H0,Fm xs i]
section
variable {P:Program} {E:Cq} {s:St} {W:Wd} {o:Oper} {a:Act} {ws:List Wr} {cx:Cx} {v:Nat}
theorem B4 (b off n:Nat):(⟨b,off,none⟩:Addr).add n=⟨b,off+n,none⟩:=by
 unfold Addr.add;split
 ·rename_i h;subst h;rfl
 ·rfl
theorem KQ (ad:Addr) (k n:Nat):(at_ ad k).add n=at_ ad (k+n):=by
 unfold at_;rw [B4];congr 1;omega
theorem Jm (hc:Dg P cx) {t:TypeId} {ty:Ty} (ht:cx.ty t=some ty) {f fo:Nat} {ft:TypeId} (hf:(if ty.agg=true then H0 ty.fs f else none)=some (fo,ft)) :
  ty.agg=true∧∃ (fs:Array Field) (fd:Field),P.underlying t=some (.struct fs)∧fs[f]? = some fd∧fd.offset=fo∧fd.type=ft:=by
 split at hf
 ·rename_i hag
  obtain ⟨fs,hu,hfs,_⟩:=(hc t ty ht).agg hag
  rw [Fm, ← hfs,List.getElem?_map] at hf
  cases hq:fs.toList[f]? with
  | none=>rw [hq] at hf;cases hf
  | some fd =>
   rw [hq] at hf;injection hf with hf;injection hf with h1 h2
   exact ⟨hag,fs,fd,hu,by simpa using hq,h1,h2⟩
 ·cases hf
theorem Kz (hc:Dg P cx) {t:TypeId} {ty:Ty} (ht:cx.ty t=some ty) (w:World):(sizeOf t).run P w = .ok ty.ls.n w:=by
 obtain ⟨i,hi,hs,_⟩:=(hc t ty ht).info
 simp [sizeOf,typeInfo,hi,hs]
theorem CT:∀ (q:List (Nat×Nat)) (i off:Nat),Aj (q++[(i,off)])=some (q,i,off)
 | [],i,off=>rfl
 | [x],i,off=>rfl
 | x::y::r,i,off=>by
  have:=CT (y::r) i off
  simp only [List.cons_append] at this ⊢
  simp only [Aj]
  rw [this]
theorem JK (hc:Dg P cx) (h:AW E s a.tmps W) {t:TypeId} {x:Operand} {f:Nat} (ho:o.op = .fieldAddr t x f) (hl:(AB cx v o s).leads ws) :
  Bc P E o a W.w (s.app ws):=by
 simp only [AB,ho] at hl
 split at hl
 ·rename_i ty ht
  split at hl
  ·rename_i fo ft hf
   obtain ⟨hag,fs,fd,hu,hfd,rfl,rfl⟩:=Jm hc ht hf
   split at hl
   ·rename_i tf htf
    split at hl
    ·exact hl.elim
    ·rename_i hne
     have hsz:=Kz hc htf W.w
     simp only [beq_iff_eq] at hne
     have h0:=BG h x
     have run:∀ ad:Addr,a.eval x = .pointer (some ad)→(execOp a.eval o).run P W.w = .ok (.value (.pointer (some (ad.add fd.offset)))) W.w:=by
      intro ad had
      simp [execOp,ho,Instr.fieldAt,run_underlying hu,hfd,had,Instr.sureAddr,fieldPlace,hsz,hne]
     have hone:∀ h1:AR s W (s.Ai x) (a.eval x),(∀ as,s.Ap x ≠ .bx as)→s.alive (s.Ai x)=true→(match s.Ai x with
       | .ptr r j AA=>(match o.dst with | some d=>(.go [.slot d (one (.ptr r (j+fd.offset) AA))]:Step (List Wr)) | none => .go [])
       | .D1 e y j=>(match o.dst with | some d=>(.go [.slot d (one (.D1 e y (j+fd.offset)))]:Step (List Wr)) | none => .go [])
       | .Bm c=>match Aj c.p with
        | some (q,i,off)=>(match o.dst with | some d=>(.go [.slot d (one (.Bm { c with p:=q++[(i,off+fd.offset)] }))]:Step (List Wr)) | none => .go [])
        | none => .none
       | _ => .none:Step (List Wr)).leads ws→Bc P E o a W.w (s.app ws):=by
      intro h1 hnb halive hl
      obtain ⟨ad,had⟩:=G9 h1 halive
      have run:=run ad had
      clear hnb
      generalize s.Ai x=p at hl h1 halive
      split at hl
      ·rename_i r j AA
       rw [AN hl]
       refine AT h run ?_
       intro hb hver
       have:=h1 hb hver
       rw [had] at this
       injection this with this;injection this with this
       subst this
       rw [B4]
      ·rename_i e y j
       rw [AN hl]
       refine AT h run ?_
       obtain ⟨ad',g,arr,T,fr,hv,rest⟩:=h1
       rw [had] at hv
       injection hv with hv;injection hv with hv
       subst hv
       exact ⟨ad',g,arr,T,fr,by rw [KQ],rest⟩
      ·rename_i c
       split at hl
       ·rename_i q i off hq
        rw [AN hl]
        refine AT h run ?_
        intro gen t0 e0 xs0 d0 hleaf hp
        dsimp only at hleaf hp
        obtain ⟨q',i',off',h',e',ad',n,k,hq',hcv,hn,hs,hi,hv⟩:=h1 gen t0 e0 xs0 d0 hleaf (by
         rcases hp with hp | hp
         ·left;rw [Ci hq];simpa using hp
         ·exact .inr hp)
        rw [hq] at hq'
        injection hq' with hq';injection hq' with z1 z2;injection z2 with z2 z3
        subst z1;subst z2;subst z3
        rw [had] at hv
        injection hv with hv;injection hv with hv
        subst hv
        exact ⟨q,i,off+fd.offset,h',e',ad',n,k,CT _ _ _,hcv,hn,hs,hi,by rw [KQ,Nat.add_assoc]⟩
       ·exact hl.elim
      ·exact hl.elim
     have hsel:∀ p,s.Ap x=p→(∀ as,p ≠ .bx as)→(if !s.alive p.one? then (.none:Step (List Wr)) else match p.one? with
       | .ptr r j AA=>(match o.dst with | some d=>(.go [.slot d (one (.ptr r (j+fd.offset) AA))]:Step (List Wr)) | none => .go [])
       | .D1 e y j=>(match o.dst with | some d=>(.go [.slot d (one (.D1 e y (j+fd.offset)))]:Step (List Wr)) | none => .go [])
       | .Bm c=>match Aj c.p with
        | some (q,i,off)=>(match o.dst with | some d=>(.go [.slot d (one (.Bm { c with p:=q++[(i,off+fd.offset)] }))]:Step (List Wr)) | none => .go [])
        | none => .none
       | _ => .none).leads ws→Bc P E o a W.w (s.app ws):=by
      intro p hp hnb hl
      have h1:AR s W (s.Ai x) (a.eval x):=Ad h x
      split at hl
      ·exact hl.elim
      ·rename_i hal
       refine hone h1 (hp ▸ hnb) (by rw [St.Ai,hp];simpa using hal) ?_
       rw [St.Ai,hp];exact hl
     generalize hq:s.Ap x=p at hl h0
     cases p with
     | bx as =>
      obtain ⟨b,off,arr,T,fr,hv,hz,hh,hfr,hget⟩:=h0
      have run:=run _ hv
      rw [AN hl]
      refine AT h run ?_
      refine ⟨b,off+fd.offset,arr,T,fr,by rw [B4],hz,hh,hfr,fun j y hy => ?_⟩
      rw [List.getElem?_drop] at hy
      obtain ⟨u,hu,hok⟩:=hget _ y hy
      exact ⟨u,by rw [← hu,Nat.add_assoc],hok⟩
     | v g as=>exact hsel _ hq (by simp) hl
     | De vs=>exact hsel _ hq (by simp) hl
   ·exact hl.elim
  ·exact hl.elim
 ·exact hl.elim
theorem MV (hc:Dg P cx) (h:AW E s a.tmps W) {t:TypeId} {x:Operand} {f:Nat} (ho:o.op = .field t x f) (hl:(AB cx v o s).leads ws):Bc P E o a W.w (s.app ws):=by
 simp only [AB,ho] at hl
 have h1:=BG h x
 revert hl h1
 generalize s.Ap x=p
 intro hl h1
 split at hl
 ·rename_i ty as ht
  split at hl
  ·rename_i fo ft hf
   obtain ⟨hag,fs,fd,hu,hfd,rfl,rfl⟩:=Jm hc ht hf
   split at hl
   ·rename_i tf htf
    split at hl
    ·rename_i hle
     have hle:fd.offset+tf.ls.n≤as.length:=of_decide_eq_true hle
     rw [AN hl]
     obtain ⟨cs,hcs,hsz,hget⟩:=h1
     have hpart:∃ u,(part fd.type cs fd.offset).run P W.w = .ok u W.w∧BY s W (.v tf.agg ((as.drop fd.offset).take tf.ls.n)) u:=by
      have htf':=hc _ _ htf
      cases hag':tf.agg with
      | false =>
       obtain ⟨l,hls,hlo⟩:=htf'.lone hag'
       obtain ⟨d,hd,hnd⟩:=hlo.JI
       have hagg:(isAgg fd.type).run P W.w = .ok false W.w:=by
        unfold isAgg
        rw [Sem.run_bind,run_underlying hd]
        cases d <;> simp_all
       have hn:tf.ls.n=1:=by rw [hls];rfl
       rw [hn] at hle ⊢
       have hlt:fd.offset<as.length:=by omega
       obtain ⟨u,hu,hok⟩:=hget fd.offset as[fd.offset] (List.getElem?_eq_getElem hlt)
       refine ⟨u,by simp [part,hagg,hu], ?_⟩
       have:(as.drop fd.offset).take 1=[as[fd.offset]]:=by
        rw [List.drop_eq_getElem_cons hlt];rfl
       rw [this];exact hok
      | true =>
       obtain ⟨fs',hfs',_⟩:=htf'.agg hag'
       have hagg:(isAgg fd.type).run P W.w = .ok true W.w:=by
        unfold isAgg
        rw [Sem.run_bind,run_underlying hfs'];rfl
       refine ⟨.agg (cs.extract fd.offset (fd.offset+tf.ls.n)),by simp [part,hagg,Kz hc htf],_,rfl,by simp;omega,fun j y hy => ?_⟩
       rw [List.getElem?_take] at hy
       split at hy
       ·rename_i hj
        rw [List.getElem?_drop] at hy
        obtain ⟨u,hu,hok⟩:=hget _ y hy
        refine ⟨u, ?_,hok⟩
        rw [Array.getElem?_extract]
        rw [if_pos (by omega)];exact hu
       ·cases hy
     obtain ⟨u,hrun,hok⟩:=hpart
     exact AT h (u:=u) (by simp [execOp,ho,Instr.field,run_underlying hu,hfd,hcs,asAgg,hrun]) hok
    ·exact hl.elim
   ·exact hl.elim
  ·exact hl.elim
 ·exact hl.elim
theorem Kb (h:AW E s a.tmps W) {x:Operand} {i:Nat} (ho:o.op = .extract x i) (hl:(AB cx v o s).leads ws):Bc P E o a W.w (s.app ws):=by
 simp only [AB,ho] at hl
 have h1:=BG h x
 revert hl h1
 generalize s.Ap x=p
 intro hl h1
 split at hl
 ·rename_i vs
  split at hl
  ·rename_i g as hn
   rw [AN hl]
   rw [Fm] at hn
   obtain ⟨us,hus,hsz,hget⟩:=h1
   obtain ⟨u,hu,hok⟩:=hget i _ hn
   exact AT h (u:=u) (by simp [execOp,ho,Instr.extract,hus,hu]) hok
  ·exact hl.elim
 ·exact hl.elim
theorem NO (h:AW E s a.tmps W) {x:Operand} (ho:o.op = .move x) (hn:Hq (s.Ap x)=false) (hl:(AB cx v o s).leads ws):Bc P E o a W.w (s.app ws):=by
 simp only [AB,ho,hn] at hl
 rw [AN hl]
 exact AT h (u:=a.eval x) (by simp [execOp,ho]) (BG h x)
theorem N6 (h:AW E s a.tmps W) {c:Call} (ho:o.op = .call c) (hb:c.callee = .builtin .min) (hl:(AB cx v o s).leads ws):Bc P E o a W.w (s.app ws):=by
 simp only [AB,ho,hb] at hl
 split at hl
 ·rename_i x y hx
  have h1:=Ad h x
  have h2:=Ad h y
  generalize s.Ai x=p at hl h1
  generalize s.Ai y=q at hl h2
  split at hl
  ·rename_i k m j n
   change Int at m n
   rw [AN hl]
   have hargs:c.args = #[x,y]:=by rw [← Array.toList_inj,hx]
   obtain ⟨cal,args,ats⟩:=c
   dsimp only at hb hargs
   subst hb;subst hargs
   have e1:a.eval x = .int k m:=h1.1
   have e2:a.eval y = .int j n:=h2.1
   have hr:(Builtin.min_ ats o.type #[.int k m, .int j n]).run P W.w = .ok (.int k (NK m n)) W.w:=by
    rw [run_min_int2];unfold NK;rw [Bool.cond_decide]
   refine AT h (u := .int k (NK m n)) ?_ (Bj _ _)
   simp [execOp,ho,resolve,invoke,builtin,e1,e2]
   rw [hr];rfl
  ·exact hl.elim
 ·exact hl.elim
theorem N5 (h:AW E s a.tmps W) {c:Call} (ho:o.op = .call c) (hb:c.callee = .builtin .max) (hl:(AB cx v o s).leads ws):Bc P E o a W.w (s.app ws):=by
 simp only [AB,ho,hb] at hl
 split at hl
 ·rename_i x y hx
  have h1:=Ad h x
  have h2:=Ad h y
  generalize s.Ai x=p at hl h1
  generalize s.Ai y=q at hl h2
  split at hl
  ·rename_i k m j n
   change Int at m n
   rw [AN hl]
   have hargs:c.args = #[x,y]:=by rw [← Array.toList_inj,hx]
   obtain ⟨cal,args,ats⟩:=c
   dsimp only at hb hargs
   subst hb;subst hargs
   have e1:a.eval x = .int k m:=h1.1
   have e2:a.eval y = .int j n:=h2.1
   have hr:(Builtin.max_ ats o.type #[.int k m, .int j n]).run P W.w = .ok (.int k (NJ m n)) W.w:=by
    rw [run_max_int2];unfold NJ;rw [Bool.cond_decide]
   refine AT h (u := .int k (NJ m n)) ?_ (Bj _ _)
   simp [execOp,ho,resolve,invoke,builtin,e1,e2]
   rw [hr];rfl
  ·exact hl.elim
 ·exact hl.elim
end
end Go.Ev
namespace Go.Ev
set_option linter.unusedVariables false
set_option linter.unusedSimpArgs false
section
variable {P:Program} {E:Cq} {s:St} {W:Wd} {o:Oper} {a:Act} {ws:List Wr} {cx:Cx} {v:Nat}
theorem Fh (hc:Dg P cx) {t:TypeId} {e:Ls} (h:isRow cx t e=true):∃ t',P.underlying t=some (.slice t')∧Lr P t' e:=by
 unfold isRow at h
 split at h
 ·rename_i ty ht
  simp only [Bool.and_eq_true,Bool.not_eq_true'] at h
  obtain ⟨hg,h⟩:=h
  split at h
  ·rename_i t' f hls
   obtain rfl:=Ls.Dj h
   exact ⟨t',Cg hc ht hls hg⟩
  ·cases h
 ·cases h
theorem KJ (hc:Dg P cx) {t:TypeId} (h:IV cx t .str=true):P.underlying t=some .string:=by
 unfold IV at h
 split at h
 ·rename_i ty ht
  simp only [Bool.and_eq_true,Bool.not_eq_true'] at h
  obtain ⟨l,hl,hf⟩:=(hc t ty ht).lone h.1
  rw [hl] at h
  have:=h.2
  simp only [Ls.eq?] at this
  obtain rfl:=L.Dj this
  exact hf
 ·cases h
theorem Lr.sizeOf {t:TypeId} {e:Ls} (h:Lr P t e) (w:World):(sizeOf t).run P w = .ok e.n w:=by
 obtain ⟨i,hi,hs,_⟩:=h.info
 simp [Go.sizeOf,typeInfo,hi,hs]
theorem Ih {α:Type} {xs:List α} {n:Int} {x:α} (h:ND xs n=some x):0≤n∧∃ hx:n.toNat<xs.length,xs[n.toNat]=x:=by
 unfold ND at h
 split at h
 ·rename_i h0
  obtain ⟨hx,he⟩:=List.getElem?_eq_some_iff.1 h
  exact ⟨h0,hx,he⟩
 ·cases h
theorem MB {α:Type} {xs:List α} {n:Int} (h:Of xs n=true):0≤n∧n.toNat<xs.length:=by
 unfold Of at h
 simp only [Bool.and_eq_true,decide_eq_true_eq] at h
 omega
theorem Dc (hc:Dg P cx) {ti:TypeId} {e:Ls} (hr:isRow cx ti e=true) {j:IntKind} {n:Int} {ad:Addr} {len c:Nat} (h0:0≤n) (hn:n.toNat<len) (w:World) :
  (Instr.indexAt ti (.slice (some ad) len c) (.int j n)).run P w = .ok (.pointer (some (ad.add (n.toNat * e.n)))) w:=by
 obtain ⟨t',hu,he⟩:=Fh hc hr
 have:0≤n∧n<(len:Int):=by omega
 simp [Instr.indexAt,asIntOf,run_underlying hu,this,he.sizeOf]
theorem EH {ad:Addr} (hs:ad.spot=none) (k:Nat):ad.add k=at_ ad k:=by
 obtain ⟨b,off,sp⟩:=ad
 dsimp only at hs;subst hs
 exact B4 b off k
theorem JL (hc:Dg P cx) (h:AW E s a.tmps W) {ti:TypeId} {x i:Operand} (ho:o.op = .indexAddr ti x i) (hl:(AB cx v o s).leads ws):Bc P E o a W.w (s.app ws):=by
 simp only [AB,ho] at hl
 obtain ⟨j,n,hi,hl⟩:=EK (Ad h i) hl
 have h1:=Ad h x
 generalize s.Ai x=p at hl h1
 split at hl
 ·rename_i t e xs
  split at hl
  ·rename_i hr
   obtain ⟨y,hy,hl⟩:=hl
   rw [AN hl]
   obtain ⟨h0,hx,he⟩:=Ih hy
   have h1:AD e 0 W.w W.fz (a.eval x) xs []:=h1
   obtain ⟨A,c,hv,hcap,h1⟩:=h1
   cases A with
   | none=>rw [h1.1] at hcap;omega
   | some ad =>
    rcases h1 with h1 | ⟨g,os,hrow,hel,hfz,_,_⟩
    ·have:=h1.2.1;omega
    have hrun:=Dc (P:=P) hc hr (j:=j) (ad:=ad) (c:=c) h0 hx W.w
    refine AT h (u := .pointer (some (ad.add (n.toNat * e.n)))) (by simp [execOp,ho,hi,hv,hrun]) ?_
    obtain ⟨hs,arr,T,fr,hh,hnn,_,hg⟩:=hrow
    rw [EH hs]
    refine ⟨at_ ad (n.toNat * e.n),fun j=>g (n.toNat * e.n+j),arr,T,fr,by simp [at_],hfz,hh,fun j => ?_, ?_⟩
    ·show g _=_;rw [hg];simp [at_,Nat.add_assoc]
    ·have:=hel n.toNat hx
     rw [he] at this
     have ho:os n.toNat=[]:=Ls.Bn e this
     rw [ho] at this
     exact this
  ·exact hl.elim
 ·rename_i c
  have h1':=h1
  obtain ⟨t0,e0,xs0,d0,gen,hleaf,hp,hk⟩:=CZ h hl
  obtain ⟨u,e',hu,hn⟩:=h1 gen t0 e0 xs0 d0 hleaf hp
  obtain ⟨t',ys,d',o',hl,hrd,_⟩:=hk u e' _ hu hn
  split at hl
  ·rename_i hr
   rcases Ag hl with ⟨hb,hl⟩ | ⟨_,hl⟩
   ·rw [AN hl]
    obtain ⟨h0,hx⟩:=MB hb
    obtain ⟨A,cc,hv,hcap,hrd⟩:=hrd
    cases A with
    | none=>rw [hrd.1] at hcap;omega
    | some ad =>
     rcases hrd with hrd | ⟨g,os,hrow,hel,_⟩
     ·have:=hrd.2.1;omega
     have hrun:=Dc (P:=P) hc hr (j:=j) (ad:=ad) (c:=cc) h0 hx W.w
     refine AT h (u := .pointer (some (ad.add (n.toNat * e'.n)))) (by simp [execOp,ho,hi,hv,hrun]) ?_
     intro gen2 t2 e2 xs2 d2 hleaf2 hp2
     dsimp only at hleaf2 hp2
     rw [hleaf] at hleaf2
     injection hleaf2 with z1 z2 z3 z4
     subst z4
     rw [hv] at hn
     exact ⟨c.p,n.toNat,0,u,e',ad,_,cc,CT _ _ _,hu,hn,hrow.1,hx,by rw [EH hrow.1];rfl⟩
   ·exact hl.elim
  ·exact hl.elim
 ·rename_i c lo hi'
  obtain ⟨t0,e0,xs0,d0,gen,hleaf,hp,hk⟩:=CZ h hl
  obtain ⟨u,e',A0,n0,k0,hu,hn,hlo,hhi,hv⟩:=h1 gen t0 e0 xs0 d0 hleaf hp
  obtain ⟨t',ys,d',o',hl,hrd,_⟩:=hk u e' _ hu hn
  split at hl
  ·rename_i hr
   rcases Ag hl with ⟨hb,hl⟩ | ⟨_,hl⟩
   ·rw [AN hl]
    obtain ⟨h0,hx⟩:=MB hb
    obtain ⟨A,cc,hv',hcap,hrd⟩:=hrd
    injection hv' with z1 z2 z3
    subst z1;subst z2;subst z3
    have hx':n.toNat<hi' - lo:=by simp [sub] at hx;omega
    cases A0 with
    | none=>rw [hrd.1] at hcap;omega
    | some ad =>
     rcases hrd with hrd | ⟨g,os,hrow,hel,_⟩
     ·have:=hrd.2.1;omega
     have hne:k0≠lo:=by omega
     rw [if_neg hne] at hv
     have hrun:=Dc (P:=P) hc hr (j:=j) (ad:=ad.add (lo * e'.n)) (c:=k0 - lo) h0 hx' W.w
     refine AT h (u := .pointer (some ((ad.add (lo * e'.n)).add (n.toNat * e'.n)))) (by simp [execOp,ho,hi,hv,hrun]) ?_
     intro gen2 t2 e2 xs2 d2 hleaf2 hp2
     dsimp only at hleaf2 hp2
     rw [hleaf] at hleaf2
     injection hleaf2 with q1 q2 q3 q4
     subst q4
     exact ⟨c.p,lo+n.toNat,0,u,e',ad,_,k0,CT _ _ _,hu,hn,hrow.1,by omega,by rw [EH hrow.1,KQ,Nat.add_mul];rfl⟩
   ·exact hl.elim
  ·exact hl.elim
 ·exact hl.elim
theorem MW (hc:Dg P cx) (h:AW E s a.tmps W) {ti:TypeId} {x i:Operand} (ho:o.op = .index ti x i) (hl:(AB cx v o s).leads ws):Bc P E o a W.w (s.app ws):=by
 simp only [AB,ho] at hl
 obtain ⟨j,n,hi,hl⟩:=EK (Ad h i) hl
 have h1:=Ad h x
 generalize s.Ai x=p at hl h1
 split at hl
 ·rename_i b
  change List UInt8 at b
  split at hl
  ·rename_i hr
   have hu:=KJ hc hr
   obtain ⟨y,hy,hl⟩:=hl
   rw [AN hl]
   obtain ⟨h0,hx,he⟩:=Ih hy
   have e1:a.eval x = .string ⟨List.toArray (α:=UInt8) b⟩:=h1.1
   refine AT h (u := .int .u8 y.toNat) ?_ (Bj _ _)
   have hget:(⟨List.toArray (α:=UInt8) b⟩:ByteArray)[n.toNat]? = some y:=by
    rw [getElem?_pos _ _ (by simpa [ByteArray.size] using hx)]
    congr 1
   simp [execOp,ho,hi,e1,Instr.index,asIntOf,run_underlying hu,h0,hget]
  ·exact hl.elim
 ·exact hl.elim
theorem Ct (h:AW E s a.tmps W) {x:Option Operand} {d:Int} {β:Type} {k:Int→Step β} {t:β} (hl:(DW s x d k).leads t) :
  ∃ n:Int,(k n).leads t∧((x=none∧n=d)∨∃ y j,x=some y∧a.eval y = .int j n):=by
 cases x with
 | none=>exact ⟨d,hl, .inl ⟨rfl,rfl⟩⟩
 | some y =>
  obtain ⟨j,n,hi,hl⟩:=EK (Ad h y) hl
  exact ⟨n,hl, .inr ⟨y,j,rfl,hi⟩⟩
theorem FP {isS:Bool} {len cap:Nat} {lo hi:Option Operand} {l m:Int} (hlo:(lo=none∧l=0)∨∃ y j,lo=some y∧a.eval y = .int j l)
  (hhi:(hi=none∧m=(len:Int))∨∃ y j,hi=some y∧a.eval y = .int j m) (h0:0≤l) (h1:l≤m) (h2:m≤(cap:Int)) (w:World) :
  (Instr.sliceBounds isS len cap (lo.map a.eval) (hi.map a.eval) none).run P w = .ok (l.toNat,m.toNat,cap) w:=by
 rcases hlo with ⟨rfl,rfl⟩ | ⟨y,j,rfl,hy⟩ <;> rcases hhi with ⟨rfl,rfl⟩ | ⟨z,k,rfl,hz⟩
 ·simp [Instr.sliceBounds]
 ·simp [Instr.sliceBounds,hz,Instr.sliceBound,asIntOf,h2,h1]
 ·simp [Instr.sliceBounds,hy,Instr.sliceBound,asIntOf,h0,h1]
 ·have:0≤m:=by omega
  have h3:l≤(m.toNat:Int):=by omega
  simp [Instr.sliceBounds,hy,hz,Instr.sliceBound,asIntOf,h0,h1,h2,this,h3]
  intro h4;omega
theorem MX (hc:Dg P cx) (h:AW E s a.tmps W) {ti:TypeId} {x:Operand} {lo hi:Option Operand} (ho:o.op = .slice ti x lo hi none) (hl:(AB cx v o s).leads ws):Bc P E o a W.w (s.app ws):=by
 simp only [AB,ho] at hl
 have h1:=Ad h x
 generalize s.Ai x=p at hl h1
 split at hl
 ·rename_i b
  change List UInt8 at b
  split at hl
  ·rename_i hr
   have hu:=KJ hc hr
   obtain ⟨l,hl,hlo⟩:=Ct h hl
   obtain ⟨m,hl,hhi⟩:=Ct h hl
   rcases Ag hl with ⟨hb,hl⟩ | ⟨_,hl⟩
   ·simp only [Bool.and_eq_true,decide_eq_true_eq] at hb
    obtain ⟨⟨b0,b1⟩,b2⟩:=hb
    rw [AN hl]
    have e1:a.eval x = .string ⟨b.toArray⟩:=h1.1
    have hrun:=FP (P:=P) (isS:=false) (len:=b.length) (cap:=b.length) hlo hhi b0 b1 b2 W.w
    refine AT h (u := .string ((⟨b.toArray⟩:ByteArray).extract l.toNat m.toNat)) ?_ ?_
    ·have hs:(⟨b.toArray⟩:ByteArray).size=b.length:=by simp [ByteArray.size]
     simp [execOp,ho,e1,Instr.sliceAt,run_underlying hu,Instr.slice,hs,hrun]
    ·have:(⟨b.toArray⟩:ByteArray).extract l.toNat m.toNat=⟨(sub b l.toNat m.toNat).toArray⟩:=by
      apply ByteArray.ext
      rw [ByteArray.data_extract]
      simp [sub,List.extract_eq_take_drop]
     rw [this];exact Kh _
   ·exact hl.elim
  ·exact hl.elim
 ·rename_i t e b
  change List e.D at b
  split at hl
  ·rename_i hr
   obtain ⟨l,hl,hlo⟩:=Ct h hl
   obtain ⟨m,hl,hhi⟩:=Ct h hl
   rcases Ag hl with ⟨hb,hl⟩ | ⟨_,hl⟩
   ·simp only [Bool.and_eq_true,decide_eq_true_eq] at hb
    obtain ⟨⟨b0,b1⟩,b2⟩:=hb
    rw [AN hl]
    obtain ⟨t',hu,he⟩:=Fh hc hr
    have h1:AD e 0 W.w W.fz (a.eval x) b []:=h1
    obtain ⟨A,c,hv,hcap⟩:=h1.len
    rw [hv] at h1
    obtain ⟨o',q1,q2,_⟩:=CK.sub h1 (lo:=l.toNat) (hi:=m.toNat) (by omega) (by omega)
    have ho':o'=[]:=CK.zero q1
    subst ho'
    have hrun:=FP (P:=P) (isS:=true) (len:=b.length) (cap:=c) hlo hhi b0 b1 (by omega) W.w
    refine AT h (u := .slice (if c=l.toNat then A else A.map (·.add (l.toNat * e.n))) (m.toNat - l.toNat) (c - l.toNat)) ?_ (show AR s W (.sc (.sl t e) (sub b l.toNat m.toNat)) _ from q1)
    simp [execOp,ho,hv,Instr.sliceAt,run_underlying hu,Instr.slice,hrun,he.sizeOf]
   ·exact hl.elim
  ·exact hl.elim
 ·rename_i c
  obtain ⟨t0,e0,xs0,d0,gen,hleaf,hp,hk⟩:=CZ h hl
  obtain ⟨u,e',hu',hn⟩:=h1 gen t0 e0 xs0 d0 hleaf hp
  obtain ⟨t',ys,d',o',hl,hrd,_⟩:=hk u e' _ hu' hn
  split at hl
  ·rename_i hr
   obtain ⟨l,hl,hlo⟩:=Ct h hl
   obtain ⟨m,hl,hhi⟩:=Ct h hl
   rcases Ag hl with ⟨hb,hl⟩ | ⟨_,hl⟩
   ·simp only [Bool.and_eq_true,decide_eq_true_eq] at hb
    obtain ⟨⟨b0,b1⟩,b2⟩:=hb
    rw [AN hl]
    obtain ⟨t2,hu,he⟩:=Fh hc hr
    obtain ⟨A,cc,hv,hcap⟩:=hrd.len
    have hrun:=FP (P:=P) (isS:=true) (len:=ys.length) (cap:=cc) hlo hhi b0 b1 (by omega) W.w
    refine AT h (u := .slice (if cc=l.toNat then A else A.map (·.add (l.toNat * e'.n))) (m.toNat - l.toNat) (cc - l.toNat)) ?_ ?_
    ·simp [execOp,ho,hv,Instr.sliceAt,run_underlying hu,Instr.slice,hrun,he.sizeOf]
    ·intro gen2 t3 e3 xs3 d3 hleaf3 hp3
     rw [hleaf] at hleaf3
     injection hleaf3 with q1 q2 q3 q4
     subst q4
     rw [hv] at hn
     exact ⟨u,e',A,_,cc,hu',hn,by omega,by omega,rfl⟩
   ·exact hl.elim
  ·exact hl.elim
 ·exact hl.elim
end
end Go.Ev
namespace Go.Ev
set_option linter.unusedVariables false
set_option linter.unusedSimpArgs false
theorem BD (s:St):∀ (xs ys:List Wr),s.app (xs++ys)=(s.app xs).app ys
 | [],ys=>rfl
 | x::xs,ys=>by
  show ((s.AG x).app (xs++ys))=((s.AG x).app xs).app ys
  exact BD (s.AG x) xs ys
theorem EU (s:St) (r j:Nat) (x:LA) (r' j':Nat):(s.AG (.leaf r j x)).leaf r' j'=if r=r'∧j=j'∧r<s.ro.length∧j<(s.root r).ls.length then x else s.leaf r' j':=by
 have hroot:(s.AG (.leaf r j x)).root r'=if r=r'∧r<s.ro.length then { s.root r with ls:=CV (s.root r).ls j x } else s.root r':=Ay _ _ _ _ _
 unfold St.leaf
 rw [hroot]
 by_cases h:r=r'∧r<s.ro.length
 ·obtain ⟨rfl,hlt⟩:=h
  rw [if_pos ⟨rfl,hlt⟩]
  show nth LA.bad (CV (s.root r).ls j x) j'=_
  rw [Ay]
  by_cases hj:j=j'∧j<(s.root r).ls.length
  ·rw [if_pos hj,if_pos ⟨rfl,hj.1,hlt,hj.2⟩]
  ·rw [if_neg hj,if_neg (fun hh=>hj ⟨hh.2.1,hh.2.2.2⟩)]
 ·rw [if_neg h,if_neg (fun hh=>h ⟨hh.1,hh.2.2.1⟩)]
structure Jb (s s':St):Prop where
 sl:s'.sl=s.sl
 len:s'.ro.length=s.ro.length
 box:∀ r,(s'.root r).box=(s.root r).box∧(s'.root r).AA=(s.root r).AA∧(s'.root r).ls.length=(s.root r).ls.length
theorem BH (s:St) (r j:Nat) (x:LA):Jb s (s.AG (.leaf r j x)) where
 sl:=rfl
 len:=CU _ _ _
 box r':=by
  have hroot:(s.AG (.leaf r j x)).root r'=if r=r'∧r<s.ro.length then { s.root r with ls:=CV (s.root r).ls j x } else s.root r':=Ay _ _ _ _ _
  rw [hroot]
  by_cases h:r=r'∧r<s.ro.length
  ·obtain ⟨rfl,hlt⟩:=h
   rw [if_pos ⟨rfl,hlt⟩]
   exact ⟨rfl,rfl,CU _ _ _⟩
  ·rw [if_neg h];exact ⟨rfl,rfl,rfl⟩
theorem Dk (s:St):∀ us:List (Nat×Nat),Jb s (s.app (gone us))∧∀ r j,(s.app (gone us)).leaf r j=if (r,j)∈us then .bad else s.leaf r j
 | []=>⟨⟨rfl,rfl,fun _=>⟨rfl,rfl,rfl⟩⟩,fun r j=>by simp [gone,St.app]⟩
 | u::us=>by
  have h1:=BH s u.1 u.2 .bad
  have h2:=EU s u.1 u.2 .bad
  obtain ⟨a,b⟩:=Dk (s.AG (.leaf u.1 u.2 .bad)) us
  refine ⟨⟨a.sl.trans h1.sl,a.len.trans h1.len,fun r=>⟨(a.box r).1.trans (h1.box r).1,(a.box r).2.1.trans (h1.box r).2.1,(a.box r).2.2.trans (h1.box r).2.2⟩⟩,fun r j => ?_⟩
  show ((s.AG (.leaf u.1 u.2 .bad)).app (gone us)).leaf r j=_
  rw [b,h2]
  by_cases hm:(r,j)∈us
  ·rw [if_pos hm,if_pos (List.mem_cons_of_mem _ hm)]
  ·rw [if_neg hm]
   by_cases he:(r,j)=u
   ·have hin:(r,j)∈u::us:=by rw [he];exact List.mem_cons_self
    rw [if_pos hin]
    subst he
    split
    ·rfl
    ·rename_i hne
     unfold St.leaf
     by_cases hr:r<s.ro.length
     ·rw [A3]
      exact Nat.le_of_not_lt fun hj=>hne ⟨rfl,rfl,hr,hj⟩
     ·have:s.root r=dead:=A3 _ (Nat.le_of_not_lt hr)
      rw [this];rfl
   ·have hnin:¬ (r,j)∈u::us:=fun hh=>(List.mem_cons.1 hh).elim he hm
    rw [if_neg hnin]
    have:¬ (u.1=r∧u.2=j∧u.1<s.ro.length∧u.2<(s.root u.1).ls.length):=fun hh=>he (by rw [← hh.1, ← hh.2.1])
    rw [if_neg this]
section
variable {P:Program} {E:Cq} {s:St} {tm:Array Value} {W:Wd} {v:Nat}
def AO (W:Wd) (w':World) (us:List (Nat×Nat)) (d:Nat) (cvd:Nat→Option Value) (bkd:Nat) (ob:List Nat) (oj:Nat→List Nat):Wd :=
 {w:=w',fz:=W.fz
  cv:=fun r j=>if r=d then cvd j else W.cv r j
  bk:=fun r=>if r=d then bkd else W.bk r
  om:=fun k=>match k with
   | .AX r=>if r=d then ob else W.om (.AX r)
   | .lf r j=>if r=d then oj j else if (r,j)∈us then [] else W.om (.lf r j)
   | .fl _=>[] }
def Kept (us:List (Nat×Nat)) (d:Nat):Key→Prop
 | .AX r=>r≠d
 | .lf r j=>r≠d∧(r,j)∉us
 | .fl _=>False
theorem AW.Kd (h:AW E s tm W) (hv:Ae s v) {us:List (Nat×Nat)} {d:Nat} (hd:d<tm.size) {x:Bo} {a:AV} {u:Value} {w':World} {cvd:Nat→Option Value} {bkd:Nat} {ob:List Nat} {oj:Nat→List Nat}
  (hx:x.AA=v) (hxl:∀ (j AA gen:Nat) (t:TypeId) (e:Ls) (xs:List e.D) (dd:Nat),nth .bad x.ls j = .arr AA gen t e xs dd→AA=v)
  (hw:∀ b,(W.fz b∨∃ k,Kept us d k∧b∈W.om k)→w'.heap[b]? = W.w.heap[b]?)
  (hfr:∀ b,b<E.base→¬ E.io b→w'.heap[b]? = W.w.heap[b]?) (hsz:W.w.heap.size≤w'.heap.size) (ho:w'.os=W.w.os∧w'.tape=W.w.tape∧w'.output=W.w.output)
  (hnb:ob.Nodup) (hnj:∀ j,(oj j).Nodup) (hdb:∀ j,∀ b∈ob,b∉oj j) (hdj:∀ i j,i≠j→∀ b∈oj i,b∉oj j)
  (hfrom:∀ b,(b∈ob∨∃ j,b∈oj j)→(∃ k,¬ Kept us d k∧b∈W.om k)∨(W.w.heap.size≤b∧b<w'.heap.size))
  (hroot:EG v s (s.app (gone us++[.root d x, .slot d a])) W (AO W w' us d cvd bkd ob oj)→(s.app (gone us++[.root d x, .slot d a])).root d=x→EF (s.app (gone us++[.root d x, .slot d a])) (AO W w' us d cvd bkd ob oj) d x)
  (hslot:EG v s (s.app (gone us++[.root d x, .slot d a])) W (AO W w' us d cvd bkd ob oj)→(s.app (gone us++[.root d x, .slot d a])).root d=x→BY (s.app (gone us++[.root d x, .slot d a])) (AO W w' us d cvd bkd ob oj) a u) :
  AW E (s.app (gone us++[.root d x, .slot d a])) (tm.setIfInBounds d u) (AO W w' us d cvd bkd ob oj):=by
 obtain ⟨hsame,hleaf⟩:=Dk s us
 generalize hs':s.app (gone us++[.root d x, .slot d a])=s' at *
 rw [BD] at hs'
 generalize s.app (gone us)=s1 at hsame hleaf hs'
 have hd1:d<s1.ro.length:=by rw [hsame.len,h.Bx];exact hd
 have hd2:d<s1.sl.length:=by rw [hsame.sl,h.DB];exact hd
 have hroots:∀ r,s'.root r=if d=r then x else s1.root r:=by
  intro r;subst hs'
  show ((s1.AG (.root d x)).AG (.slot d a)).root r=_
  have:((s1.AG (.root d x)).AG (.slot d a)).root r=(s1.AG (.root d x)).root r:=rfl
  rw [this,Av]
  by_cases hdr:d=r
  ·rw [if_pos ⟨hdr,hd1⟩,if_pos hdr]
  ·rw [if_neg (fun hh=>hdr hh.1),if_neg hdr]
 have hslots:∀ t,s'.slot t=if d=t then a else s.slot t:=by
  intro t;subst hs'
  show ((s1.AG (.root d x)).AG (.slot d a)).slot t=_
  rw [BR]
  by_cases hdr:d=t
  ·rw [if_pos ⟨hdr,hd2⟩,if_pos hdr]
  ·rw [if_neg (fun hh=>hdr hh.1),if_neg hdr]
   show nth _ s1.sl t=_
   rw [hsame.sl];rfl
 have hleaves:∀ r j,s'.leaf r j=if d=r then nth .bad x.ls j else if (r,j)∈us then .bad else s.leaf r j:=by
  intro r j
  unfold St.leaf
  rw [hroots]
  by_cases hdr:d=r
  ·rw [if_pos hdr,if_pos hdr]
  ·rw [if_neg hdr,if_neg hdr];exact hleaf r j
 have hturn:EG v s s' W (AO W w' us d cvd bkd ob oj):={
  fz:=fun b hb=>hb
  LL:=fun b hb=>hw b (.inl hb)
  leaf:=by
   intro r j AA gen t e xs dd hl hne
   rw [hleaves] at hl
   by_cases hdr:d=r
   ·rw [if_pos hdr] at hl;exact absurd (hxl j AA gen t e xs dd hl) hne
   ·rw [if_neg hdr] at hl
    by_cases hm:(r,j)∈us
    ·rw [if_pos hm] at hl;cases hl
    ·rw [if_neg hm] at hl
     refine ⟨if_neg (fun e=>hdr e.symm),gen,t,xs,dd,hl,fun _=>⟨rfl,fun p h' e' u' hc hn => ?_⟩⟩
     obtain ⟨u0,hu0,hrd⟩:=(h.roots r).row hl
     rw [hc] at hu0;injection hu0 with hu0;subst hu0
     exact BN p hrd hn fun b hb=>hw b (hb.elim (fun hb => .inr ⟨.lf r j,⟨fun e=>hdr e.symm,hm⟩,hb⟩) .inl)
  box:=by
   intro r hb hne
   rw [hroots] at hb hne ⊢
   by_cases hdr:d=r
   ·rw [if_pos hdr] at hne;exact absurd hx hne
   ·rw [if_neg hdr] at hb hne ⊢
    obtain ⟨b1,b2,b3⟩:=hsame.box r
    exact ⟨b1 ▸ hb,b2.symm,if_neg (fun e=>hdr e.symm)⟩ }
 have hsep:Sep E (AO W w' us d cvd bkd ob oj):=by
  refine h.sep.H9 (fun k=>¬ Kept us d k) rfl hsz hfr ho ?_ ?_ ?_ ?_
  ·intro k hk
   have hk:Kept us d k:=Classical.not_not.1 hk
   cases k with
   | AX r=>exact if_neg hk
   | lf r j=>show (if r=d then oj j else if (r,j)∈us then [] else W.om (.lf r j))=_;rw [if_neg hk.1,if_neg hk.2]
   | fl k=>exact hk.elim
  ·intro k hk
   cases k with
   | AX r =>
    have:r=d:=Classical.not_not.1 hk
    show (if r=d then ob else W.om (.AX r)).Nodup;rw [if_pos this];exact hnb
   | lf r j =>
    show (if r=d then oj j else if (r,j)∈us then [] else W.om (.lf r j)).Nodup
    by_cases hr:r=d
    ·rw [if_pos hr];exact hnj j
    ·rw [if_neg hr]
     by_cases hm:(r,j)∈us
     ·rw [if_pos hm];exact List.nodup_nil
     ·exact absurd ⟨hr,hm⟩ hk
   | fl k=>exact List.nodup_nil
  ·intro k k' hk hk' hne b hb hb'
   cases k with
   | fl k=>cases hb
   | AX r =>
    have hr:r=d:=Classical.not_not.1 hk
    subst hr
    have hb:b∈ob:=by have:b∈(if r=r then ob else W.om (.AX r)):=hb;rwa [if_pos rfl] at this
    cases k' with
    | fl k=>cases hb'
    | AX r'=>have hr':r'=r:=Classical.not_not.1 hk';exact hne (by rw [hr'])
    | lf r' j' =>
     have hb':b∈(if r'=r then oj j' else if (r',j')∈us then [] else W.om (.lf r' j')):=hb'
     by_cases hr':r'=r
     ·rw [if_pos hr'] at hb';exact hdb j' b hb hb'
     ·rw [if_neg hr'] at hb'
      by_cases hm:(r',j')∈us
      ·rw [if_pos hm] at hb';cases hb'
      ·exact hk' ⟨hr',hm⟩
   | lf r j =>
    have hb:b∈(if r=d then oj j else if (r,j)∈us then [] else W.om (.lf r j)):=hb
    by_cases hr:r=d
    ·rw [if_pos hr] at hb
     cases k' with
     | fl k=>cases hb'
     | AX r' =>
      have hr':r'=d:=Classical.not_not.1 hk'
      have hb':b∈(if r'=d then ob else W.om (.AX r')):=hb'
      rw [if_pos hr'] at hb'
      exact hdb j b hb' hb
     | lf r' j' =>
      have hb':b∈(if r'=d then oj j' else if (r',j')∈us then [] else W.om (.lf r' j')):=hb'
      by_cases hr':r'=d
      ·rw [if_pos hr'] at hb'
       exact hdj j j' (fun e=>hne (by rw [hr,hr',e])) b hb hb'
      ·rw [if_neg hr'] at hb'
       by_cases hm:(r',j')∈us
       ·rw [if_pos hm] at hb';cases hb'
       ·exact hk' ⟨hr',hm⟩
    ·rw [if_neg hr] at hb
     by_cases hm:(r,j)∈us
     ·rw [if_pos hm] at hb;cases hb
     ·exact hk ⟨hr,hm⟩
  ·intro k hk b hb
   have hb2:b∈ob∨∃ j,b∈oj j:=by
    cases k with
    | fl k=>cases hb
    | AX r =>
     have hr:r=d:=Classical.not_not.1 hk
     have hb:b∈(if r=d then ob else W.om (.AX r)):=hb
     rw [if_pos hr] at hb;exact .inl hb
    | lf r j =>
     have hb:b∈(if r=d then oj j else if (r,j)∈us then [] else W.om (.lf r j)):=hb
     by_cases hr:r=d
     ·rw [if_pos hr] at hb;exact .inr ⟨j,hb⟩
     ·rw [if_neg hr] at hb
      by_cases hm:(r,j)∈us
      ·rw [if_pos hm] at hb;cases hb
      ·exact absurd ⟨hr,hm⟩ hk
   exact hfrom b hb2
 refine h.H9 hv hturn hsep ?_ ?_ ?_ ?_
 ·subst hs';simp only [St.app,St.AG,CU,Array.size_setIfInBounds];rw [hsame.sl,h.DB]
 ·subst hs';simp only [St.app,St.AG,CU,Array.size_setIfInBounds];rw [hsame.len,h.Bx]
 ·intro t
  rw [hslots]
  by_cases hdt:d=t
  ·right
   rw [if_pos hdt]
   have:(tm.setIfInBounds d u).getD t Go.undef=u:=by subst hdt;simp [Array.getElem?_setIfInBounds,hd]
   rw [this];exact hslot hturn (by rw [hroots,if_pos rfl])
  ·left
   rw [if_neg hdt]
   exact ⟨rfl,by simp [Array.getElem?_setIfInBounds,hdt]⟩
 ·intro r
  rw [hroots]
  by_cases hdr:d=r
  ·subst hdr;rw [if_pos rfl];exact hroot hturn (by rw [hroots,if_pos rfl])
  ·rw [if_neg hdr]
   obtain ⟨h1,h2⟩:=h.roots r
   obtain ⟨b1,b2,b3⟩:=hsame.box r
   have hdr':¬ r=d:=fun e=>hdr e.symm
   refine ⟨fun j => ?_, ?_⟩
   ·have e1:(AO W w' us d cvd bkd ob oj).cv r j=W.cv r j:=if_neg hdr'
    have e2:(AO W w' us d cvd bkd ob oj).om (.lf r j)=if (r,j)∈us then [] else W.om (.lf r j):=if_neg hdr'
    have e3:nth LA.bad (s1.root r).ls j=if (r,j)∈us then .bad else s.leaf r j:=hleaf r j
    rw [e1,e2,e3]
    by_cases hm:(r,j)∈us
    ·rw [if_pos hm,if_pos hm];exact ⟨rfl,fun _ _=>trivial⟩
    ·rw [if_neg hm,if_neg hm]
     exact Aa.Df hturn (hv.2.1 r j) (fun b hb=>hw b (.inr ⟨.lf r j,⟨hdr',hm⟩,hb⟩)) (h1 j)
   ·have e1:(AO W w' us d cvd bkd ob oj).om (.AX r)=W.om (.AX r):=if_neg hdr'
    have e2:(AO W w' us d cvd bkd ob oj).bk r=W.bk r:=if_neg hdr'
    rw [b1,e1,e2]
    split
    ·rename_i hb
     rw [if_pos hb] at h2
     obtain ⟨ho',arr,T,fr,hh,a1,a2,a3⟩:=h2
     refine ⟨ho',arr,T,fr,(hw _ (.inr ⟨.AX r,hdr',by rw [ho'];simp⟩)).trans hh,a1,by rw [b3];exact a2,fun j => ?_⟩
     show (if r=d then cvd j else W.cv r j)=_
     rw [if_neg hdr'];exact a3 j
    ·rename_i hb;rw [if_neg hb] at h2;exact h2
theorem AW.place (h:AW E s tm W) (hv:Ae s v) {us:List (Nat×Nat)} {d:Nat} (hd:d<tm.size) {x:Bo} {a:AV} {u:Value} {w':World} {cvd:Nat→Option Value} {bkd:Nat} {ob:List Nat} {oj:Nat→List Nat}
  (hx:x.AA=v) (hxl:∀ (j AA gen:Nat) (t:TypeId) (e:Ls) (xs:List e.D) (dd:Nat),nth .bad x.ls j = .arr AA gen t e xs dd→AA=v)
  (hw:∀ b,(W.fz b∨∃ k,Kept us d k∧b∈W.om k)→w'.heap[b]? = W.w.heap[b]?)
  (hfr:∀ b,b<E.base→¬ E.io b→w'.heap[b]? = W.w.heap[b]?) (hsz:W.w.heap.size≤w'.heap.size) (ho:w'.os=W.w.os∧w'.tape=W.w.tape∧w'.output=W.w.output)
  (hnb:ob.Nodup) (hnj:∀ j,(oj j).Nodup) (hdb:∀ j,∀ b∈ob,b∉oj j) (hdj:∀ i j,i≠j→∀ b∈oj i,b∉oj j)
  (hfrom:∀ b,(b∈ob∨∃ j,b∈oj j)→(∃ r j,(r,j)∈us∧b∈W.om (.lf r j))∨(W.w.heap.size≤b∧b<w'.heap.size))
  (hroot:EG v s (s.app (gone us++[.root d x, .slot d a])) W (AO W w' us d cvd bkd ob oj)→(s.app (gone us++[.root d x, .slot d a])).root d=x→EF (s.app (gone us++[.root d x, .slot d a])) (AO W w' us d cvd bkd ob oj) d x)
  (hslot:EG v s (s.app (gone us++[.root d x, .slot d a])) W (AO W w' us d cvd bkd ob oj)→(s.app (gone us++[.root d x, .slot d a])).root d=x→BY (s.app (gone us++[.root d x, .slot d a])) (AO W w' us d cvd bkd ob oj) a u) :
  AW E (s.app (gone us++[.root d x, .slot d a])) (tm.setIfInBounds d u) (AO W w' us d cvd bkd ob oj) :=
 h.Kd hv hd hx hxl hw hfr hsz ho hnb hnj hdb hdj (fun b hb=>(hfrom b hb).imp (fun ⟨r,j,hm,h0⟩=>⟨.lf r j,fun hk=>hk.2 hm,h0⟩) id) hroot hslot
end
end Go.Ev
namespace Go.Ev
set_option linter.unusedVariables false
set_option linter.unusedSimpArgs false
section
variable {P:Program} {E:Cq} {s:St} {tm:Array Value} {W:Wd} {v:Nat} {cx:Cx} {β:Type} {t:β}
theorem AW.Cl (h:AW E s tm W) (hv:Ae s v) (us:List (Nat×Nat)) {d:Nat} (hd:d<tm.size) {t0:TypeId} {e:Ls} {xs:List e.D} {dd:Nat} {u:Value} {w':World} {o:List Nat}
  (hw:∀ b,(W.fz b∨∃ k,Kept us d k∧b∈W.om k)→w'.heap[b]? = W.w.heap[b]?)
  (hfr:∀ b,b<E.base→¬ E.io b→w'.heap[b]? = W.w.heap[b]?) (hsz:W.w.heap.size≤w'.heap.size) (ho:w'.os=W.w.os∧w'.tape=W.w.tape∧w'.output=W.w.output)
  (hr:AD e dd w' W.fz u xs o) (hn:o.Nodup) (hfrom:∀ b∈o,(∃ r j,(r,j)∈us∧b∈W.om (.lf r j))∨(W.w.heap.size≤b∧b<w'.heap.size)) :
  ∃ W',W'.w=w'∧AW E (s.app (gone us++[.root d ⟨false,v,[.arr v v t0 e xs dd]⟩, .slot d (one (.ref ⟨d,0,v,v,[]⟩))])) (tm.setIfInBounds d u) W':=by
 refine ⟨AO W w' us d (fun j=>if j=0 then some u else none) 0 [] (fun j=>if j=0 then o else []),rfl, ?_⟩
 obtain ⟨hsame,hleaf⟩:=Dk s us
 refine h.place hv hd rfl ?_ hw hfr hsz ho List.nodup_nil ?_ (fun j b hb=>by cases hb) ?_ ?_ ?_ ?_
 ·intro j AA gen t e xs dd' hl
  cases j with
  | zero=>simp only [nth] at hl;injection hl with h1;exact h1.symm
  | succ j=>simp [nth] at hl
 ·intro j;show (if j=0 then o else []).Nodup;split
  ·exact hn
  ·exact List.nodup_nil
 ·intro i j hij b hb hb'
  by_cases hi:i=0
  ·by_cases hj:j=0
   ·exact hij (hi.trans hj.symm)
   ·simp [hj] at hb'
  ·simp [hi] at hb
 ·intro b hb
  rcases hb with hb | ⟨j,hb⟩
  ·cases hb
  ·by_cases hj:j=0
   ·simp [hj] at hb;exact hfrom b hb
   ·simp [hj] at hb
 ·intro _ _
  refine ⟨fun j => ?_, ?_⟩
  ·cases j with
   | zero =>
    refine ⟨u,by simp [AO], ?_⟩
    have:(AO W w' us d (fun j=>if j=0 then some u else none) 0 [] (fun j=>if j=0 then o else [])).om (.lf d 0)=o:=by simp [AO]
    rw [this]
    exact hr
   | succ j =>
    have h1:nth LA.bad [LA.arr v v t0 e xs dd] (j+1) = .bad:=by simp [nth]
    have h2:(AO W w' us d (fun j=>if j=0 then some u else none) 0 [] (fun j=>if j=0 then o else [])).om (.lf d (j+1))=[]:=by simp [AO]
    rw [h1,h2]
    exact ⟨rfl,fun _ _=>trivial⟩
  ·show (if false=true then _ else _)
   simp [AO]
 ·intro _ _ gen t e2 xs2 d2 hl hp
  refine ⟨u,e2, ?_,rfl,rfl⟩
  simp [AO]
def Jc (s:St) (W:Wd) (v:Nat) (b:LA) (u:Value) (o:List Nat) (us:List (Nat×Nat)):Prop :=
 u.oneCell'=true∧o.Nodup∧(∀ b∈o,∃ r j,(r,j)∈us∧b∈W.om (.lf r j))∧match b with
  | .arr AA gen _ e xs d=>AA=v∧gen=v∧AD e d W.w W.fz u xs o
  | b=>o=[]∧AR s W b u∧v∉b.AH
theorem Ng (A:Option Addr) (n c:Nat):(Value.slice A n c).cells = #[.slice A n c]:=rfl
theorem Ej {u:Value} (h:u.oneCell'=true):u.cells = #[u]:=by
 cases u <;> first | rfl | cases h
theorem Mi:∀ (l:L) {w:World} {fz:Nat→Prop} {u:Value} {x:l.D},l.rd 0 w fz u x []→u.oneCell'=true
 | .int k,_,_,u,x,h=>by rw [show u = .int k x from h.1];rfl
 | .bool,_,_,u,x,h=>by rw [show u = .bool x from h.1];rfl
 | .str,_,_,u,x,h=>by rw [show u = .string ⟨x.toArray⟩ from h.1];rfl
 | .sl _ e,_,_,u,x,h=>by obtain ⟨A,c,hu,_⟩:=AD.len (show AD e 0 _ _ u x [] from h);rw [hu];rfl
theorem K2 (h:AW E s tm W) {la:LA} (hva:v∉la.AH) {u:Value} (hu:AR s W la u) {l:L} {k:LA→List (Nat×Nat)→Step β} (hl:(s.take cx v la l k).leads t) :
  ∃ b us o,(k b us).leads t∧Jc s W v b u o us∧(∀ x∈us,cx.KM x.1=false)∧us.length≤1:=by
 unfold St.take at hl
 cases la with
 | sc m x =>
  simp only at hl
  split at hl
  ·exact ⟨_,_,[],hl,⟨Mi m hu,List.nodup_nil,(fun b hb=>by cases hb),rfl,hu,hva⟩,(fun x hx=>by cases hx),by simp⟩
  ·exact hl.elim
 | DC =>
  cases l with
  | sl t' e =>
   refine ⟨_,_,[],hl,⟨by rw [show u = .slice none 0 0 from hu];rfl,List.nodup_nil,(fun b hb=>by cases hb),rfl,rfl, ?_⟩,(fun x hx=>by cases hx),by simp⟩
   rw [show u = .slice none 0 0 from hu];exact Bz
  | _=>exact hl.elim
 | ref c =>
  simp only at hl
  split at hl
  ·rename_i AA gen t' e xs d hleaf
   split at hl
   ·rename_i hc
    simp only [Bool.and_eq_true,beq_iff_eq,Bool.not_eq_true'] at hc
    obtain ⟨⟨⟨hver,hp⟩,hpin⟩,hk⟩:=hc
    subst hver
    have hp:c.p=[]:=by cases hq:c.p <;> simp_all [isNil]
    obtain ⟨h',e',hcv,hn⟩:=hu gen t' e xs d hleaf (.inl hp)
    rw [hp] at hn
    obtain ⟨rfl,rfl⟩:=hn
    obtain ⟨u',hu',hrd⟩:=(h.roots c.r).row hleaf
    rw [hcv] at hu';injection hu' with hu';subst hu'
    obtain ⟨A,cc,huv,_⟩:=hrd.len
    refine ⟨_,_,W.om (.lf c.r c.j),hl,⟨by rw [huv];rfl,h.sep.nodup _,fun b hb=>⟨c.r,c.j,by simp,hb⟩,rfl,rfl,hrd⟩,fun x hx => ?_,by simp⟩
    simp at hx;subst hx;exact hpin
   ·split at hl
    ·obtain ⟨t2,e2,ys,d2,o2,hl,hr,ho⟩:=DG h hu hl
     split at hl
     ·obtain ⟨u0,_,hr0⟩:=(h.roots c.r).row hleaf
      have hz:W.om (.lf c.r c.j)=[]:=AD.zero hr0
      obtain ⟨A,cc,huv,_⟩:=hr.len
      exact ⟨_,_,[],hl,⟨by rw [huv];rfl,List.nodup_nil,(fun b hb=>by cases hb),rfl,hr.freeze fun b hb=>hb.elim id fun hb=>(by have:=ho b hb;rw [hz] at this;cases this),by simp [LA.AH]⟩,(fun x hx=>by cases hx),by simp⟩
     ·exact hl.elim
    ·exact hl.elim
  ·exact hl.elim
 | D7 c lo hi =>
  simp only at hl
  split at hl
  ·rename_i AA gen t' e xs d hleaf
   split at hl
   ·rename_i hc
    simp only [Bool.and_eq_true,beq_iff_eq,Bool.not_eq_true'] at hc
    obtain ⟨⟨⟨hver,hp⟩,hpin⟩,hk⟩:=hc
    subst hver
    have hp:c.p=[]:=by cases hq:c.p <;> simp_all [isNil]
    obtain ⟨h',e',A,n,k0,hcv,hn,h1,h2,huv⟩:=hu gen t' e xs d hleaf (.inl hp)
    rw [hp] at hn
    obtain ⟨rfl,rfl⟩:=hn
    obtain ⟨u',hu',hrd⟩:=(h.roots c.r).row hleaf
    rw [hcv] at hu';injection hu' with hu';subst hu'
    obtain ⟨o',q1,q2,q3⟩:=CK.sub hrd h1 h2
    refine ⟨_,_,o',hl,⟨by rw [huv];rfl,q3 (h.sep.nodup _),fun b hb=>⟨c.r,c.j,by simp,q2 b hb⟩,rfl,rfl, ?_⟩,fun x hx => ?_,by simp⟩
    ·rw [huv];exact q1
    ·simp at hx;subst hx;exact hpin
   ·exact hl.elim
  ·exact hl.elim
 | ptr r j AA =>
  simp only at hl
  split at hl
  ·rename_i hc
   simp only [Bool.and_eq_true,beq_iff_eq] at hc
   refine ⟨_,_,[],hl,⟨by rw [hu hc.1 hc.2];rfl,List.nodup_nil,(fun b hb=>by cases hb),rfl,hu,hva⟩,(fun x hx=>by cases hx),by simp⟩
  ·exact hl.elim
 | fn f=>exact ⟨_,_,[],hl,⟨by rw [show u=_ from hu];rfl,List.nodup_nil,(fun b hb=>by cases hb),rfl,hu,hva⟩,(fun x hx=>by cases hx),by simp⟩
 | _=>exact hl.elim
theorem Ec (h:AW E s tm W):∀ {ls:List L} {as:List LA} {g:Nat→Option Value} {k:List LA→List (Nat×Nat)→Step β},(∀ (j:Nat) (b:LA),as[j]? = some b→v∉b.AH∧∃ u,g j=some u∧AR s W b u) →
  (s.Ft cx v ls as k).leads t→∃ (bs:List LA) (us:List (Nat×Nat)) (os:Nat→List Nat),(k bs us).leads t∧bs.length=as.length∧as.length=ls.length∧us.Nodup∧(∀ x∈us,cx.KM x.1=false) ∧
   (∀ i j,i≠j→∀ b∈os i,b∉os j)∧(∀ j,as.length≤j→os j=[])∧∀ (j:Nat) (b:LA),bs[j]? = some b→∃ u,g j=some u∧Jc s W v b u (os j) us
 | [],[],g,k,hg,hl=>⟨[],[],fun _=>[],hl,rfl,rfl,List.nodup_nil,(fun x hx=>by cases hx),(fun _ _ _ b hb=>by cases hb),fun _ _=>rfl,(fun j b hb=>by simp at hb)⟩
 | [],_::_,g,k,hg,hl=>hl.elim
 | _::_,[],g,k,hg,hl=>hl.elim
 | l::ls,a::as,g,k,hg,hl=>by
  obtain ⟨hva,u,hu,ha⟩:=hg 0 a rfl
  obtain ⟨b,us,o,hl,hb,hbx,hlen1⟩:=K2 h hva ha hl
  obtain ⟨bs,vs,os,hl,hlen,hlen2,hnd,hbx2,hdis,hbig,hbs⟩:=Ec h (g:=fun j=>g (j+1)) (fun j b hj=>hg (j+1) b (by simpa using hj)) hl
  split at hl
  ·rename_i hall
   have hapart:∀ x∈us,x∉vs:=by
    intro x hx hx'
    have:=List.all_eq_true.1 hall x hx
    simp at this
    exact this hx'
   refine ⟨b::bs,us++vs,fun j=>match j with | 0=>o | j+1=>os j,hl,by simp [hlen],by simp [hlen2], ?_, ?_, ?_, ?_, ?_⟩
   ·refine List.nodup_append.2 ⟨?_,hnd,fun x hx y hy e=>hapart x hx (e ▸ hy)⟩
    match us,hlen1 with
    | [],_=>exact List.nodup_nil
    | [x],_=>exact List.nodup_cons.2 ⟨by simp,List.nodup_nil⟩
   ·intro x hx
    rcases List.mem_append.1 hx with hx | hx
    ·exact hbx x hx
    ·exact hbx2 x hx
   ·have cross:∀ j,∀ y∈o,y∉os j:=by
     intro j y hy hy'
     obtain ⟨r,jj,hm,h1⟩:=hb.2.2.1 y hy
     by_cases hj:j<bs.length
     ·obtain ⟨u',_,ht⟩:=hbs j bs[j] (List.getElem?_eq_getElem hj)
      obtain ⟨r',jj',hm',h1'⟩:=ht.2.2.1 y hy'
      by_cases he:(r,jj)=(r',jj')
      ·exact hapart _ hm (by rw [he];exact hm')
      ·exact h.sep.A6 (.lf r jj) (.lf r' jj') (fun e=>he (by injection e with e1 e2;rw [e1,e2])) y h1 h1'
     ·rw [hbig j (by omega)] at hy';cases hy'
    intro i j hij
    cases i with
    | zero=>cases j with
     | zero=>exact absurd rfl hij
     | succ j=>exact cross j
    | succ i=>cases j with
     | zero=>exact fun y hy hy'=>cross i y hy' hy
     | succ j=>exact hdis i j (fun e=>hij (by rw [e]))
   ·intro j hj
    cases j with
    | zero=>simp at hj
    | succ j=>exact hbig j (by simpa using hj)
   ·intro j y hy
    cases j with
    | zero =>
     simp at hy;subst hy
     refine ⟨u,hu,hb.1,hb.2.1,fun z hz => ?_,hb.2.2.2⟩
     obtain ⟨r,jj,hm,h1⟩:=hb.2.2.1 z hz
     exact ⟨r,jj,List.mem_append_left _ hm,h1⟩
    | succ j =>
     obtain ⟨u',hu',ht⟩:=hbs j y (by simpa using hy)
     refine ⟨u',hu',ht.1,ht.2.1,fun z hz => ?_,ht.2.2.2⟩
     obtain ⟨r,jj,hm,h1⟩:=ht.2.2.1 z hz
     exact ⟨r,jj,List.mem_append_right _ hm,h1⟩
  ·exact hl.elim
end
end Go.Ev
namespace Go.Ev
set_option linter.unusedVariables false
set_option linter.unusedSimpArgs false
section
variable {P:Program} {E:Cq} {s:St} {W:Wd} {o:Oper} {a:Act} {ws:List Wr} {cx:Cx} {v:Nat} {tm:Array Value}
theorem Be (h:AW E s a.tmps W) {u:Value} {w':World} {W':Wd} {d:Nat} (hd:o.dst=some d) (hrun:(execOp a.eval o).run P W.w = .ok (.value u) w') (hw:W'.w=w')
  (hr:AW E (s.app ws) (a.tmps.setIfInBounds d u) W'):Bc P E o a W.w (s.app ws):=by
 intro next Q hn
 unfold Oper.wp
 rw [hrun]
 show next (a.put o.dst u) w'
 rw [hd, ← hw]
 exact hn _ W' rfl hr
theorem OE {us:List (Nat×Nat)} {d:Nat}:∀ b,(W.fz b∨∃ k,Kept us d k∧b∈W.om k)→W.w.heap[b]? = W.w.heap[b]? := fun _ _=>rfl
theorem Ab (x:Value):(ofConst x).AH=[]:=by
 cases x with
 | slice A n c =>
  cases A with
  | none=>cases n with
   | zero=>cases c <;> rfl
   | succ n=>rfl
  | some a=>rfl
 | pointer A=>cases A <;> rfl
 | _=>rfl
theorem Fo (hv:Ae s v) (x:Operand):v∉(s.Ap x).AH:=by
 cases x with
 | tmp t=>exact hv.1 t
 | const c =>
  cases c with
  | agg cs =>
   show v∉(cs.toList.map ofConst).flatMap LA.AH
   intro hin
   obtain ⟨b,hb,hin⟩:=List.mem_flatMap.1 hin
   obtain ⟨y,_,rfl⟩:=List.mem_map.1 hb
   rw [Ab] at hin;cases hin
  | bool b=>simp [St.Ap,AV.AH,Ab]
  | int k n=>simp [St.Ap,AV.AH,Ab]
  | float k n=>simp [St.Ap,AV.AH,Ab]
  | complex k x y=>simp [St.Ap,AV.AH,Ab]
  | string b=>simp [St.Ap,AV.AH,Ab]
  | pointer b=>simp [St.Ap,AV.AH,Ab]
  | slice b n c=>simp [St.Ap,AV.AH,Ab]
  | map r=>simp [St.Ap,AV.AH,Ab]
  | chan r=>simp [St.Ap,AV.AH,Ab]
  | func f x y=>simp [St.Ap,AV.AH,Ab]
  | nilFunc=>simp [St.Ap,AV.AH,Ab]
  | iface t x=>simp [St.Ap,AV.AH,Ab]
  | nilIface=>simp [St.Ap,AV.AH,Ab]
  | tuple vs=>simp [St.Ap,AV.AH,Ab]
 | global g=>simp [St.Ap,AV.AH,LA.AH]
 | func f=>simp [St.Ap,AV.AH,LA.AH]
theorem MR {x:AV} (h:v∉x.AH):v∉x.one?.AH:=by
 cases x with
 | De vs=>simp [AV.one?,LA.AH]
 | bx as=>simp [AV.one?,LA.AH]
 | v g as =>
  cases g with
  | true=>simp [AV.one?,LA.AH]
  | false=>cases as with
   | nil=>simp [AV.one?,LA.AH]
   | cons b bs=>cases bs with
    | nil=>simpa [AV.one?,AV.AH] using h
    | cons=>simp [AV.one?,LA.AH]
theorem Ip (hv:Ae s v) (x:Operand):v∉(s.Ai x).AH:=MR (Fo hv x)
theorem LX (h:AW E s a.tmps W) (hv:Ae s v) {x:Operand} (ho:o.op = .assign x) (hd:∀ d,o.dst=some d→d<a.tmps.size) (hl:(AB cx v o s).leads ws):Bc P E o a W.w (s.app ws):=by
 simp only [AB,ho] at hl
 have hrun:(execOp a.eval o).run P W.w = .ok (.value (a.eval x)) W.w:=by simp [execOp,ho]
 have h1:=Ad h x
 have hva:=Ip hv x
 cases hds:o.dst with
 | none=>rw [hds] at hl;exact hl.elim
 | some d =>
  rw [hds] at hl
  dsimp only at hl
  generalize s.Ai x=p at hl h1 hva
  have val:∀ y,AR s W y (a.eval x)→ws=[.slot d (one y)]→Bc P E o a W.w (s.app ws):=by
   intro y hy hws
   subst hws
   exact Be h hds hrun rfl (h.slot d (show BY s W (one y) _ from hy))
  split at hl
  ·exact val _ h1 hl.symm
  ·exact val _ h1 hl.symm
  ·exact val _ h1 hl.symm
  ·exact val _ h1 hl.symm
  ·exact val _ h1 hl.symm
  ·exact val _ h1 hl.symm
  ·split at hl
   ·exact hl.elim
   ·split at hl
    ·rename_i ty hty
     split at hl
     ·rename_i l hls
      obtain ⟨b,us,oo,hl,hb,hbx,_⟩:=K2 h hva h1 hl
      split at hl
      ·rename_i t e xs dd
       have hl:_=ws:=hl
       obtain ⟨hcells,hnd,hfrom,rfl,rfl,hrow⟩:=hb
       obtain ⟨W',hW',hrep⟩:=h.Cl hv us (hd d hds) (t0:=t) (w':=W.w) (fun b hb=>rfl) (fun b _ _=>rfl) (Nat.le_refl _) ⟨rfl,rfl,rfl⟩ hrow hnd (fun b hb => .inl (hfrom b hb))
       rw [hl] at hrep
       exact Be h hds hrun hW' hrep
      ·exact hl.elim
     ·exact hl.elim
    ·exact hl.elim
theorem Kc (h:AW E s a.tmps W) (hv:Ae s v) {x:Operand} (ho:o.op = .move x) (hn:Hq (s.Ap x)=true) (hd:∀ d,o.dst=some d→d<a.tmps.size) (hl:(AB cx v o s).leads ws):Bc P E o a W.w (s.app ws):=by
 simp only [AB,ho,hn,if_true] at hl
 have hval:a.eval x = .slice none 0 0:=by
  have h1:=BG h x
  revert hn h1
  generalize s.Ap x=p
  intro hn h1
  unfold Hq at hn
  split at hn
  ·exact h1
  ·cases hn
 split at hl
 ·rename_i ty d hty hds
  split at hl
  ·exact hl.elim
  ·split at hl
   ·rename_i t e hls
    have hl:_=ws:=hl
    obtain ⟨W',hW',hrep⟩:=h.Cl hv [] (hd d hds) (t0:=t) (e:=e) (xs:=[]) (dd:=2) (u := .slice none 0 0) (w':=W.w) (o:=[]) (fun b hb=>rfl) (fun b _ _=>rfl) (Nat.le_refl _) ⟨rfl,rfl,rfl⟩ Bz List.nodup_nil (fun b hb=>by cases hb)
    rw [← hl]
    exact Be h hds (by simp [execOp,ho,hval]) hW' hrep
   ·exact hl.elim
 ·exact hl.elim
theorem A9 (w:World) (x:Obj) {b:Nat} (h:b<w.heap.size):(w.alloc x).heap[b]? = w.heap[b]? := heap_alloc_old w x h
theorem Ac (w:World) (x:Obj):(w.alloc x).heap.size=w.heap.size+1:=by show (w.heap.push x).size=_;simp
theorem Ea (h:AW E s tm W) (x:Obj) {us:List (Nat×Nat)} {d:Nat}:∀ b,(W.fz b∨∃ k,Kept us d k∧b∈W.om k)→(W.w.alloc x).heap[b]? = W.w.heap[b]? := by
 intro b hb
 refine A9 _ _ ?_
 rcases hb with hb | ⟨k,_,hb⟩
 ·exact (h.sep.fz b hb).1
 ·exact (h.sep.own k b hb).2.1
theorem AW.H4 (h:AW E s tm W) (hv:Ae s v) {us:List (Nat×Nat)} {d:Nat} (hd:d<tm.size) {bs:List LA} {cs:Array Value} {T:TypeId} {os:Nat→List Nat}
  (hlen:cs.size=bs.length) (hbs:∀ (j:Nat) (b:LA),bs[j]? = some b→∃ u,cs[j]? = some u∧Jc s W v b u (os j) us) (hdis:∀ i j,i≠j→∀ b∈os i,b∉os j) (hbig:∀ j,bs.length≤j→os j=[]) :
  ∃ W',W'.w=W.w.alloc (.cells cs T)∧AW E (s.app (gone us++GC d v bs)) (tm.setIfInBounds d (.pointer (some ⟨W.w.heap.size,0,none⟩))) W':=by
 refine ⟨AO W (W.w.alloc (.cells cs T)) us d (fun j=>cs[j]?) W.w.heap.size [W.w.heap.size] os,rfl, ?_⟩
 have hnth:∀ j,j<bs.length→∃ u,cs[j]? = some u∧Jc s W v (nth .bad bs j) u (os j) us:=by
  intro j hj
  have:=hbs j bs[j] (List.getElem?_eq_getElem hj)
  rw [Ah,List.getElem?_eq_getElem hj];exact this
 have hosub:∀ j,∀ b∈os j,∃ r k,(r,k)∈us∧b∈W.om (.lf r k):=by
  intro j b hb
  by_cases hj:j<bs.length
  ·obtain ⟨u,_,ht⟩:=hnth j hj;exact ht.2.2.1 b hb
  ·rw [hbig j (by omega)] at hb;cases hb
 have hold:∀ j,∀ b∈os j,b<W.w.heap.size:=by
  intro j b hb
  obtain ⟨r,k,_,h1⟩:=hosub j b hb
  exact (h.sep.own _ b h1).2.1
 refine h.place hv hd rfl ?_ (Ea h _) (fun b hb _=>A9 _ _ (by have:=h.sep.size;omega)) (by rw [Ac];omega) ⟨rfl,rfl,rfl⟩ (List.nodup_cons.2 ⟨by simp,List.nodup_nil⟩) ?_ ?_ hdis ?_ ?_ ?_
 ·intro j AA gen t e xs dd hl
  by_cases hj:j<bs.length
  ·obtain ⟨u,_,ht⟩:=hnth j hj
   dsimp only at hl
   rw [hl] at ht
   exact ht.2.2.2.1
  ·dsimp only at hl
   rw [A3 LA.bad (Nat.le_of_not_lt hj)] at hl;cases hl
 ·intro j
  by_cases hj:j<bs.length
  ·obtain ⟨u,_,ht⟩:=hnth j hj;exact ht.2.1
  ·rw [hbig j (by omega)];exact List.nodup_nil
 ·intro j b hb hb'
  simp at hb;subst hb
  have:=hold j _ hb';omega
 ·intro b hb
  rcases hb with hb | ⟨j,hb⟩
  ·simp at hb;subst hb;exact .inr ⟨Nat.le_refl _,by rw [Ac];omega⟩
  ·exact .inl (hosub j b hb)
 ·intro hturn hroot
  refine ⟨fun j => ?_, ?_⟩
  ·have e1:(AO W (W.w.alloc (.cells cs T)) us d (fun j=>cs[j]?) W.w.heap.size [W.w.heap.size] os).cv d j=cs[j]? := by simp [AO]
   have e2:(AO W (W.w.alloc (.cells cs T)) us d (fun j=>cs[j]?) W.w.heap.size [W.w.heap.size] os).om (.lf d j)=os j:=by simp [AO]
   rw [e1,e2]
   show Aa _ _ (nth LA.bad bs j) _ _
   by_cases hj:j<bs.length
   ·obtain ⟨u,hu,ht⟩:=hnth j hj
    obtain ⟨_,_,_,ht⟩:=ht
    generalize nth LA.bad bs j=b at ht
    unfold Aa
    cases b with
    | arr AA gen t e xs dd =>
     obtain ⟨_,_,hr⟩:=ht
     exact ⟨u,hu,hr.frame (fun b hb=>A9 _ _ (hb.elim (hold j b) fun hb=>(h.sep.fz b hb).1)) fun b hb=>hb⟩
    | _=>exact ⟨ht.1,fun u' hu'=>by rw [hu] at hu';injection hu' with hu';subst hu';exact AR.Df hturn ht.2.2 ht.2.1⟩
   ·rw [A3 LA.bad (Nat.le_of_not_lt hj),hbig j (by omega)]
    exact ⟨rfl,fun _ _=>trivial⟩
  ·show (if true=true then _ else _)
   rw [if_pos rfl]
   refine ⟨by simp [AO],cs,T,(0,0), ?_,by intro j _;simp,hlen,fun j=>by simp [AO]⟩
   have:(AO W (W.w.alloc (.cells cs T)) us d (fun j=>cs[j]?) W.w.heap.size [W.w.heap.size] os).bk d=W.w.heap.size:=by simp [AO]
   rw [this]
   exact heap_alloc_new _ _
 ·intro hturn hroot
  intro hb hver
  have:(AO W (W.w.alloc (.cells cs T)) us d (fun j=>cs[j]?) W.w.heap.size [W.w.heap.size] os).bk d=W.w.heap.size:=by simp [AO]
  rw [this]
theorem BB:∀ ls:Ls,ls.kinds.length=ls.n
 | .nil=>rfl
 | .one _=>rfl
 | .cons _ ls=>by simp [Ls.kinds,Ls.n,BB ls]
theorem Lq (l:L):Jc s W v (I2 v l) (CJ l) [] []:=by
 cases l with
 | int k=>exact ⟨rfl,List.nodup_nil,(fun b hb=>by cases hb),rfl,⟨rfl,rfl⟩,by simp [I2,LA.AH]⟩
 | bool=>exact ⟨rfl,List.nodup_nil,(fun b hb=>by cases hb),rfl,⟨rfl,rfl⟩,by simp [I2,LA.AH]⟩
 | str=>exact ⟨rfl,List.nodup_nil,(fun b hb=>by cases hb),rfl,⟨rfl,rfl⟩,by simp [I2,LA.AH]⟩
 | sl t e=>exact ⟨rfl,List.nodup_nil,(fun b hb=>by cases hb),rfl,rfl,Bz⟩
theorem MS (hc:Dg P cx) (hft:Lt P cx.env) (h:AW E s a.tmps W) (hv:Ae s v) {t:TypeId} (ho:o.op = .alloc t) (hd:∀ d,o.dst=some d→d<a.tmps.size) (hl:(AB cx v o s).leads ws):Bc P E o a W.w (s.app ws):=by
 simp only [AB,ho] at hl
 split at hl
 ·rename_i ty d ht hds
  have hl:_=ws:=hl
  obtain ⟨i,hi,hsz,z,hz,hzc,_⟩:=(hc t ty ht).info
  obtain ⟨W',hW',hrep⟩:=h.H4 hv (us:=[]) (hd d hds) (bs:=ty.ls.kinds.map (I2 v)) (cs:=(ty.ls.kinds.map CJ).toArray) (T:=t) (os:=fun _=>[]) (by simp)
   (fun j b hb=>by
    simp only [List.getElem?_map] at hb
    cases hq:ty.ls.kinds[j]? with
    | none=>rw [hq] at hb;cases hb
    | some l =>
     rw [hq] at hb;injection hb with hb;subst hb
     exact ⟨CJ l,by simp [hq],Lq l⟩) (fun i j _ b hb=>by cases hb) (fun _ _=>rfl)
  rw [← hl]
  refine Be h hds ?_ hW' hrep
  simp [execOp,ho,Instr.alloc,zeroValue,typeInfo,hi,hz,newVar,newRow,hzc]
 ·rename_i d ht hds
  split at hl
  ·rename_i hf
   have hl:_=ws:=hl
   obtain ⟨i,z,c,hi,hsz,hz,hzc,hone⟩:=hft t hf
   obtain ⟨W',hW',hrep⟩:=h.H4 hv (us:=[]) (hd d hds) (bs:=[.bad]) (cs := #[c]) (T:=t) (os:=fun _=>[]) rfl
    (fun j b hb=>by
     cases j with
     | zero=>simp at hb;subst hb;exact ⟨c,rfl,hone,List.nodup_nil,(fun b hb=>by cases hb),rfl,trivial,by simp [LA.AH]⟩
     | succ j=>simp at hb) (fun i j _ b hb=>by cases hb) (fun _ _=>rfl)
   rw [← hl]
   refine Be h hds ?_ hW' hrep
   simp [execOp,ho,Instr.alloc,zeroValue,typeInfo,hi,hz,newVar,newRow,hzc]
  ·exact hl.elim
 ·exact hl.elim
theorem I0 {g:Bool} {as:List LA} {u:Value} (hu:Ex s W g as u) (hone:g=false→u.cells = #[u]):u.cells.size=as.length∧∀ (j:Nat) (b:LA),as[j]? = some b→∃ y,u.cells[j]? = some y∧AR s W b y:=by
 cases g with
 | true =>
  obtain ⟨cs,rfl,hsz,hget⟩:=hu
  exact ⟨hsz,hget⟩
 | false =>
  have:=hone rfl
  rw [this]
  cases as with
  | nil=>exact hu.elim
  | cons b bs=>cases bs with
   | cons=>exact hu.elim
   | nil =>
    refine ⟨rfl,fun j y hy => ?_⟩
    cases j with
    | zero=>simp at hy;subst hy;exact ⟨u,rfl,hu⟩
    | succ j=>simp at hy
theorem AW.LY (h:AW E s tm W) (hv:Ae s v) {d:Nat} {as:List LA} {cs:Array Value} {T:TypeId} (hva:v∉as.flatMap LA.AH)
  (has:∀ (j:Nat) (b:LA),as[j]? = some b→∃ u,cs[j]? = some u∧AR s W b u) :
  ∃ W',W'.w=W.w.alloc (.cells cs T)∧AW E (s.app [.slot d (.bx as)]) (tm.setIfInBounds d (.pointer (some ⟨W.w.heap.size,0,none⟩))) W':=by
 have hold:∀ b,b<W.w.heap.size→(W.w.alloc (.cells cs T)).heap[b]? = W.w.heap[b]? := fun b hb=>A9 _ _ hb
 have hrep:AW E s tm { W with w:=W.w.alloc (.cells cs T),fz:=fun b=>W.fz b∨b=W.w.heap.size }:=by
  have hturn:EG v s s W { W with w:=W.w.alloc (.cells cs T),fz:=fun b=>W.fz b∨b=W.w.heap.size }:={
   fz:=fun b hb => .inl hb
   LL:=fun b hb=>hold b (h.sep.fz b hb).1
   leaf:=fun r j AA gen t e xs dd hl hne=>⟨rfl,gen,t,xs,dd,hl,fun _=>⟨rfl,fun p h' e' u hc' hn=>by
    obtain ⟨u0,hu0,hrd⟩:=(h.roots r).row hl
    rw [hc'] at hu0;injection hu0 with hu0;subst hu0
    exact BN p hrd hn fun b hb=>hold b (hb.elim (fun hb=>(h.sep.own _ b hb).2.1) fun hb=>(h.sep.fz b hb).1)⟩⟩
   box:=fun r hb hne=>⟨hb,rfl,rfl⟩ }
  refine h.H9 hv hturn ?_ h.DB h.Bx (fun t => .inl ⟨rfl,rfl⟩) fun r => ?_
  ·have hs:=h.sep
   exact {
    nodup:=hs.nodup
    A6:=hs.A6
    own:=fun k b hb=>by
     obtain ⟨a1,a2,a3⟩:=hs.own k b hb
     refine ⟨fun hz=>hz.elim a1 fun e => ?_,by rw [Ac];exact Nat.lt_succ_of_lt a2,a3⟩
     subst e;exact Nat.lt_irrefl _ a2
    fz:=fun b hb=>by
     rcases hb with hb | rfl
     ·obtain ⟨a1,a2⟩:=hs.fz b hb
      exact ⟨by rw [Ac];exact Nat.lt_succ_of_lt a1,a2⟩
     ·exact ⟨by rw [Ac];exact Nat.lt_succ_self _, .inr (.inl hs.size)⟩
    frame:=fun b h1 h2=>(hold b (by have:=hs.size;omega)).trans (hs.frame b h1 h2)
    size:=by rw [Ac];exact Nat.le_succ_of_le hs.size
    rest:=hs.rest }
  ·obtain ⟨h1,h2⟩:=h.roots r
   refine ⟨fun j => ?_, ?_⟩
   ·exact Aa.Df hturn (by have:=hv.2.1 r j;exact this) (fun b hb=>hold b (h.sep.own _ b hb).2.1) (h1 j)
   ·show (if (s.root r).box=true then _ else _)
    split
    ·rename_i hb
     rw [if_pos hb] at h2
     obtain ⟨ho',arr',T',fr',hh',a1,a2,a3⟩:=h2
     refine ⟨ho',arr',T',fr',(hold _ ?_).trans hh',a1,a2,a3⟩
     exact (Array.getElem?_eq_some_iff.1 hh').1
    ·rename_i hb;rw [if_neg hb] at h2;exact h2
 refine ⟨_,rfl,hrep.slot d ?_⟩
 refine ⟨W.w.heap.size,0,cs,T,(0,0),rfl, .inr rfl,heap_alloc_new _ _,by intro j _;simp,fun j b hb => ?_⟩
 obtain ⟨u,hu,hok⟩:=has j b hb
 refine ⟨u,by rw [Nat.zero_add];exact hu, ?_⟩
 refine AR.Df (v:=v) (s:=s) (W:=W) ?_ (fun hin=>hva (List.mem_flatMap.2 ⟨b,List.mem_of_getElem? hb,hin⟩)) hok
 exact {
   fz:=fun b hb => .inl hb
   LL:=fun b hb=>hold b (h.sep.fz b hb).1
   leaf:=fun r j AA gen t e xs dd hl hne=>⟨rfl,gen,t,xs,dd,hl,fun _=>⟨rfl,fun p h' e' u hc' hn=>by
    obtain ⟨u0,hu0,hrd⟩:=(h.roots r).row hl
    rw [hc'] at hu0;injection hu0 with hu0;subst hu0
    exact BN p hrd hn fun b hb=>hold b (hb.elim (fun hb=>(h.sep.own _ b hb).2.1) fun hb=>(h.sep.fz b hb).1)⟩⟩
   box:=fun r hb hne=>⟨hb,rfl,rfl⟩ }
theorem N3 (hc:Dg P cx) (h:AW E s a.tmps W) (hv:Ae s v) {t:TypeId} {x:Operand} (ho:o.op = .box t x) (hd:∀ d,o.dst=some d→d<a.tmps.size) (hl:(AB cx v o s).leads ws):Bc P E o a W.w (s.app ws):=by
 simp only [AB,ho] at hl
 have h1:=BG h x
 have hva:=Fo hv x
 generalize s.Ap x=p at hl h1 hva
 split at hl
 ·rename_i ty d g as ht hds
  split at hl
  ·rename_i hlent
   simp only [Bool.and_eq_true] at hlent
   obtain ⟨hg,_⟩:=hlent
   subst hg
   have hl:_=ws:=hl
   obtain ⟨cs,hcs,hsz,hget⟩:=h1
   obtain ⟨W',hW',hrep⟩:=h.LY hv (d:=d) (as:=as) (cs:=cs) (T:=t) hva hget
   rw [← hl]
   refine Be h hds ?_ hW' hrep
   simp [execOp,ho,Instr.box,newVar,newRow,hcs,Value.cells]
  let gg:Nat→Option Value:=fun j=>match g with | true=>(a.eval x).cells[j]? | false=>if j=0 then some (a.eval x) else none
  have hgg:∀ (j:Nat) (b:LA),as[j]? = some b→v∉b.AH∧∃ u,gg j=some u∧AR s W b u:=by
   intro j b hb
   refine ⟨fun hin=>hva (List.mem_flatMap.2 ⟨b,List.mem_of_getElem? hb,hin⟩), ?_⟩
   cases g with
   | true=>obtain ⟨cs,hcs,_,hget⟩:=h1;obtain ⟨u,hu,hok⟩:=hget j b hb;exact ⟨u,by simp only [gg,hcs];exact hu,hok⟩
   | false =>
    cases as with
    | nil=>exact h1.elim
    | cons b' bs=>cases bs with
     | cons=>exact h1.elim
     | nil=>cases j with
      | zero=>simp at hb;subst hb;exact ⟨a.eval x,by simp [gg],h1⟩
      | succ j=>simp at hb
  obtain ⟨bs,us,os,hl,hlen,hlen2,hnd,hbx,hdis,hbig,hbs⟩:=Ec (v:=v) h hgg hl
  split at hl
  ·have hl:_=ws:=hl
   have hone:g=false→(a.eval x).cells = #[a.eval x]:=by
    intro hg
    subst hg
    cases as with
    | nil=>exact h1.elim
    | cons b' bs'=>cases bs' with
     | cons=>exact h1.elim
     | nil =>
      match bs,hlen,hbs with
      | [b],_,hbs=>obtain ⟨u,hu,ht⟩:=hbs 0 b rfl;simp [gg] at hu;subst hu;exact Ej ht.1
   have hcs:=I0 h1 hone
   have hgc:∀ j u,gg j=some u→(a.eval x).cells[j]? = some u:=by
    intro j u hj
    cases g with
    | true=>exact hj
    | false =>
     rw [hone rfl]
     by_cases h0:j=0
     ·subst h0;simpa [gg] using hj
     ·simp [gg,h0] at hj
   obtain ⟨W',hW',hrep⟩:=h.H4 hv (us:=us) (hd d hds) (bs:=bs) (cs:=(a.eval x).cells) (T:=t) (os:=os) (by rw [hcs.1,hlen])
    (fun j b hb=>by obtain ⟨u,hu,ht⟩:=hbs j b hb;exact ⟨u,hgc j u hu,ht⟩) hdis (fun j hj=>hbig j (by omega))
   rw [← hl]
   refine Be h hds ?_ hW' hrep
   simp [execOp,ho,Instr.box,newVar,newRow]
  ·exact hl.elim
 ·exact hl.elim
end
end Go.Ev
namespace Go.Ev
set_option linter.unusedVariables false
set_option linter.unusedSimpArgs false
def B9:List Value→Nat→Array Value→Array Value
 | [],_,arr=>arr
 | v::r,o,arr=>B9 r (o+1) (arr.setIfInBounds o v)
theorem Al:∀ (vs:List Value) (o:Nat) (arr:Array Value),(B9 vs o arr).size=arr.size
 | [],_,_=>rfl
 | v::r,o,arr=>by rw [B9,Al r];simp
theorem CS:∀ (vs:List Value) (o:Nat) (arr:Array Value),o+vs.length≤arr.size→∀ k,(B9 vs o arr)[k]? = if o≤k∧k<o+vs.length then vs[k - o]? else arr[k]?
 | [],o,arr,h,k=>by
  rw [B9,if_neg (by simp)]
 | v::r,o,arr,h,k=>by
  simp only [List.length_cons] at h
  rw [B9,CS r (o+1) _ (by simp;omega) k,Array.getElem?_setIfInBounds]
  by_cases h1:k=o
  ·subst h1
   rw [if_neg (by omega),if_pos rfl,if_pos (by omega),if_pos (by simp)]
   simp
  ·by_cases h2:o+1≤k∧k<o+1+r.length
   ·rw [if_pos h2,if_pos (by simp;omega)]
    obtain ⟨j,rfl⟩:∃ j,k=o+1+j:=⟨k - (o+1),by omega⟩
    rw [show o+1+j - (o+1)=j by omega,show o+1+j - o=j+1 by omega]
    rfl
   ·rw [if_neg h2,if_neg (fun e=>h1 e.symm),if_neg (by simp;omega)]
structure My (w w':World) (b:Nat) (arr':Array Value) (T:TypeId) (fr:Nat×Nat):Prop where
 here:w'.heap[b]? = some (.cells arr' T fr)
 CG:∀ c,c≠b→w'.heap[c]? = w.heap[c]?
 size:w'.heap.size=w.heap.size
 rest:w'.os=w.os∧w'.tape=w.tape∧w'.output=w.output
theorem Fs (b:Nat) {T:TypeId} {fr:Nat×Nat}:∀ (vs:List Value) (o:Nat) (w:World) (arr:Array Value),w.heap[b]? = some (.cells arr T fr)→My w (w.setCells b o vs) b (B9 vs o arr) T fr
 | [],o,w,arr,h=>⟨h,fun _ _=>rfl,rfl,rfl,rfl,rfl⟩
 | v::r,o,w,arr,h=>by
  have h1:(w.setCell ⟨b,o,none⟩ v).heap[b]? = some (.cells (arr.setIfInBounds o v) T fr):=by
   rw [setCell_eq_setRow w b o arr T fr v h];exact setRow_heap w b arr _ T fr h
  have ih:=Fs b r (o+1) _ _ h1
  refine ⟨ih.here,fun c hc=>(ih.CG c hc).trans ?_,ih.size.trans ?_,ih.rest⟩
  ·rw [setCell_eq_setRow w b o arr T fr v h];exact setRow_other w b c _ hc
  ·rw [setCell_eq_setRow w b o arr T fr v h];exact setRow_size w b _
theorem DR {P:Program} {w:World} {b o:Nat} {arr:Array Value} {T:TypeId} {fr:Nat×Nat} (vs:List Value) (h:w.heap[b]? = some (.cells arr T fr)) (hb:∀ j,j<arr.size→¬(fr.1≤j∧j<fr.2)) (hl:o+vs.length≤arr.size) (h1:∀ v∈vs,v.oneCell'=true) :
  ∃ w',(storeCells ⟨b,o,none⟩ vs).run P w = .ok () w'∧My w w' b (B9 vs o arr) T fr:=by
 refine ⟨_,run_storeCells_cells b o vs 0 w ?_ ?_ h1, ?_⟩
 ·intro j hj
  simp only [World.cell?,h]
  simp;omega
 ·intro j hj
  have:=hb (o+0+j) (by omega)
  obtain ⟨lo,hi⟩:=fr
  simp only [World.frozen?,h]
  simp at this ⊢
  exact this
 ·exact Fs b vs o w arr h
theorem L.Db:∀ (l:L) {d:Nat} {w:World} {fz:Nat→Prop} {v:Value} {x:l.D} {o:List Nat},l.rd d w fz v x o→v.oneCell'=true
 | .int _,_,_,_,_,_,_,h=>by rw [h.1];rfl
 | .bool,_,_,_,_,_,_,h=>by rw [h.1];rfl
 | .str,_,_,_,_,_,_,h=>by rw [h.1];rfl
 | .sl _ e,_,_,_,_,_,_,h=>by obtain ⟨A,c,hv,_⟩:=h;rw [hv];rfl
theorem Ls.Kv:∀ (e:Ls) {d:Nat} {w:World} {fz:Nat→Prop} {g:Nat→Option Value} {x:e.D} {o:List Nat},e.rd d w fz g x o→∀ j,j<e.n→∃ v,g j=some v∧v.oneCell'=true
 | .nil,_,_,_,_,_,_,h,j,hj=>by simp [Ls.n] at hj
 | .one l,_,_,_,_,_,_,h,j,hj=>by
  simp only [Ls.rd] at h
  obtain ⟨v,hg,h⟩:=h
  simp [Ls.n] at hj;subst hj
  exact ⟨v,hg,L.Db l h⟩
 | .cons l ls,_,_,_,_,_,_,h,j,hj=>by
  simp only [Ls.rd] at h
  obtain ⟨v,o1,o2,hg,h1,h2,_⟩:=h
  cases j with
  | zero=>exact ⟨v,hg,L.Db l h1⟩
  | succ j=>exact Ls.Kv ls h2 j (by simp [Ls.n] at hj;omega)
theorem Ls.BE:∀ (e:Ls) {d:Nat} {w:World} {fz:Nat→Prop} {g g':Nat→Option Value} {x:e.D} {o:List Nat},e.rd d w fz g x o→(∀ j,j<e.n→g' j=g j)→e.rd d w fz g' x o
 | .nil,_,_,_,_,_,_,_,h,_=>h
 | .one l,_,_,_,_,_,_,_,h,hg=>by
  simp only [Ls.rd] at h ⊢
  obtain ⟨v,h0,h⟩:=h
  exact ⟨v,(hg 0 (by simp [Ls.n])).trans h0,h⟩
 | .cons l ls,_,_,_,_,_,_,_,h,hg=>by
  simp only [Ls.rd] at h ⊢
  obtain ⟨v,o1,o2,h0,h1,h2,ho⟩:=h
  exact ⟨v,o1,o2,(hg 0 (by simp [Ls.n])).trans h0,h1,Ls.BE ls h2 fun j hj=>hg (j+1) (by simp [Ls.n];omega),ho⟩
theorem L.AZ:∀ (l:L) {d d':Nat} {w w':World} {fz fz':Nat→Prop} {v:Value} {x:l.D} {o:List Nat},Bw l=false→l.rd d w fz v x o→l.rd d' w' fz' v x o∧o=[]
 | .int _,_,_,_,_,_,_,_,_,_,_,h=>⟨h,h.2⟩
 | .bool,_,_,_,_,_,_,_,_,_,_,h=>⟨h,h.2⟩
 | .str,_,_,_,_,_,_,_,_,_,_,h=>⟨h,h.2⟩
 | .sl _ e,_,_,_,_,_,_,_,_,_,hs,h=>by simp [Bw] at hs
theorem Ls.AZ:∀ (e:Ls) {d d':Nat} {w w':World} {fz fz':Nat→Prop} {g:Nat→Option Value} {x:e.D} {o:List Nat},Bq e=true→e.rd d w fz g x o→e.rd d' w' fz' g x o∧o=[]
 | .nil,_,_,_,_,_,_,_,_,_,_,h=>⟨h,h⟩
 | .one l,_,_,_,_,_,_,_,_,_,hs,h=>by
  simp only [Ls.rd] at h ⊢
  obtain ⟨v,h0,h⟩:=h
  simp [Bq] at hs
  obtain ⟨a,b⟩:=L.AZ l hs h
  exact ⟨⟨v,h0,a⟩,b⟩
 | .cons l ls,_,_,_,_,_,_,_,_,_,hs,h=>by
  simp only [Ls.rd] at h ⊢
  obtain ⟨v,o1,o2,h0,h1,h2,ho⟩:=h
  simp [Bq] at hs
  obtain ⟨a,b⟩:=L.AZ l hs.1 h1
  obtain ⟨a',b'⟩:=Ls.AZ ls hs.2 h2
  exact ⟨⟨v,o1,o2,h0,a,a',ho⟩,by rw [ho,b,b'];rfl⟩
def B3 (e:Ls) (d:Nat) (w:World) (fz:Nat→Prop) (g:Nat→Option Value) (xs:List e.D) (os:Nat→List Nat):Prop :=
 ∀ i (h:i<xs.length),e.rd d w fz (fun j=>g (i * e.n+j)) xs[i] (os i)
section
variable {e:Ls} {d:Nat} {w w':World} {fz fz':Nat→Prop} {g g':Nat→Option Value} {xs ys:List e.D} {os os':Nat→List Nat}
theorem KY {i n j m:Nat} (hi:i<m) (hj:j<n):i * n+j<m * n:=by
 have:(i+1) * n≤m * n:=Nat.mul_le_mul_right n hi
 rw [Nat.add_mul] at this;omega
theorem B3.cell (h:B3 e d w fz g xs os) (k:Nat) (hk:k<xs.length * e.n):∃ v,g k=some v∧v.oneCell'=true:=by
 have hn:0<e.n:=by
             rcases Nat.eq_zero_or_pos e.n with h0 | h0; · rw [h0] at hk;simp at hk
             ·exact h0
 have hi:k / e.n<xs.length:=Nat.div_lt_of_lt_mul (by rwa [Nat.mul_comm] at hk)
 obtain ⟨v,hv,h1⟩:=Ls.Kv e (h _ hi) (k % e.n) (Nat.mod_lt _ hn)
 have:k / e.n * e.n+k % e.n=k:=Nat.div_add_mod' _ _
 rw [this] at hv
 exact ⟨v,hv,h1⟩
theorem B3.congr (h:B3 e d w fz g xs os) (hg:∀ k,k<xs.length * e.n→g' k=g k):B3 e d w fz g' xs os :=
 fun i hi=>Ls.BE e (h i hi) fun j hj=>hg _ (KY hi hj)
theorem B3.frame (h:B3 e d w fz g xs os) (hf:∀ b,(∃ i,i<xs.length∧b∈os i)∨fz b→w'.heap[b]? = w.heap[b]?) (hz:∀ b,fz b→fz' b):B3 e d w' fz' g xs os :=
 fun i hi=>Ls.AJ e (h i hi) (fun b hb=>hf b (hb.imp (fun hb=>⟨i,hi,hb⟩) id)) hz
theorem B3.flat (hf:Bq e=true) (h:B3 e d w fz g xs os) (d':Nat) (w':World) (fz':Nat→Prop):B3 e d' w' fz' g xs fun _=>[]:=fun i hi=>by
 obtain ⟨a,b⟩:=Ls.AZ e hf (h i hi) (d':=d') (w':=w') (fz':=fz')
 rw [b] at a;exact a
theorem B3.append (h1:B3 e d w fz g xs os) (h2:B3 e d w fz (fun k=>g (xs.length * e.n+k)) ys os'):B3 e d w fz g (xs++ys) fun i=>if i<xs.length then os i else os' (i - xs.length):=by
 intro i hi
 by_cases h:i<xs.length
 ·simp only [if_pos h]
  rw [List.getElem_append_left h]
  exact h1 i h
 ·simp only [if_neg h]
  rw [List.getElem_append_right (Nat.le_of_not_lt h)]
  have:=h2 (i - xs.length) (by simp at hi;omega)
  refine Ls.BE e this fun j hj => ?_
  show g (i * e.n+j)=g (xs.length * e.n+((i - xs.length) * e.n+j))
  congr 1
  have:i * e.n=xs.length * e.n+(i - xs.length) * e.n:=by rw [← Nat.add_mul];congr 1;omega
  omega
theorem Gc {ad:Addr} {arr:Array Value} {T:TypeId} {fr:Nat×Nat} {c:Nat} (hh:w.heap[ad.block]? = some (.cells arr T fr)) (hs:ad.spot=none) (hb:∀ j,j<arr.size→¬(fr.1≤j∧j<fr.2))
  (hc:ad.off+c * e.n≤arr.size) (hl:xs.length≤c) (hel:B3 e 2 w fz (fun k=>arr[ad.off+k]?) xs os) :
  AD e 2 w fz (.slice (some ad) xs.length c) xs (ad.block::(List.range xs.length).flatMap os) :=
 ⟨some ad,c,rfl,hl, .inr ⟨fun k=>arr[ad.off+k]?,os,⟨hs,arr,T,fr,hh,hc,fun _=>hb,fun j=>rfl⟩,hel,rfl⟩⟩
theorem AD.KL {v:Value} {o:List Nat} (h:AD e d w fz v xs o):∃ A c,v = .slice A xs.length c∧xs.length≤c∧(A=none→c=0∧o=[]) ∧
  ∀ ad,A=some ad→(0<c∨0<d)→∃ arr T fr os,ad.spot=none∧w.heap[ad.block]? = some (.cells arr T fr)∧ad.off+c * e.n≤arr.size∧(0<d→∀ j,j<arr.size→¬(fr.1≤j∧j<fr.2)) ∧
   B3 e (dec d) w fz (fun k=>arr[ad.off+k]?) xs os∧(0<d→o=ad.block::(List.range xs.length).flatMap os)∧(d=0→fz ad.block∧∀ i,i<xs.length→os i=[]):=by
 obtain ⟨A,c,hv,hc,h⟩:=h
 refine ⟨A,c,hv,hc, ?_, ?_⟩
 ·intro hA;subst hA;exact h
 ·intro ad hA hpos
  subst hA
  rcases h with h | ⟨g,os,⟨hs,arr,T,fr,hh,hn,hb,hg⟩,hel,ho⟩
  ·obtain ⟨h1,h2,_⟩:=h
   have h1:¬ 0<d:=by simpa using h1
   omega
  refine ⟨arr,T,fr,os,hs,hh,hn,fun hd=>hb (by simpa using hd), ?_, ?_, ?_⟩
  ·intro i hi
   refine Ls.BE e (hel i hi) fun j _=>(hg _).symm
  ·intro hd
   have:decide (0<d)=true:=by simpa using hd
   rw [this] at ho;exact ho
  ·intro hd
   subst hd
   exact ⟨ho.1,ho.2.2⟩
def BV (g:Nat→Option Value) (m:Nat):List Value:=(List.range m).map fun j=>(g j).getD Go.undef
theorem AF (g:Nat→Option Value) (m:Nat):(BV g m).length=m:=by simp [BV]
theorem Bh {m:Nat} (h:∀ k,k<m→∃ v,g k=some v∧v.oneCell'=true) (k:Nat) (hk:k<m):(BV g m)[k]? = g k:=by
 obtain ⟨v,hv,_⟩:=h k hk
 simp [BV,hk,hv]
theorem FE {m:Nat} (h:∀ k,k<m→∃ v,g k=some v∧v.oneCell'=true):∀ v∈BV g m,v.oneCell'=true:=by
 intro v hv
 obtain ⟨k,hk,rfl⟩:=List.mem_map.1 hv
 obtain ⟨u,hu,h1⟩:=h k (List.mem_range.1 hk)
 simp [hu,h1]
end
theorem L.Fx:∀ (l:L) {d:Nat} {w:World} {fz:Nat→Prop},l.rd d w fz (CJ l) (K4 l) []
 | .int _,_,_,_=>⟨rfl,rfl⟩
 | .bool,_,_,_=>⟨rfl,rfl⟩
 | .str,_,_,_=>⟨rfl,rfl⟩
 | .sl _ e,_,_,_=>Bz
theorem Ls.Fx:∀ (e:Ls) {d:Nat} {w:World} {fz:Nat→Prop} {g:Nat→Option Value},(∀ j,j<e.n→g j=(e.kinds.map CJ)[j]?)→e.rd d w fz g (FQ e) []
 | .nil,_,_,_,_,_=>rfl
 | .one l,_,_,_,_,hg=>by
  simp only [Ls.rd]
  exact ⟨CJ l,(hg 0 (by simp [Ls.n])).trans rfl,L.Fx l⟩
 | .cons l ls,_,_,_,_,hg=>by
  simp only [Ls.rd]
  exact ⟨CJ l,[],[],(hg 0 (by simp [Ls.n])).trans rfl,L.Fx l,Ls.Fx ls fun j hj=>(hg (j+1) (by simp [Ls.n];omega)).trans (by simp [Ls.kinds]),rfl⟩
end Go.Ev
