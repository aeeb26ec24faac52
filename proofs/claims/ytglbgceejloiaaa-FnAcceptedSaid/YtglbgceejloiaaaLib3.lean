/- A plain evaluator for Go's loaded code,and that it is sound;part 3. Conditions: none. -/
import Derived.Test.YtglbgceejloiaaaLib2
import Derived.Orders
namespace Go.Ev
set_option linter.unusedVariables false
set_option linter.unusedSimpArgs false
abbrev IS:=List PT
theorem Tg.Ij (a b:Tg):Tg.DY a b=Tg.DY b a:=by
 obtain ⟨r,m⟩:=a
 obtain ⟨r',m'⟩:=b
 unfold Tg.DY
 dsimp only
 rw [show (r==r')=(r'==r) from Bool.eq_iff_iff.2 (by rw [beq_iff_eq,beq_iff_eq];exact ⟨Eq.symm,Eq.symm⟩)]
 cases m <;> cases m' <;> try rfl
 rename_i i j
 dsimp only
 rw [show (i==j)=(j==i) from Bool.eq_iff_iff.2 (by rw [beq_iff_eq,beq_iff_eq];exact ⟨Eq.symm,Eq.symm⟩)]
theorem Er {T:IS} (hn:(T.flatMap PT.D9).Pairwise NH) {i i':Nat} {p p':PT} (h:T[i]? = some p) (h':T[i']? = some p') (hne:i≠i') {x y:Tg} (hx:x∈p.D9) (hy:y∈p'.D9):Tg.DY x y=false:=by
 have hp:=(List.pairwise_flatMap.1 hn).2
 rw [List.pairwise_iff_getElem] at hp
 obtain ⟨hi,rfl⟩:=List.getElem?_eq_some_iff.1 h
 obtain ⟨hi',rfl⟩:=List.getElem?_eq_some_iff.1 h'
 rcases Nat.lt_or_gt_of_ne hne with hlt | hlt
 ·have:=hp i i' hi hi' hlt x hx y hy
  rw [Tg.Ij];exact this
 ·exact hp i' i hi' hi hlt y hy x hx
theorem IE {l:List (Option (Loc×List Nat))} {j:Nat} {c:Loc} {o:List Nat} (h:l[j]? = some (some (c,o))):(c.r,some c.j)∈(PT.row l).D9:=List.mem_filterMap.2 ⟨_,List.mem_of_getElem? h,rfl⟩
theorem Lf {T:IS} (hn:(T.flatMap PT.D9).Pairwise NH) {i j j':Nat} {l:List (Option (Loc×List Nat))} {c c':Loc} {o o':List Nat} (h:T[i]? = some (.row l)) (hj:l[j]? = some (some (c,o))) (hj':l[j']? = some (some (c',o'))) (hne:j≠j'):¬ (c.r=c'.r∧c.j=c'.j):=by
 have hp:=(List.pairwise_flatMap.1 hn).1 _ (List.mem_of_getElem? h)
 have hp:l.Pairwise fun a b=>∀ x,(a.map fun p=>((p.1.r,some p.1.j):Tg))=some x→∀ y,(b.map fun p=>((p.1.r,some p.1.j):Tg))=some y→NH x y:=List.pairwise_filterMap.1 hp
 rw [List.pairwise_iff_getElem] at hp
 obtain ⟨hi,e1⟩:=List.getElem?_eq_some_iff.1 hj
 obtain ⟨hi',e2⟩:=List.getElem?_eq_some_iff.1 hj'
 rintro ⟨q1,q2⟩
 have hh:Tg.DY (c.r,some c.j) (c'.r,some c'.j)=true:=by simp [Tg.DY,q1,q2]
 rcases Nat.lt_or_gt_of_ne hne with hlt | hlt
 ·have:=hp j j' hi hi' hlt (c.r,some c.j) (by rw [e1];rfl) (c'.r,some c'.j) (by rw [e2];rfl)
  rw [Tg.Ij,show Tg.DY (c'.r,some c'.j) (c.r,some c.j)=false from this] at hh
  cases hh
 ·have:=hp j' j hi' hi hlt (c'.r,some c'.j) (by rw [e2];rfl) (c.r,some c.j) (by rw [e1];rfl)
  rw [show Tg.DY (c.r,some c.j) (c'.r,some c'.j)=false from this] at hh
  cases hh
def AU (T:IS):Key→Option Key
 | .AX i=>match T[i]? with
  | some (.box r)=>some (.AX r)
  | _=>none
 | .lf i j=>match T[i]? with
  | some (.box r)=>some (.lf r j)
  | some (.row l)=>match l[j]? with
   | some (some p)=>some (.lf p.1.r p.1.j)
   | _=>none
  | _=>none
 | .fl _=>none
theorem BP {T:IS} {i:Nat} {a:Key} (h:AU T (.AX i)=some a):∃ r,a = .AX r∧T[i]? = some (.box r):=by
 simp only [AU] at h
 split at h
 ·rename_i r hT;injection h with h;exact ⟨r,h.symm,hT⟩
 ·cases h
theorem BM {T:IS} {i j:Nat} {a:Key} (h:AU T (.lf i j)=some a):(∃ r,a = .lf r j∧T[i]? = some (.box r))∨∃ l c o,a = .lf c.r c.j∧T[i]? = some (.row l)∧l[j]? = some (some (c,o)):=by
 simp only [AU] at h
 split at h
 ·rename_i r hT;injection h with h;exact .inl ⟨r,h.symm,hT⟩
 ·rename_i l hT
  split at h
  ·rename_i p hp;injection h with h;exact .inr ⟨l,p.1,p.2,h.symm,hT,hp⟩
  ·cases h
 ·cases h
theorem Ba {T:IS} (hn:(T.flatMap PT.D9).Pairwise NH) {k k' a:Key} (h:AU T k=some a) (h':AU T k'=some a):k=k':=by
 have hbb:∀ {i i' r:Nat},T[i]? = some (.box r)→T[i']? = some (.box r)→i=i':=by
  intro i i' r h h'
  refine Classical.byContradiction fun hne => ?_
  have:=Er hn h h' hne (x:=(r,none)) (y:=(r,none)) (by simp [PT.D9]) (by simp [PT.D9])
  simp [Tg.DY] at this
 cases k with
 | fl k=>cases h
 | AX i =>
  obtain ⟨r,rfl,hT⟩:=BP h
  cases k' with
  | fl k=>cases h'
  | AX i' =>
   obtain ⟨r',e,hT'⟩:=BP h'
   injection e with e;subst e
   rw [hbb hT hT']
  | lf i' j'=>rcases BM h' with ⟨r',e,_⟩ | ⟨l,c,o,e,_⟩ <;> cases e
 | lf i j =>
  cases k' with
  | fl k=>cases h'
  | AX i' =>
   obtain ⟨r',e,hT'⟩:=BP h'
   subst e
   rcases BM h with ⟨r',e,_⟩ | ⟨l,c,o,e,_⟩ <;> cases e
  | lf i' j' =>
   rcases BM h with ⟨r,rfl,hT⟩ | ⟨l,c,o,rfl,hT,hl⟩
   ·rcases BM h' with ⟨r',e,hT'⟩ | ⟨l',c',o',e,hT',hl'⟩
    ·injection e with e1 e2;subst e1;subst e2;rw [hbb hT hT']
    ·injection e with e1 e2
     by_cases hi:i=i'
     ·subst hi;rw [hT] at hT';cases hT'
     ·have:=Er hn hT hT' hi (x:=(r,none)) (y:=(c'.r,some c'.j)) (by simp [PT.D9]) (IE hl')
      simp [Tg.DY,e1] at this
   ·rcases BM h' with ⟨r',e,hT'⟩ | ⟨l',c',o',e,hT',hl'⟩
    ·injection e with e1 e2
     by_cases hi:i=i'
     ·subst hi;rw [hT] at hT';cases hT'
     ·have:=Er hn hT hT' hi (x:=(c.r,some c.j)) (y:=(r',none)) (IE hl) (by simp [PT.D9])
      simp [Tg.DY,e1] at this
    ·injection e with e1 e2
     by_cases hi:i=i'
     ·subst hi
      rw [hT] at hT';injection hT' with hT';injection hT' with hT';subst hT'
      by_cases hj:j=j'
      ·rw [hj]
      ·exact absurd ⟨e1,e2⟩ (Lf hn hT hl hl' hj)
     ·have:=Er hn hT hT' hi (x:=(c.r,some c.j)) (y:=(c'.r,some c'.j)) (IE hl) (IE hl')
      simp [Tg.DY,e1,e2] at this
theorem BK (v:Nat):∀ (ls:List (L×Nat)) (vs:List Lv),vs.length=ls.length→(AM v ls vs).length=ls.length
 | [],_,_=>by simp [AM]
 | _::_,[],h=>by simp at h
 | (_,m)::ls,x::xs,h=>by simp [AM,BK v ls xs (by simpa using h)]
theorem BJ (v:Nat):∀ (ls:List (L×Nat)) (vs:List Lv) (j:Nat) (p:L×Nat) (lv:Lv),ls[j]? = some p→vs[j]? = some lv→(AM v ls vs)[j]? = some (BT v p.2 lv)
 | [],_,j,p,lv,h,_=>by simp at h
 | _::_,[],j,p,lv,_,h=>by simp at h
 | (l,m)::ls,x::xs,0,p,lv,h1,h2=>by simp at h1 h2;subst h1;subst h2;simp [AM]
 | (l,m)::ls,x::xs,j+1,p,lv,h1,h2=>by simp [AM];exact BJ v ls xs j p lv (by simpa using h1) (by simpa using h2)
theorem CO (v:Nat):∀ (ls:List (L×Nat)) (vs ws:List Lv),vs.length=ls.length→AM v ls (vs++ws)=AM v ls vs
 | [],vs,ws,h=>by cases vs <;> simp [AM]
 | _::_,[],_,h=>by simp at h
 | (l,m)::ls,x::xs,ws,h=>by simp [AM,CO v ls xs ws (by simpa using h)]
section
variable {P:Program} {E:Cq} {s:St} {W:Wd} {v:Nat} {tm:Array Value} {cx:Cx}
theorem FN {s':St} {W':Wd} {m:Nat} {lv:Lv} {y:Value} {o:List Nat} (h:lv.l.rd m W'.w W'.fz y lv.x o):Aa s' W' (BT v m lv) (some y) o:=by
 obtain ⟨l,x⟩:=lv
 cases l with
 | sl t e =>
  cases m with
  | zero=>exact ⟨AD.zero h,fun u hu=>by injection hu with hu;subst hu;have:=AD.zero h;subst this;exact h⟩
  | succ m=>exact ⟨y,rfl,h⟩
 | int k =>
  obtain ⟨h1,h2⟩:=L.AZ (.int k) rfl h (d':=0) (w':=W'.w) (fz':=W'.fz)
  subst h2
  exact ⟨rfl,fun u hu=>by injection hu with hu;subst hu;exact h1⟩
 | bool =>
  obtain ⟨h1,h2⟩:=L.AZ .bool rfl h (d':=0) (w':=W'.w) (fz':=W'.fz)
  subst h2
  exact ⟨rfl,fun u hu=>by injection hu with hu;subst hu;exact h1⟩
 | str =>
  obtain ⟨h1,h2⟩:=L.AZ .str rfl h (d':=0) (w':=W'.w) (fz':=W'.fz)
  subst h2
  exact ⟨rfl,fun u hu=>by injection hu with hu;subst hu;exact h1⟩
theorem J6 {m:Nat} {lv:Lv} {AA gen:Nat} {t:TypeId} {e:Ls} {xs:List e.D} {d:Nat} (h:BT v m lv = .arr AA gen t e xs d):AA=v∧gen=v:=by
 obtain ⟨l,x⟩:=lv
 cases l with
 | sl t0 e0=>cases m with
  | zero=>cases h
  | succ m =>
   have h:LA.arr v v t0 e0 x (m+1)=_:=h
   injection h with h1 h2;exact ⟨h1.symm,h2.symm⟩
 | _=>cases h
def Ew (s:St) (v:Nat) (ls:List (L×Nat)) (as:List LA) (vs:List Lv) (j:Nat) (u:Up):Prop :=
 ∃ (p:L×Nat) (c:Loc) (lv:Lv) (AA gen:Nat) (t0:TypeId) (e0:Ls) (xs0:List e0.D) (d0:Nat) (F:List e0.D→List e0.D),ls[j]? = some p∧Bw p.1=true∧as[j]? = some (.ref c)∧vs[j]? = some lv∧s.leaf c.r c.j = .arr AA gen t0 e0 xs0 d0∧Ht (N9 lv) c.p t0 e0=some F ∧
  u=⟨c.r,c.j,[.arr AA v t0 e0 (F xs0) d0]⟩
theorem Ew.uniq {ls:List (L×Nat)} {as:List LA} {vs:List Lv} {j:Nat} {u u':Up} (h:Ew s v ls as vs j u) (h':Ew s v ls as vs j u'):u=u':=by
 obtain ⟨p,c,lv,AA,gen,t0,e0,xs0,d0,F,h1,h2,h3,h4,h5,h6,rfl⟩:=h
 obtain ⟨p',c',lv',ver',gen',t0',e0',xs0',d0',F',g1,g2,g3,g4,g5,g6,rfl⟩:=h'
 rw [h3] at g3;injection g3 with g3;injection g3 with g3;subst g3
 rw [h4] at g4;injection g4 with g4;subst g4
 rw [h5] at g5;injection g5 with a1 a2 a3 a4 a5 a6
 subst a1;subst a3;subst a4;subst a6
 have a5:=eq_of_heq a5
 subst a5
 rw [h6] at g6;injection g6 with g6;subst g6
 rfl
def KP (s:St) (v:Nat) (ls:List (L×Nat)) (as:List LA) (vs:List Lv) (us:List Up):Prop :=
 (∀ u∈us,∃ j,Ew s v ls as vs j u)∧∀ (j:Nat) (p:L×Nat),ls[j]? = some p→Bw p.1=true→∃ u∈us,Ew s v ls as vs j u
theorem Ew.succ {p:L×Nat} {a:LA} {lv:Lv} {ls:List (L×Nat)} {as:List LA} {vs:List Lv} {j:Nat} {u:Up} (h:Ew s v ls as vs j u):Ew s v (p::ls) (a::as) (lv::vs) (j+1) u:=by
 obtain ⟨p,c,lv,AA,gen,t0,e0,xs0,d0,F,h1,h2,h3,h4,h5,h6,rfl⟩:=h
 exact ⟨p,c,lv,AA,gen,t0,e0,xs0,d0,F,by simpa using h1,h2,by simpa using h3,by simpa using h4,h5,h6,rfl⟩
theorem Iw:∀ (ls:List (L×Nat)) (as:List LA) (vs rest:List Lv) {ws:List Wr},vs.length=ls.length→putRow s v ls as (vs++rest)=some ws→∃ us,ws=Ee us∧KP s v ls as vs us
 | [],[],vs,rest,ws,hlen,h=>by
  simp only [putRow,Option.some.injEq] at h
  subst h
  exact ⟨[],rfl,⟨fun u hu=>(by cases hu),fun j p hp=>(by simp at hp)⟩⟩
 | [],_::_,vs,rest,ws,hlen,h=>by simp [putRow] at h
 | _::_,[],vs,rest,ws,hlen,h=>by simp [putRow] at h
 | _::_,_::_,[],rest,ws,hlen,h=>by simp at hlen
 | (l,d)::ls,a::as,x::vs,rest,ws,hlen,h=>by
  simp only [List.cons_append,putRow] at h
  split at h
  ·rename_i ws' hws
   obtain ⟨us,rfl,h1,h2⟩:=Iw ls as vs rest (by simpa using hlen) hws
   have plain:Bw l=false→some (Ee us)=some ws→∃ us,ws=Ee us∧KP s v ((l,d)::ls) (a::as) (x::vs) us:=by
    intro hs h
    injection h with h
    refine ⟨us,h.symm,fun u hu => ?_,fun j p hp hps => ?_⟩
    ·obtain ⟨j,hj⟩:=h1 u hu
     exact ⟨j+1,hj.succ⟩
    ·cases j with
     | zero=>simp at hp;subst hp;rw [hs] at hps;cases hps
     | succ j =>
      obtain ⟨u,hu,hr⟩:=h2 j p (by simpa using hp) hps
      exact ⟨u,hu,hr.succ⟩
   cases l with
   | int i=>exact plain rfl h
   | bool=>exact plain rfl h
   | str=>exact plain rfl h
   | sl t e =>
    cases a with
    | ref c =>
     dsimp only at h
     split at h
     ·rename_i AA gen t0 e0 xs0 d0 hq
      split at h
      ·rename_i F hF
       injection h with h
       have hu:Ew s v ((.sl t e,d)::ls) (.ref c::as) (x::vs) 0 ⟨c.r,c.j,[.arr AA v t0 e0 (F xs0) d0]⟩:=⟨_,c,x,AA,gen,t0,e0,xs0,d0,F,rfl,rfl,rfl,rfl,hq,hF,rfl⟩
       refine ⟨⟨c.r,c.j,[.arr AA v t0 e0 (F xs0) d0]⟩::us, ?_,fun u hu' => ?_,fun j p hp hps => ?_⟩
       ·rw [← h];simp [Ee,A4]
       ·rcases List.mem_cons.1 hu' with rfl | hu'
        ·exact ⟨0,hu⟩
        ·obtain ⟨j,hj⟩:=h1 u hu'
         exact ⟨j+1,hj.succ⟩
       ·cases j with
        | zero=>exact ⟨_,List.mem_cons_self,hu⟩
        | succ j =>
         obtain ⟨u,hu,hr⟩:=h2 j p (by simpa using hp) hps
         exact ⟨u,List.mem_cons_of_mem _ hu,hr.succ⟩
      ·cases h
     ·cases h
    | _=>cases h
  ·cases h
def M0 (s:St) (v:Nat) (pm:PM) (av:AV) (vs:List Lv) (uo:List Up):Prop:=match pm with
 | .box ls=>∃ r AA,av = .v false [.ptr r 0 AA]∧uo=[⟨r,0,AM v ls vs⟩]
 | .row _ ls=>∃ g as,av = .v g as∧KP s v ls as vs uo
 | _=>uo=[]
theorem Gg:∀ (ps:List PM) (avs:List AV) (vss:List (List Lv)) {ws:List Wr},vss.length=ps.length→(∀ (i:Nat) (pm:PM) (vs:List Lv),ps[i]? = some pm→vss[i]? = some vs→vs.length=pm.outs.length)→AY s v ps avs vss.flatten=some ws →
  ∃ U:List (List Up),ws=Ee U.flatten∧U.length=ps.length∧∀ (i:Nat) (pm:PM) (av:AV) (vs:List Lv) (uo:List Up),ps[i]? = some pm→avs[i]? = some av→vss[i]? = some vs→U[i]? = some uo→M0 s v pm av vs uo
 | [],avs,[],ws,hlen,hv,h=>by
  cases avs with
  | nil=>simp [AY] at h;subst h;exact ⟨[],rfl,rfl,fun i pm av vs uo h1=>by simp at h1⟩
  | cons a as=>simp [AY] at h
 | [],avs,_::_,ws,hlen,hv,h=>by simp at hlen
 | _::_,avs,[],ws,hlen,hv,h=>by simp at hlen
 | pm::ps,avs,vs::vss,ws,hlen,hv,h=>by
  have hlen':vss.length=ps.length:=by simpa using hlen
  have hv':∀ (i:Nat) (pm:PM) (vs:List Lv),ps[i]? = some pm→vss[i]? = some vs→vs.length=pm.outs.length:=fun i pm' vs' h1 h2=>hv (i+1) pm' vs' (by simpa using h1) (by simpa using h2)
  have h0:=hv 0 pm vs rfl rfl
  cases avs with
  | nil=>cases pm <;> simp [AY] at h
  | cons av avs =>
   have fin:∀ (uo:List Up) {ws':List Wr},AY s v ps avs vss.flatten=some ws'→ws=Ee uo++ws'→M0 s v pm av vs uo →
     ∃ U:List (List Up),ws=Ee U.flatten∧U.length=(pm::ps).length∧∀ (i:Nat) (pm':PM) (av':AV) (vs':List Lv) (uo:List Up),(pm::ps)[i]? = some pm'→(av::avs)[i]? = some av'→(vs::vss)[i]? = some vs'→U[i]? = some uo→M0 s v pm' av' vs' uo:=by
    intro uo ws' hp hw hok
    obtain ⟨U,h1,h2,h3⟩:=Gg ps avs vss hlen' hv' hp
    refine ⟨uo::U, ?_,by simp [h2], ?_⟩
    ·rw [hw,h1];simp [Ee]
    ·intro i pm' av' vs' uo' e1 e2 e3 e4
     cases i with
     | zero=>simp at e1 e2 e3 e4;subst e1;subst e2;subst e3;subst e4;exact hok
     | succ i=>exact h3 i pm' av' vs' uo' (by simpa using e1) (by simpa using e2) (by simpa using e3) (by simpa using e4)
   cases pm with
   | val g ls =>
    have hvs:vs=[]:=List.eq_nil_of_length_eq_zero (by simpa [PM.outs] using h0)
    subst hvs
    simp only [AY,List.flatten_cons,List.nil_append] at h
    exact fin [] h rfl rfl
   | fn f =>
    have hvs:vs=[]:=List.eq_nil_of_length_eq_zero (by simpa [PM.outs] using h0)
    subst hvs
    simp only [AY,List.flatten_cons,List.nil_append] at h
    exact fin [] h rfl rfl
   | box ls =>
    have hvl:vs.length=ls.length:=by simpa [PM.outs] using h0
    simp only [List.flatten_cons] at h
    unfold AY at h
    split at h <;> try cases h
    ·rename_i e1 _;cases e1
    ·rename_i e1 _;cases e1
    ·rename_i e1 _;cases e1
    ·rename_i ls' ps' r AA avs' e1 e2
     injection e1 with e1 e1';injection e1 with e1;subst e1;subst e1'
     injection e2 with e2 e2';subst e2;subst e2'
     split at h
     ·rename_i ws' hws
      injection h with h;subst h
      rw [← hvl,List.drop_left] at hws
      refine fin [⟨r,0,AM v ls vs⟩] hws ?_ ⟨r,AA,rfl,rfl⟩
      rw [CO v ls vs _ hvl]
      simp [Ee]
     ·cases h
    ·rename_i e1 _;cases e1
   | row g ls =>
    have hvl:vs.length=ls.length:=by simpa [PM.outs] using h0
    simp only [List.flatten_cons] at h
    cases av with
    | De bs=>simp [AY] at h
    | bx bs=>simp [AY] at h
    | v g' as =>
     simp only [AY] at h
     split at h
     ·rename_i us ws' hus hws
      injection h with h;subst h
      rw [← hvl,List.drop_left] at hws
      obtain ⟨uo,rfl,hr⟩:=Iw ls as vs _ hvl hus
      exact fin uo hws rfl ⟨g',as,rfl,hr⟩
     ·cases h
theorem Jr (r j:Nat):∀ (us:List Up) (a:LA),(∀ u∈us,¬ (r=u.r∧u.lo≤j∧j<u.lo+u.news.length))→us.foldl (fun a u=>if r=u.r∧u.lo≤j∧j<u.lo+u.news.length then nth .bad u.news (j - u.lo) else a) a=a
 | [],_,_=>rfl
 | u::us,a,h=>by
  rw [List.foldl_cons,if_neg (h u (by simp))]
  exact Jr r j us a fun x hx=>h x (List.mem_cons_of_mem _ hx)
theorem I9 (r j:Nat) {x:LA}:∀ (us:List Up) (a:LA),(∀ u∈us,r=u.r∧u.lo≤j∧j<u.lo+u.news.length→nth .bad u.news (j - u.lo)=x)→(a=x∨∃ u∈us,r=u.r∧u.lo≤j∧j<u.lo+u.news.length) →
  us.foldl (fun a u=>if r=u.r∧u.lo≤j∧j<u.lo+u.news.length then nth .bad u.news (j - u.lo) else a) a=x
 | [],a,h,he=>by
  rcases he with he | ⟨u,hu,_⟩
  ·exact he
  ·cases hu
 | u::us,a,h,he=>by
  rw [List.foldl_cons]
  refine I9 r j us _ (fun y hy=>h y (List.mem_cons_of_mem _ hy)) ?_
  by_cases hc:r=u.r∧u.lo≤j∧j<u.lo+u.news.length
  ·rw [if_pos hc];exact .inl (h u List.mem_cons_self hc)
  ·rw [if_neg hc]
   rcases he with he | ⟨y,hy,hcy⟩
   ·exact .inl he
   ·rcases List.mem_cons.1 hy with rfl | hy
    ·exact absurd hcy hc
    ·exact .inr ⟨y,hy,hcy⟩
def FT (w:World) (fz:Nat→Prop) (v:Nat) (b:LA) (y:Value) (o:List Nat):Prop:=match b with
 | .arr AA gen t e xs m=>AA=v∧gen=v∧AD e m w fz y xs o
 | .bad=>o=[]
 | _=>False
theorem Jh {w:World} {fz:Nat→Prop} {d:Nat} {om:Nat→List Nat}:∀ (ls:List (L×Nat)) (vs rest:List Lv) (off:Nat) (G:Nat→Option Value) {as rs:List LA} {left:List Lv},vs.length=ls.length→(∀ (j:Nat) (p:L×Nat) (lv:Lv),ls[j]? = some p→vs[j]? = some lv→∃ y,G j=some y∧lv.l.rd p.2 w fz y lv.x (om (off+j))) →
  Jg d v ls (vs++rest) off=some (as,rs,left)→left=rest∧as.length=ls.length∧∃ ys:List Value,ys.length=ls.length∧rs.length=ls.length∧(∀ k,k<ls.length→ys[k]? = G k)∧(∀ (k:Nat) (b:LA),rs[k]? = some b→∃ y,ys[k]? = some y∧FT w fz v b y (om (off+k))) ∧
   ∀ (s':St) (W':Wd),W'.w=w→W'.fz=fz→(∀ k,k<ls.length→s'.leaf d (off+k)=nth .bad rs k∧W'.cv d (off+k)=ys[k]?)→∀ (k:Nat) (b:LA),as[k]? = some b→∃ y,ys[k]? = some y∧AR s' W' b y
 | [],vs,rest,off,G,as,rs,left,hlen,hv,h=>by
  have:vs=[]:=List.eq_nil_of_length_eq_zero hlen
  subst this
  simp only [Jg,List.nil_append,Option.some.injEq,Prod.mk.injEq] at h
  obtain ⟨rfl,rfl,rfl⟩:=h
  exact ⟨rfl,rfl,[],rfl,rfl,(fun k hk=>by simp at hk),(fun k b hb=>by simp at hb),fun s' W' _ _ _ k b hb=>by simp at hb⟩
 | _::_,[],rest,off,G,as,rs,left,hlen,hv,h=>by simp at hlen
 | (l,m)::ls,lv::vs,rest,off,G,as,rs,left,hlen,hv,h=>by
  obtain ⟨l',x⟩:=lv
  simp only [List.cons_append,Jg] at h
  split at h
  ·rename_i as' rs' left' hb
   obtain ⟨h1,h2,ys,h3,h4,h5,h6,h7⟩:=Jh ls vs rest (off+1) (fun j=>G (j+1)) (by simpa using hlen) (fun j p lv hp hlv=>by
    have:=hv (j+1) p lv (by simpa using hp) (by simpa using hlv)
    rwa [show off+(j+1)=off+1+j by omega] at this) hb
   obtain ⟨y,hy,hr⟩:=hv 0 (l,m) ⟨l',x⟩ rfl rfl
   dsimp only [Nat.add_zero] at hr
   have fin:∀ (a b:LA),(some (a::as',b::rs',left')=some (as,rs,left))→FT w fz v b y (om off)→(∀ (s':St) (W':Wd),W'.w=w→W'.fz=fz→s'.leaf d off=b→W'.cv d off=some y→AR s' W' a y) →
     left=rest∧as.length=((l,m)::ls).length∧∃ ys:List Value,ys.length=((l,m)::ls).length∧rs.length=((l,m)::ls).length∧(∀ k,k<((l,m)::ls).length→ys[k]? = G k)∧(∀ (k:Nat) (b:LA),rs[k]? = some b→∃ y,ys[k]? = some y∧FT w fz v b y (om (off+k))) ∧
      ∀ (s':St) (W':Wd),W'.w=w→W'.fz=fz→(∀ k,k<((l,m)::ls).length→s'.leaf d (off+k)=nth .bad rs k∧W'.cv d (off+k)=ys[k]?)→∀ (k:Nat) (b:LA),as[k]? = some b→∃ y,ys[k]? = some y∧AR s' W' b y:=by
    intro a b he hown hla
    injection he with he;injection he with e1 he;injection he with e2 e3
    subst e1;subst e2;subst e3
    refine ⟨h1,by simp [h2],y::ys,by simp [h3],by simp [h4], ?_, ?_, ?_⟩
    ·intro k hk
     cases k with
     | zero=>simpa using hy.symm
     | succ k=>simpa using h5 k (by simpa using hk)
    ·intro k b' hb'
     cases k with
     | zero=>simp at hb';subst hb';exact ⟨y,rfl,hown⟩
     | succ k =>
      obtain ⟨y',hy',ho⟩:=h6 k b' (by simpa using hb')
      exact ⟨y',by simpa using hy',by rw [show off+(k+1)=off+1+k by omega];exact ho⟩
    ·intro s' W' hw hz hs k b' hb'
     cases k with
     | zero =>
      simp at hb';subst hb'
      obtain ⟨q1,q2⟩:=hs 0 (by simp)
      exact ⟨y,rfl,hla s' W' hw hz q1 q2⟩
     | succ k =>
      obtain ⟨y',hy',ho⟩:=h7 s' W' hw hz (fun k hk=>by
       have:=hs (k+1) (by simp;omega)
       rw [show off+1+k=off+(k+1) by omega]
       exact ⟨this.1.trans rfl,this.2.trans (by simp)⟩) k b' (by simpa using hb')
      exact ⟨y',by simpa using hy',ho⟩
   cases l' with
   | sl t e =>
    cases m with
    | zero =>
     refine fin _ _ h (AD.zero hr) fun s' W' hw hz _ _ => ?_
     have:=AD.zero hr
     rw [this] at hr
     show (L.sl t e).rd 0 W'.w W'.fz y x []
     rw [hw,hz];exact hr
    | succ m =>
     refine fin _ _ h ⟨rfl,rfl,hr⟩ fun s' W' hw hz hl hc => ?_
     intro gen t' e' xs' d' hl' hp
     exact ⟨y,e',hc,rfl,rfl⟩
   | int k =>
    obtain ⟨q1,q2⟩:=L.AZ (.int k) rfl hr (d':=0) (w':=w) (fz':=fz)
    rw [q2] at q1
    exact fin _ _ h q2 fun s' W' hw hz _ _=>by show (L.int k).rd 0 W'.w W'.fz y x [];rw [hw,hz];exact q1
   | bool =>
    obtain ⟨q1,q2⟩:=L.AZ .bool rfl hr (d':=0) (w':=w) (fz':=fz)
    rw [q2] at q1
    exact fin _ _ h q2 fun s' W' hw hz _ _=>by show L.bool.rd 0 W'.w W'.fz y x [];rw [hw,hz];exact q1
   | str =>
    obtain ⟨q1,q2⟩:=L.AZ .str rfl hr (d':=0) (w':=w) (fz':=fz)
    rw [q2] at q1
    exact fin _ _ h q2 fun s' W' hw hz _ _=>by show L.str.rd 0 W'.w W'.fz y x [];rw [hw,hz];exact q1
  ·cases h
theorem Ms {s':St} {W':Wd} {g:Bool} {ls:List (L×Nat)} {u:Value} {as:List LA} (hlen:as.length=ls.length) (hg:match g with
  | true=>∃ cs:Array Value,u = .agg cs∧cs.size=ls.length
  | false=>ls.length=1) (h:∀ (k:Nat) (b:LA),as[k]? = some b→∃ y,A7 g u k=some y∧AR s' W' b y):Ex s' W' g as u:=by
 cases g with
 | true =>
  obtain ⟨cs,rfl,hsz⟩:=hg
  exact ⟨cs,rfl,by rw [hsz,hlen],h⟩
 | false =>
  match as,hlen with
  | [],h0=>dsimp only at hg;simp at h0;omega
  | [b],_ =>
   obtain ⟨y,hy,hok⟩:=h 0 b rfl
   simp [A7] at hy;subst hy;exact hok
  | _::_::_,h0=>dsimp only at hg;simp at h0;omega
theorem HP {w:World} {fz:Nat→Prop} {d:Nat} {om:Nat→List Nat}:∀ (rs:List (Bool×List (L×Nat))) (rv:List Value) (vsR:List (List Lv)) (rest:List Lv) (off:Nat) {bs:List (Bool×List LA)} {own:List LA} {left:List Lv},EE w fz om rs rv vsR off →
  Dw d v rs (vsR.flatten++rest) off=some (bs,own,left)→left=rest∧bs.length=rv.length∧∃ ys:List Value,ys.length=own.length∧(∀ (k:Nat) (b:LA),own[k]? = some b→∃ y,ys[k]? = some y∧FT w fz v b y (om (off+k))) ∧
   ∀ (s':St) (W':Wd),W'.w=w→W'.fz=fz→(∀ k,k<own.length→s'.leaf d (off+k)=nth .bad own k∧W'.cv d (off+k)=ys[k]?)→∀ (i:Nat) (p:Bool×List LA) (u:Value),bs[i]? = some p→rv[i]? = some u→Ex s' W' p.1 p.2 u
 | [],[],[],rest,off,bs,own,left,hr,h=>by
  simp only [Dw,List.flatten_nil,List.nil_append,Option.some.injEq,Prod.mk.injEq] at h
  obtain ⟨rfl,rfl,rfl⟩:=h
  exact ⟨rfl,rfl,[],rfl,(fun k b hb=>by simp at hb),fun _ _ _ _ _ i p u hb=>by simp at hb⟩
 | [],[],_::_,rest,off,bs,own,left,hr,h=>hr.elim
 | [],_::_,_,rest,off,bs,own,left,hr,h=>by simp [EE] at hr
 | _::_,[],_,rest,off,bs,own,left,hr,h=>by simp [EE] at hr
 | _::_,_::_,[],rest,off,bs,own,left,hr,h=>by simp [EE] at hr
 | (g,ls)::rs,u::rv,vs::vsR,rest,off,bs,own,left,hr,h=>by
  obtain ⟨⟨hm,hg,hvs⟩,hr⟩:=hr
  have hvl:vs.length=ls.length:=by have:=congrArg List.length hm;simpa using this
  simp only [Dw,List.flatten_cons,List.append_assoc] at h
  split at h
  ·rename_i as own1 vs1 hb
   obtain ⟨h1,h2,ys,h3,h4,h5,h6,h7⟩:=Jh ls vs (vsR.flatten++rest) off (A7 g u) hvl hvs hb
   subst h1
   split at h
   ·rename_i bs' own2 left' hb'
    injection h with h;injection h with e1 h;injection h with e2 e3
    subst e1;subst e2;subst e3
    obtain ⟨q1,q2,zs,q3,q4,q5⟩:=HP rs rv vsR rest (off+ls.length) hr hb'
    refine ⟨q1,by simp [q2],ys++zs,by simp [h3,h4,q3], ?_, ?_⟩
    ·intro k b hk
     by_cases hlt:k<ls.length
     ·rw [List.getElem?_append_left (by omega)] at hk
      rw [List.getElem?_append_left (by omega)]
      exact h6 k b hk
     ·rw [List.getElem?_append_right (by omega)] at hk
      rw [List.getElem?_append_right (by omega)]
      obtain ⟨y,hy,ho⟩:=q4 (k - own1.length) b hk
      refine ⟨y,by rw [h3, ← h4];exact hy, ?_⟩
      rw [show off+k=off+ls.length+(k - own1.length) by omega];exact ho
    ·intro s' W' hw hz hs i p u' hi hu'
     cases i with
     | zero =>
      simp at hi hu';subst hi;subst hu'
      refine Ms h2 hg fun k b hk => ?_
      have hlt:k<ls.length:=by rw [← h2];exact (List.getElem?_eq_some_iff.1 hk).1
      obtain ⟨y,hy,hok⟩:=h7 s' W' hw hz (fun k hk=>by
       obtain ⟨a1,a2⟩:=hs k (by simp;omega)
       rw [a1,a2]
       refine ⟨?_, ?_⟩
       ·rw [Ah,Ah,List.getElem?_append_left (by omega)]
       ·rw [List.getElem?_append_left (by omega)]) k b hk
      exact ⟨y,by rw [← h5 k hlt];exact hy,hok⟩
     | succ i =>
      refine q5 s' W' hw hz (fun k hk => ?_) i p u' (by simpa using hi) (by simpa using hu')
      obtain ⟨a1,a2⟩:=hs (ls.length+k) (by simp;omega)
      rw [show off+ls.length+k=off+(ls.length+k) by omega,a1,a2]
      refine ⟨?_, ?_⟩
      ·rw [Ah,Ah,List.getElem?_append_right (by omega)]
       congr 2;omega
      ·rw [List.getElem?_append_right (by omega)]
       congr 1;omega
   ·cases h
  ·cases h
end
end Go.Ev
namespace Go.Ev
set_option linter.unusedVariables false
set_option linter.unusedSimpArgs false
def Ao (T:IS) (om:Key→List Nat):Key→List Nat
 | .AX i=>match T[i]? with
  | some (.box r)=>om (.AX r)
  | _=>[]
 | .lf i j=>match T[i]? with
  | some (.box r)=>om (.lf r j)
  | some (.row l)=>match l[j]? with
   | some (some p)=>p.2
   | _=>[]
  | _=>[]
 | .fl _=>[]
def FW (T:IS) (bk:Nat→Nat) (i:Nat):Nat:=match T[i]? with
 | some (.box r)=>bk r
 | _=>0
theorem Fv:∀ (ps:List PM) (avs:List AV) (i:Nat) (g:Bool) (ls:List L) (av:AV),ps[i]? = some (.val g ls)→avs[i]? = some av→∀ r∈av.roots,r∈Af ps avs
 | [],_,i,g,ls,av,h,_,r,hr=>by simp at h
 | _::_,[],i,g,ls,av,_,h,r,hr=>by simp at h
 | pm::ps,a::avs,0,g,ls,av,h1,h2,r,hr=>by
  simp at h1 h2;subst h1;subst h2
  exact List.mem_append_left _ hr
 | pm::ps,a::avs,i+1,g,ls,av,h1,h2,r,hr=>by
  have:=Fv ps avs i g ls av (by simpa using h1) (by simpa using h2) r hr
  cases pm with
  | val g' ls'=>exact List.mem_append_right _ this
  | _=>exact this
section
variable {P:Program} {E:Cq} {s:St} {W:Wd} {v:Nat} {tm:Array Value} {cx:Cx}
structure Handed (s:St) (W:Wd) (ps:List PM) (avs:List AV) (us:List Value) (vss:List (List Lv)) (T:IS):Prop where
 l1:avs.length=ps.length
 l2:us.length=ps.length
 l3:vss.length=ps.length
 l4:T.length=ps.length
 nodup:(T.flatMap PT.D9).Pairwise NH
 each:∀ (i:Nat) (pm:PM) (av:AV) (u:Value) (vs:List Lv) (tg:PT),ps[i]? = some pm→avs[i]? = some av→us[i]? = some u→vss[i]? = some vs→T[i]? = some tg→G6 s W pm av tg u vs
 apart:∀ r∈Af ps avs,∀ (i:Nat) (p:PT),T[i]? = some p→∀ x∈p.D9,x.1≠r
theorem BZ {α:Type} {l:List α} {i n:Nat} (h:l.length=n) (hi:i<n):∃ x,l[i]? = some x:=⟨l[i]'(by omega),List.getElem?_eq_getElem (by omega)⟩
theorem Handed.all {ps:List PM} {avs:List AV} {us:List Value} {vss:List (List Lv)} {T:IS} (hh:Handed s W ps avs us vss T) {i:Nat} {pm:PM} (hp:ps[i]? = some pm) :
  ∃ av u vs tg,avs[i]? = some av∧us[i]? = some u∧vss[i]? = some vs∧T[i]? = some tg∧G6 s W pm av tg u vs:=by
 have hi:i<ps.length:=(List.getElem?_eq_some_iff.1 hp).1
 obtain ⟨av,h1⟩:=BZ hh.l1 hi
 obtain ⟨u,h2⟩:=BZ hh.l2 hi
 obtain ⟨vs,h3⟩:=BZ hh.l3 hi
 obtain ⟨tg,h4⟩:=BZ hh.l4 hi
 exact ⟨av,u,vs,tg,h1,h2,h3,h4,hh.each i pm av u vs tg hp h1 h2 h3 h4⟩
theorem Handed.O4 {ps:List PM} {avs:List AV} {us:List Value} {vss:List (List Lv)} {T:IS} (hh:Handed s W ps avs us vss T) {i:Nat} {m:PT} (hT:T[i]? = some m) :
  ∃ pm av u vs,ps[i]? = some pm∧avs[i]? = some av∧us[i]? = some u∧vss[i]? = some vs∧G6 s W pm av m u vs:=by
 have hi:i<ps.length:=by rw [← hh.l4];exact (List.getElem?_eq_some_iff.1 hT).1
 obtain ⟨pm,hp⟩:=BZ rfl hi
 obtain ⟨av,u,vs,tg,h1,h2,h3,h4,h5⟩:=hh.all hp
 rw [hT] at h4;injection h4 with h4;subst h4
 exact ⟨pm,av,u,vs,hp,h1,h2,h3,h5⟩
theorem Handed.OA {ps:List PM} {avs:List AV} {us:List Value} {vss:List (List Lv)} {T:IS} (hh:Handed s W ps avs us vss T) {i j:Nat} {l:List (Option (Loc×List Nat))} {c:Loc} {o:List Nat} (hT:T[i]? = some (.row l)) (hj:l[j]? = some (some (c,o))) :
  ∃ g ls as u vs p lv y,ps[i]? = some (.row g ls)∧avs[i]? = some (.v g as)∧us[i]? = some u∧vss[i]? = some vs∧ls[j]? = some p∧as[j]? = some (.ref c)∧vs[j]? = some lv∧Bw p.1=true∧vs.map (·.l)=ls.map (·.1)∧A7 g u j=some y∧FU s W p.2 (.ref c) (some (c,o)) lv y:=by
 obtain ⟨pm,av,u,vs,e1,e2,e3,e4,e5⟩:=hh.O4 hT
 cases pm with
 | val g ls=>cases e5.1
 | fn f=>cases e5.1
 | box ls=>obtain ⟨r,AA,_,q,_⟩:=e5;cases q
 | row g ls =>
  obtain ⟨as,l',rfl,q2,q3,q4,q5,q6,q7⟩:=e5
  injection q2 with q2;subst q2
  have hlt:j<ls.length:=by rw [← q4];exact (List.getElem?_eq_some_iff.1 hj).1
  have hvl:vs.length=ls.length:=by have:=congrArg List.length q5;simpa using this
  obtain ⟨p,hp⟩:=BZ rfl hlt
  obtain ⟨a,ha⟩:=BZ q3 hlt
  obtain ⟨lv,hlv⟩:=BZ hvl hlt
  obtain ⟨y,hy,hr⟩:=q7 j p a lv _ hp ha hlv hj
  have hl:lv.l=p.1:=by
   have:=congrArg (·[j]?) q5
   simp only [List.getElem?_map,hp,hlv,Option.map_some,Option.some.injEq] at this
   exact this
  have hr':=hr
  rcases hr with ⟨_,h0,_⟩ | ⟨c',o',gen,t,e,xs,h,t',e',ys,rfl,h2,_,_,_,_,h3,_⟩
  ·cases h0
  ·injection h2 with h2;injection h2 with h2 h2';subst h2
   exact ⟨g,ls,as,u,vs,p,lv,y,e1,e2,e3,e4,hp,ha,hlv,by rw [← hl,h3];rfl,q5,hy,hr'⟩
theorem CX {ps:List PM} {avs:List AV} {us:List Value} {vss:List (List Lv)} {T:IS} (hh:Handed s W ps avs us vss T) {k:Key} {b:Nat} (h:b∈Ao T W.om k):∃ a,AU T k=some a∧b∈W.om a:=by
 cases k with
 | fl k=>cases h
 | AX i =>
  simp only [Ao] at h
  split at h
  ·rename_i r hT;exact ⟨.AX r,by simp [AU,hT],h⟩
  ·cases h
 | lf i j =>
  simp only [Ao] at h
  split at h
  ·rename_i r hT;exact ⟨.lf r j,by simp [AU,hT],h⟩
  ·rename_i l hT
   split at h
   ·rename_i p hp
    obtain ⟨c,o⟩:=p
    obtain ⟨g,ls,as,u,vs,p,lv,y,_,_,_,_,_,_,_,_,_,_,hr⟩:=hh.OA hT hp
    refine ⟨.lf c.r c.j,by simp [AU,hT,hp], ?_⟩
    rcases hr with ⟨_,h0,_⟩ | ⟨c',o',gen,t,e,xs,h',t',e',ys,_,h2,_,_,_,_,_,_,h4,_⟩
    ·cases h0
    ·injection h2 with h2;injection h2 with h2 h2';subst h2;subst h2'
     exact h4 b h
   ·cases h
  ·cases h
theorem Jf (h:AW E s tm W) {ps:List PM} {avs:List AV} {us:List Value} {vss:List (List Lv)} {T:IS} (hh:Handed s W ps avs us vss T) (k:Key):(Ao T W.om k).Nodup:=by
 cases k with
 | fl k=>exact List.nodup_nil
 | AX i =>
  simp only [Ao]
  split
  ·exact h.sep.nodup _
  ·exact List.nodup_nil
 | lf i j =>
  simp only [Ao]
  split
  ·exact h.sep.nodup _
  ·rename_i l hT
   split
   ·rename_i p hp
    obtain ⟨c,o⟩:=p
    obtain ⟨g,ls,as,u,vs,p,lv,y,_,_,_,_,_,_,_,_,_,_,hr⟩:=hh.OA hT hp
    rcases hr with ⟨_,h0,_⟩ | ⟨c',o',gen,t,e,xs,h',t',e',ys,_,h2,_,_,_,_,_,_,h4,h5⟩
    ·cases h0
    ·injection h2 with h2;injection h2 with h2 h2';subst h2;subst h2'
     exact h5
   ·exact List.nodup_nil
  ·exact List.nodup_nil
theorem Handed.root {ps:List PM} {avs:List AV} {us:List Value} {vss:List (List Lv)} {T:IS} (hh:Handed s W ps avs us vss T) {k:Key} {r j:Nat} (h:AU T k=some (.lf r j)):r∉Af ps avs:=by
 cases k with
 | fl k=>cases h
 | AX i=>obtain ⟨r',e,_⟩:=BP h;cases e
 | lf i j' =>
  rcases BM h with ⟨r',e,hT⟩ | ⟨l,c,o,e,hT,hl⟩
  ·injection e with e1 e2;subst e1
   exact fun hr=>hh.apart r hr i _ hT (r,none) (by simp [PT.D9]) rfl
  ·injection e with e1 e2
   exact fun hr=>hh.apart r hr i _ hT _ (IE hl) e1.symm
theorem Nl (h:AW E s tm W) {r j:Nat} (hj:(s.root r).ls.length≤j):W.om (.lf r j)=[]:=by
 obtain ⟨h1,_⟩:=h.roots r
 have:=h1 j
 rw [A3 LA.bad hj] at this
 exact this.1
theorem F0 (h:AW E s tm W) {ps:List PM} {avs:List AV} {us:List Value} {vss:List (List Lv)} {T:IS} (hh:Handed s W ps avs us vss T) :
  EC ps W.w (Seen W (Af ps avs)) us vss (FW T W.bk) (Ao T W.om) where
 len:=hh.l2
 Bx:=hh.l3
 each i pm u vs hp hu hvs:=by
  obtain ⟨av,u',vs',tg,h1,h2,h3,h4,h5⟩:=hh.all hp
  rw [hu] at h2;injection h2 with h2;subst h2
  rw [hvs] at h3;injection h3 with h3;subst h3
  cases pm with
  | val g ls =>
   obtain ⟨_,q1,q2,q3⟩:=h5
   refine ⟨q1,q2,fun j p lv hj hlv => ?_⟩
   obtain ⟨y,hy,hr⟩:=q3 j p lv hj hlv
   exact ⟨y,hy,L.AJ lv.l hr (fun _ _=>rfl) fun b hb=>hb.imp id fun ⟨r,hr,x⟩=>⟨r,Fv ps avs i g ls av hp h1 r hr,x⟩⟩
  | box ls =>
   obtain ⟨r,AA,_,rfl,hb,hlen,hu',hvm,hget⟩:=h5
   obtain ⟨_,hbox⟩:=h.roots r
   rw [if_pos hb] at hbox
   obtain ⟨_,arr,T',fr,hhp,hbare,hsz,hcv⟩:=hbox
   have e1:FW T W.bk i=W.bk r:=by simp [FW,h4]
   show Mu _ _ _ _ _ _ _
   rw [e1]
   refine ⟨hu',hvm,arr,T',fr,hhp,hbare,by rw [hsz,hlen],fun j p lv hj hlv => ?_⟩
   have hlt:j<arr.size:=by rw [hsz,hlen];exact (List.getElem?_eq_some_iff.1 hj).1
   refine ⟨arr[j],Array.getElem?_eq_getElem hlt, ?_⟩
   have e2:Ao T W.om (.lf i j)=W.om (.lf r j):=by simp [Ao,h4]
   show lv.l.rd p.2 _ _ _ _ (Ao T W.om (.lf i j))
   rw [e2]
   exact L.AJ lv.l (hget j p lv arr[j] hj hlv (by rw [hcv];exact Array.getElem?_eq_getElem hlt)) (fun _ _=>rfl) fun b hb => .inl hb
  | row g ls =>
   obtain ⟨as,l,rfl,rfl,q3,q4,q5,q6,q7⟩:=h5
   refine ⟨q5,q6,fun j p lv hj hlv => ?_⟩
   have hlt:j<ls.length:=(List.getElem?_eq_some_iff.1 hj).1
   obtain ⟨a,ha⟩:=BZ q3 hlt
   obtain ⟨o,ho⟩:=BZ q4 hlt
   obtain ⟨y,hy,hr⟩:=q7 j p a lv o hj ha hlv ho
   refine ⟨y,hy, ?_⟩
   rcases hr with ⟨hs,rfl,hr⟩ | ⟨c,o',gen,t,e,xs,h',t',e',ys,_,rfl,_,_,_,_,rfl,hr,_⟩
   ·have e2:Ao T W.om (.lf i j)=[]:=by simp [Ao,h4,ho]
    show lv.l.rd p.2 _ _ _ _ (Ao T W.om (.lf i j))
    rw [e2]
    exact (L.AZ lv.l hs hr).1
   ·have e2:Ao T W.om (.lf i j)=o':=by simp [Ao,h4,ho]
    show AD e' p.2 _ _ _ _ (Ao T W.om (.lf i j))
    rw [e2]
    exact hr.frame (fun _ _=>rfl) fun b hb => .inl hb
  | fn f=>exact h5.2
 AX i:=by
  cases hp:ps[i]? with
  | none =>
   have:T[i]? = none:=List.getElem?_eq_none (by have:=List.getElem?_eq_none_iff.1 hp;rw [hh.l4];exact this)
   simp [Ao,this]
  | some pm =>
   obtain ⟨av,u',vs',tg,h1,h2,h3,h4,h5⟩:=hh.all hp
   cases pm with
   | val g ls=>obtain ⟨rfl,_⟩:=h5;simp [Ao,h4]
   | fn f=>obtain ⟨rfl,_⟩:=h5;simp [Ao,h4]
   | row g ls=>obtain ⟨as,l,_,rfl,_⟩:=h5;simp [Ao,h4]
   | box ls =>
    obtain ⟨r,AA,_,rfl,hb,_⟩:=h5
    obtain ⟨_,hbox⟩:=h.roots r
    rw [if_pos hb] at hbox
    simp [Ao,FW,h4,hbox.1]
 none i hn1 hn2 j:=by
  cases hp:ps[i]? with
  | none =>
   have:T[i]? = none:=List.getElem?_eq_none (by have:=List.getElem?_eq_none_iff.1 hp;rw [hh.l4];exact this)
   simp [Ao,this]
  | some pm =>
   obtain ⟨av,u',vs',tg,h1,h2,h3,h4,h5⟩:=hh.all hp
   cases pm with
   | val g ls=>obtain ⟨rfl,_⟩:=h5;simp [Ao,h4]
   | fn f=>obtain ⟨rfl,_⟩:=h5;simp [Ao,h4]
   | row g ls=>exact absurd hp (hn2 g ls)
   | box ls=>exact absurd hp (hn1 ls)
 box i ls hp j hj:=by
  obtain ⟨av,u',vs',tg,h1,h2,h3,h4,h5⟩:=hh.all hp
  obtain ⟨r,AA,_,rfl,hb,hlen,_⟩:=h5
  have e2:Ao T W.om (.lf i j)=W.om (.lf r j):=by simp [Ao,h4]
  rw [e2]
  exact Nl h (by omega)
 row i g ls hp j hj:=by
  obtain ⟨av,u',vs',tg,h1,h2,h3,h4,h5⟩:=hh.all hp
  obtain ⟨as,l,_,rfl,_,hl,_⟩:=h5
  have:l[j]? = none:=List.getElem?_eq_none (by omega)
  simp [Ao,h4,this]
 fl k:=rfl
 nodup k:=Jf h hh k
 A6 k k' hne b hb hb':=by
  obtain ⟨a,ha,hb⟩:=CX hh hb
  obtain ⟨a',ha',hb'⟩:=CX hh hb'
  refine h.sep.A6 a a' (fun e=>hne ?_) b hb hb'
  subst e;exact Ba hh.nodup ha ha'
 own k b hb:=by
  obtain ⟨a,ha,hb⟩:=CX hh hb
  obtain ⟨q1,q2,q3⟩:=h.sep.own a b hb
  refine ⟨?_,q2⟩
  rintro (hz | ⟨r,hr,j,hz⟩)
  ·exact q1 hz
  ·have hab:a = .lf r j:=Classical.byContradiction fun hne=>h.sep.A6 a _ hne b hb hz
   subst hab
   exact hh.root ha hr
 fz b hb:=by
  rcases hb with hz | ⟨r,hr,j,hz⟩
  ·exact (h.sep.fz b hz).1
  ·exact (h.sep.own _ b hz).2.1
end
end Go.Ev
namespace Go.Ev
set_option linter.unusedVariables false
set_option linter.unusedSimpArgs false
mutual
theorem L.GF:∀ (l:L) {w:World} {fz fz':Nat→Prop} {v:Value} {x:l.D} {o:List Nat},l.rd 2 w fz v x o→l.rd 2 w fz' v x o
 | .int _,_,_,_,_,_,_,h=>h
 | .bool,_,_,_,_,_,_,h=>h
 | .str,_,_,_,_,_,_,h=>h
 | .sl _ e,w,fz,fz',v,x,o,h=>by
  obtain ⟨A,c,hv,hc,h⟩:=h
  refine ⟨A,c,hv,hc, ?_⟩
  cases A with
  | none=>exact h
  | some a =>
   rcases h with h | ⟨g,os,hrow,hel,ho⟩
   ·exact .inl h
   ·exact .inr ⟨g,os,hrow,fun i hi=>Ls.GF e (hel i hi),ho⟩
theorem Ls.GF:∀ (ls:Ls) {w:World} {fz fz':Nat→Prop} {g:Nat→Option Value} {x:ls.D} {o:List Nat},ls.rd 2 w fz g x o→ls.rd 2 w fz' g x o
 | .nil,_,_,_,_,_,_,h=>h
 | .one l,_,_,_,_,_,_,h=>by
  simp only [Ls.rd] at h ⊢
  obtain ⟨v,hg,h⟩:=h
  exact ⟨v,hg,L.GF l h⟩
 | .cons l ls,_,_,_,_,_,_,h=>by
  simp only [Ls.rd] at h ⊢
  obtain ⟨v,o1,o2,hg,h1,h2,rfl⟩:=h
  exact ⟨v,o1,o2,hg,L.GF l h1,Ls.GF ls h2,rfl⟩
end
def Conv (ls:List (L×Nat)) (w:World) (fz fz':Nat→Prop):Prop:=∀ p∈ls,∀ (l:L) (x:l.D) (y:Value) (o:List Nat),l=p.1→l.rd p.2 w fz y x o→l.rd p.2 w fz' y x o
theorem Conv.mono {ls:List (L×Nat)} {w:World} {fz fz':Nat→Prop} (h:∀ b,fz b→fz' b):Conv ls w fz fz':=fun p _ l x y o _ hr=>L.AJ l hr (fun _ _=>rfl) h
theorem Conv.fresh {ls:List (L×Nat)} (hf:fresh ls=true) (w:World) (fz fz':Nat→Prop):Conv ls w fz fz':=by
 intro p hp l x y o hl hr
 have:=List.all_eq_true.1 hf p hp
 simp only [Bool.or_eq_true,Bool.not_eq_true',beq_iff_eq,Bool.and_eq_true] at this
 obtain ⟨l',m⟩:=p
 dsimp only at hl this hr ⊢
 subst hl
 rcases this with (h1 | h1) | ⟨h1,h2⟩
 ·exact (L.AZ l h1 hr).1
 ·subst h1;exact L.GF l hr
 ·subst h1
  cases l with
  | sl t e =>
   obtain ⟨A,c,hv,hc,h⟩:=hr
   refine ⟨A,c,hv,hc, ?_⟩
   cases A with
   | none=>exact h
   | some a =>
    rcases h with h | ⟨g,os,hrow,hel,ho⟩
    ·exact .inl h
    ·exact .inr ⟨g,os,hrow,fun i hi=>(Ls.AZ e h2 (hel i hi)).1,ho⟩
  | int k=>exact hr
  | bool=>exact hr
  | str=>exact hr
theorem Gl.conv {w:World} {fz fz':Nat→Prop} {g:Bool} {ls:List (L×Nat)} {u:Value} {vs:List Lv} {own:Nat→List Nat} (h:Gl w fz g ls u vs own) (hc:Conv ls w fz fz'):Gl w fz' g ls u vs own:=by
 obtain ⟨h1,h2,h3⟩:=h
 refine ⟨h1,h2,fun j p lv hp hlv => ?_⟩
 obtain ⟨y,hy,hr⟩:=h3 j p lv hp hlv
 have hl:lv.l=p.1:=by
  have:=congrArg (·[j]?) h1
  simp only [List.getElem?_map,hp,hlv,Option.map_some,Option.some.injEq] at this
  exact this
 exact ⟨y,hy,hc p (List.mem_of_getElem? hp) lv.l lv.x y _ hl hr⟩
theorem EE.conv {w:World} {fz fz':Nat→Prop} {om:Nat→List Nat}:∀ {rs:List (Bool×List (L×Nat))} {rv:List Value} {vss:List (List Lv)} {off:Nat},EE w fz om rs rv vss off→Conv (rs.flatMap (·.2)) w fz fz'→EE w fz' om rs rv vss off
 | [],[],[],_,h,hc=>h
 | [],[],_::_,_,h,hc=>h.elim
 | [],_::_,_,_,h,hc=>by simp [EE] at h
 | _::_,[],_,_,h,hc=>by simp [EE] at h
 | _::_,_::_,[],_,h,hc=>by simp [EE] at h
 | (g,ls)::rs,u::us,vs::vss,off,h,hc =>
  ⟨Gl.conv h.1 fun p hp=>hc p (by simp [hp]),EE.conv h.2 fun p hp=>hc p (by
   obtain ⟨q,hq,hp⟩:=List.mem_flatMap.1 hp
   exact List.mem_flatMap.2 ⟨q,List.mem_cons_of_mem _ hq,hp⟩)⟩
theorem JZ.conv {w:World} {fz fz':Nat→Prop} {pm:PM} {u:Value} {vs:List Lv} {AX:Nat} {own:Nat→List Nat} (h:JZ w fz pm u vs AX own) (hc:Conv pm.outs w fz fz'):JZ w fz' pm u vs AX own:=by
 cases pm with
 | val g ls=>exact h
 | fn f=>exact h
 | box ls =>
  obtain ⟨h1,h2,arr,T,fr,q1,q2,q3,h3⟩:=h
  refine ⟨h1,h2,arr,T,fr,q1,q2,q3,fun j p lv hp hlv => ?_⟩
  obtain ⟨y,hy,hr⟩:=h3 j p lv hp hlv
  have hl:lv.l=p.1:=by
   have:=congrArg (·[j]?) h2
   simp only [List.getElem?_map,hp,hlv,Option.map_some,Option.some.injEq] at this
   exact this
  exact ⟨y,hy,hc p (List.mem_of_getElem? hp) lv.l lv.x y _ hl hr⟩
 | row g ls=>exact Gl.conv h hc
theorem JZ.len {w:World} {fz:Nat→Prop} {pm:PM} {u:Value} {vs:List Lv} {AX:Nat} {own:Nat→List Nat} (h:JZ w fz pm u vs AX own):vs.length=pm.outs.length:=by
 cases pm with
 | val g ls=>rw [show vs=[] from h];rfl
 | fn f=>rw [show vs=[] from h];rfl
 | box ls=>have:=congrArg List.length h.2.1;simpa [PM.outs] using this
 | row g ls=>have:=congrArg List.length h.1;simpa [PM.outs] using this
open Classical in
noncomputable def K0 (T:IS) (om qf:Key→List Nat) (fl:Nat→List Nat):Key→List Nat
 | .fl n=>fl n
 | .AX r=>if h:∃ c,AU T c=some (.AX r) then qf h.choose else om (.AX r)
 | .lf r j=>if h:∃ c,AU T c=some (.lf r j) then qf h.choose else om (.lf r j)
theorem LD {T:IS} {c:Key} {n:Nat}:AU T c≠some (.fl n):=by
 intro h
 cases c with
 | fl c=>cases h
 | AX i=>obtain ⟨r,e,_⟩:=BP h;cases e
 | lf i j=>rcases BM h with ⟨r,e,_⟩ | ⟨l,c,o,e,_⟩ <;> cases e
open Classical in
theorem Mp {T:IS} (hn:(T.flatMap PT.D9).Pairwise NH) {om qf:Key→List Nat} {fl:Nat→List Nat} {c k:Key} (h:AU T c=some k):K0 T om qf fl k=qf c:=by
 have hex:∃ c,AU T c=some k:=⟨c,h⟩
 have hc:hex.choose=c:=Ba hn hex.choose_spec h
 cases k with
 | fl n=>exact absurd h LD
 | AX r =>
  show (if h:∃ c,AU T c=some (.AX r) then qf h.choose else om (.AX r))=_
  rw [dif_pos hex,hc]
 | lf r j =>
  show (if h:∃ c,AU T c=some (.lf r j) then qf h.choose else om (.lf r j))=_
  rw [dif_pos hex,hc]
theorem Mo {T:IS} {om qf:Key→List Nat} {fl:Nat→List Nat} {k:Key} (h:∀ c,AU T c≠some k) (hk:∀ n,k ≠ .fl n):K0 T om qf fl k=om k:=by
 have hex:¬ ∃ c,AU T c=some k:=fun ⟨c,hc⟩=>h c hc
 cases k with
 | fl n=>exact absurd rfl (hk n)
 | AX r=>exact dif_neg hex
 | lf r j=>exact dif_neg hex
section
variable {P:Program} {E:Cq} {s:St} {W:Wd} {v:Nat} {tm:Array Value} {cx:Cx}
theorem Js (h:AW E s tm W) (hv:Ae s v) {ks:List (L×Nat)} {rs:List Nat} {fs:List Wr} {w':World} {fz':Nat→Prop} (hf:(if fresh ks then some [] else Au cx s rs)=some fs) :
  ∃ W1 fzB,AW E (s.app fs) tm W1∧JY s (s.app fs) W W1 rs∧(∀ b,W1.fz b→fzB b)∧(∀ b,fzB b→W1.fz b∨(fz' b∧(Seen W rs b→W1.fz b)))∧Conv ks w' fz' fzB:=by
 split at hf
 ·rename_i hfr
  injection hf with hf;subst hf
  exact ⟨W,W.fz,h,⟨⟨rfl,rfl,fun _=>⟨rfl,rfl,rfl⟩⟩,rfl,rfl,rfl,fun _ _ _=>rfl,fun _ _ => .inl rfl,fun _ _ _=>rfl,fun _=>rfl,fun _ _ hb=>hb,fun _ hb=>hb,fun _ hb => .inl hb⟩,fun _ hb=>hb,fun _ hb => .inl hb,Conv.fresh hfr _ _ _⟩
 ·obtain ⟨W1,h1,h2,h3⟩:=Em h hv hf
  exact ⟨W1,fun b=>W1.fz b∨fz' b,h1,h2,fun b hb => .inl hb,fun b hb=>hb.imp id fun hb=>⟨hb,h3 b⟩,Conv.mono fun b hb => .inr hb⟩
theorem M4 (h:AW E s tm W) (hv:Ae s v) {d:Nat} (hd:d<tm.size) {g:Sm} {avs:List AV} {us:List Value} {vss:List (List Lv)} {T:IS} (hh:Handed s W g.ps avs us vss T)
  {z:g.outs.D} {r:Value} {w':World} {fz':Nat→Prop} {om':Key→List Nat} {rv:List Value} {vsR vsP:List (List Lv)} (co:FR g W.w (Seen W (Af g.ps avs)) us (FW T W.bk) (Ao T W.om) z r w' fz' om' rv vsR vsP)
  {fs pw:List Wr} {bs:List (Bool×List LA)} {own left:_} (hf:(if fresh g.Gq then some [] else Au cx s (Af g.ps avs))=some fs) (hb:Dw d v g.rs (unpack g.outs z) 0=some (bs,own,left)) (hp:AY s v g.ps avs left=some pw) :
  ∃ W',W'.w=w'∧AW E (s.app (fs++pw++[.root d ⟨false,v,own⟩, .slot d (Kj bs)])) (tm.setIfInBounds d r) W':=by
 have hin:=F0 h hh
 obtain ⟨W1,fzB,h1,hfr,hup,hdown,hconv⟩:=Js (cx:=cx) (w':=w') (fz':=fz') h hv hf
 have hv1:=hfr.Hy hv
 have hres:=EE.conv co.Mf (fz':=fzB) fun p hp=>hconv p (List.mem_append_left _ hp)
 have heach:∀ (i:Nat) (pm:PM) (u:Value) (vs:List Lv),g.ps[i]? = some pm→us[i]? = some u→vsP[i]? = some vs→JZ w' fzB pm u vs (FW T W.bk i) fun j=>om' (.lf i j):=fun i pm u vs e1 e2 e3 =>
  (co.each i pm u vs e1 e2 e3).conv fun p hp=>hconv p (List.mem_append_right _ (List.mem_flatMap.2 ⟨pm,List.mem_of_getElem? e1,hp⟩))
 rw [co.outs] at hb
 obtain ⟨rfl,hbl,ys,hyl,hown,hvok⟩:=HP g.rs rv vsR vsP.flatten 0 hres hb
 obtain ⟨U,rfl,hUl,hU⟩:=Gg (s:=s) (v:=v) g.ps avs vsP co.len (fun i pm vs e1 e2=>by
  obtain ⟨av,u,_,_,_,q2,_⟩:=hh.all e1
  exact (heach i pm u vs e1 q2 e2).len) hp
 have htg:∀ {i:Nat} {m:PT},T[i]? = some m→∃ pm av u vs vo uo,g.ps[i]? = some pm∧avs[i]? = some av∧us[i]? = some u∧vsP[i]? = some vo∧U[i]? = some uo∧G6 s W pm av m u vs∧M0 s v pm av vo uo∧JZ w' fzB pm u vo (FW T W.bk i) (fun j=>om' (.lf i j)):=by
  intro i m hT
  obtain ⟨pm,av,u,vs,e1,e2,e3,e4,e5⟩:=hh.O4 hT
  have hi:i<g.ps.length:=(List.getElem?_eq_some_iff.1 e1).1
  obtain ⟨vo,e6⟩:=BZ co.len hi
  obtain ⟨uo,e7⟩:=BZ hUl hi
  exact ⟨pm,av,u,vs,vo,uo,e1,e2,e3,e6,e7,e5,hU i pm av vo uo e1 e2 e6 e7,heach i pm u vo e1 e3 e6⟩
 have hcls:∀ u∈U.flatten,(∃ (i:Nat) (ls:List (L×Nat)) (vo:List Lv),T[i]? = some (.box u.r)∧U[i]? = some [u]∧u=⟨u.r,0,AM v ls vo⟩∧vo.length=ls.length∧(s.root u.r).box=true∧(s.root u.r).ls.length=ls.length) ∨
   (∃ (i:Nat) (l:List (Option (Loc×List Nat))) (j:Nat) (c:Loc) (o:List Nat) (g':Bool) (ls:List (L×Nat)) (as:List LA) (vo:List Lv),T[i]? = some (.row l)∧l[j]? = some (some (c,o))∧g.ps[i]? = some (.row g' ls)∧avs[i]? = some (.v g' as)∧vsP[i]? = some vo∧Ew s v ls as vo j u∧u.r=c.r∧u.lo=c.j∧u.news.length=1∧c.r<s.ro.length∧c.j<(s.root c.r).ls.length):=by
  intro u hu
  obtain ⟨uo,hm,hu⟩:=List.mem_flatten.1 hu
  obtain ⟨i,hi⟩:=List.getElem?_of_mem hm
  have hlt:i<g.ps.length:=by rw [← hUl];exact (List.getElem?_eq_some_iff.1 hi).1
  obtain ⟨m,hT⟩:=BZ hh.l4 hlt
  obtain ⟨pm,av,u',vs,vo,uo',e1,e2,e3,e4,e5,e6,e7,e8⟩:=htg hT
  rw [hi] at e5;injection e5 with e5;subst e5
  cases pm with
  | val g' ls=>rw [show uo=[] from e7] at hu;cases hu
  | fn f=>rw [show uo=[] from e7] at hu;cases hu
  | box ls =>
   obtain ⟨r,AA,q1,q2⟩:=e7
   obtain ⟨r',ver',q3,rfl,q4,q5,_⟩:=e6
   rw [q1] at q3
   injection q3 with _ q3;injection q3 with q3;injection q3 with q3
   subst q3;subst q2
   have:=List.mem_singleton.1 hu
   subst this
   exact .inl ⟨i,ls,vo,hT,hi,rfl,by simpa [PM.outs] using e8.len,q4,q5⟩
  | row g' ls =>
   obtain ⟨as,l,rfl,rfl,q3,q4,q5,q6,q7⟩:=e6
   obtain ⟨g2,as2,q8,q9⟩:=e7
   injection q8 with q8 q8';subst q8;subst q8'
   obtain ⟨j,hj⟩:=q9.1 u hu
   have hj':=hj
   obtain ⟨p,c,lv2,AA,gen,t0,e0,xs0,d0,F,h1,h2,h3,h4,h5,h6,rfl⟩:=hj
   have hjl:j<ls.length:=(List.getElem?_eq_some_iff.1 h1).1
   have hvl:vs.length=ls.length:=by have:=congrArg List.length q5;simpa using this
   obtain ⟨lv,hlv⟩:=BZ hvl hjl
   obtain ⟨o,ho⟩:=BZ q4 hjl
   obtain ⟨y,hy,hr⟩:=q7 j p _ lv o h1 h3 hlv ho
   have hl:lv.l=p.1:=by
    have:=congrArg (·[j]?) q5
    simp only [List.getElem?_map,h1,hlv,Option.map_some,Option.some.injEq] at this
    exact this
   obtain ⟨a1,a2⟩:=Gz h5
   rcases hr with ⟨hs,_⟩ | ⟨c',o',_,_,_,_,_,_,_,_,k1,k2,_⟩
   ·rw [hl,h2] at hs;cases hs
   ·injection k1 with k1;subst k1;subst k2
    exact .inr ⟨i,l,j,c,o',_,ls,as,vo,hT,ho,e1,e2,e4,hj',rfl,rfl,rfl,a1,a2⟩
 have hfit:∀ u∈U.flatten,(u.news=[]∨u.r<(s.app fs).ro.length)∧u.lo+u.news.length≤((s.app fs).root u.r).ls.length:=by
  intro u hu
  rw [hfr.same.len,(hfr.same.box u.r).2.2]
  rcases hcls u hu with ⟨i,ls,vo,hT,hUi,he,hvl,hb,hl⟩ | ⟨i,l,j,c,o,g',ls,as,vo,hT,hl,e1,e2,e3,hr,q1,q2,q3,q4,q5⟩
  ·refine ⟨.inr (JS hb), ?_⟩
   rw [hl,he]
   simp [BK v ls vo hvl]
  ·rw [q1,q2,q3]
   exact ⟨.inr q4,q5⟩
 obtain ⟨hsame2,hleaf2⟩:=IM U.flatten (s.app fs) hfit
 rw [BD,BD]
 generalize s.app fs=s1 at h1 hfr hfit hsame2 hleaf2 hv1
 generalize s1.app (Ee U.flatten)=s2 at hsame2 hleaf2
 have hcov:∀ u∈U.flatten,∀ r j,r=u.r∧u.lo≤j∧j<u.lo+u.news.length→∃ c,AU T c=some (.lf r j):=by
  intro u hu r j hc
  rcases hcls u hu with ⟨i,ls,vo,hT,hUi,he,hvl,hb,hl⟩ | ⟨i,l,jj,c,o,g',ls,as,vo,hT,hl,e1,e2,e3,hr,q1,q2,q3,q4,q5⟩
  ·exact ⟨.lf i j,by rw [hc.1];simp [AU,hT]⟩
  ·have:j=c.j:=by omega
   subst this
   exact ⟨.lf i jj,by rw [hc.1,q1];simp [AU,hT,hl]⟩
 have hun:∀ (r j:Nat),(∀ c,AU T c≠some (.lf r j))→s2.leaf r j=s1.leaf r j:=by
  intro r j hn
  rw [hleaf2]
  exact Jr r j _ _ fun u hu hc=>by
   obtain ⟨c,hk⟩:=hcov u hu r j hc
   exact hn c hk
 have hio:∀ k,∀ b∈Ao T W.om k,∃ a,AU T k=some a∧b∈W.om a:=fun k b hb=>CX hh hb
 have hfz1:∀ b,W1.fz b→b<W.w.heap.size∧∀ k,b∉Ao T W.om k:=fun b hb=>⟨hin.fz b (hfr.fz b hb),fun k hk=>(hin.own k b hk).1 (hfr.fz b hb)⟩
 have hfar:∀ k,(∀ c,AU T c≠some k)→∀ b∈W1.om k,b<W.w.heap.size∧∀ c,b∉Ao T W.om c:=by
  intro k hk b hb
  have hb0:=hfr.sub k b hb
  refine ⟨(h.sep.own k b hb0).2.1,fun c hc => ?_⟩
  obtain ⟨a,ha,hb1⟩:=hio c b hc
  exact h.sep.A6 k a (fun e=>hk c (e ▸ ha)) b hb0 hb1
 have hboxT:∀ {i r:Nat},T[i]? = some (.box r)→∃ (ls:List (L×Nat)) (vo:List Lv) (arr:Array Value) (T':TypeId) (fr:Nat×Nat),(s.root r).ls.length=ls.length∧vo.length=ls.length∧w'.heap[W1.bk r]? = some (.cells arr T' fr)∧(∀ j,j<arr.size→¬(fr.1≤j∧j<fr.2))∧arr.size=ls.length ∧
   (∀ (j:Nat) (p:L×Nat) (lv:Lv),ls[j]? = some p→vo[j]? = some lv→∃ y,arr[j]? = some y∧lv.l.rd p.2 w' fzB y lv.x (om' (.lf i j)))∧∀ j,s2.leaf r j=if j<ls.length then nth .bad (AM v ls vo) j else .bad:=by
  intro i r hT
  obtain ⟨pm,av,u',vs,vo,uo,e1,e2,e3,e4,e5,e6,e7,e8⟩:=htg hT
  cases pm with
  | val g' ls=>cases e6.1
  | fn f=>cases e6.1
  | row g' ls=>obtain ⟨_,_,_,q,_⟩:=e6;cases q
  | box ls =>
   obtain ⟨r',ver',q3,q4,hbx,hlen,_⟩:=e6
   injection q4 with q4;subst q4
   obtain ⟨r2,ver2,q5,q6⟩:=e7
   rw [q5] at q3
   injection q3 with _ q3;injection q3 with q3;injection q3 with q3
   subst q3;subst q6
   have hvl:vo.length=ls.length:=by simpa [PM.outs] using e8.len
   obtain ⟨b1,b2,arr,T',fr,b3,b4,b5,b6⟩:=e8
   have hbk:FW T W.bk i=W1.bk r2:=by rw [hfr.bk];simp [FW,hT]
   rw [hbk] at b3
   refine ⟨ls,vo,arr,T',fr,hlen,hvl,b3,b4,b5,b6,fun j => ?_⟩
   have hnl:=BK v ls vo hvl
   split
   ·rename_i hj
    rw [hleaf2]
    refine I9 r2 j U.flatten _ (fun u hu hc => ?_) (.inr ⟨⟨r2,0,AM v ls vo⟩,List.mem_flatten.2 ⟨_,List.mem_of_getElem? e5,List.mem_singleton_self _⟩,rfl,Nat.zero_le _,by rw [hnl];omega⟩)
    rcases hcls u hu with ⟨i',ls',vo',hT',hUi,he,_⟩ | ⟨i',l,jj,c,o,g',ls',as,vo',hT',hl,_,_,_,hr,q1,q2,q3,_⟩
    ·have hii:Key.AX i' = .AX i:=Ba hh.nodup (a := .AX r2) (by rw [hc.1];simp [AU,hT']) (by simp [AU,hT])
     injection hii with hii;subst hii
     rw [e5] at hUi;injection hUi with hUi;injection hUi with hUi;subst hUi
     simp
    ·have:j=c.j:=by omega
     subst this
     have hii:Key.lf i' jj = .lf i c.j:=Ba hh.nodup (a := .lf r2 c.j) (by rw [hc.1,q1];simp [AU,hT',hl]) (by simp [AU,hT])
     injection hii with hii;subst hii
     rw [hT] at hT';cases hT'
   ·rename_i hj
    unfold St.leaf
    rw [A3]
    rw [(hsame2.box r2).2.2,(hfr.same.box r2).2.2,hlen];omega
 have hrowT:∀ {i jj:Nat} {l:List (Option (Loc×List Nat))} {c:Loc} {o:List Nat},T[i]? = some (.row l)→l[jj]? = some (some (c,o))→∃ (q:List Nat) (AA gen:Nat) (t t0:TypeId) (e:Ls) (xs xs':List e.D) (d0:Nat) (u:Value),s.leaf c.r c.j = .arr AA gen t e xs d0∧s2.leaf c.r c.j = .arr AA v t0 e xs' d0∧W1.cv c.r c.j=some u∧AD e d0 w' fzB u xs' q∧Nh (W.om (.lf c.r c.j)) o (om' (.lf i jj)) q:=by
  intro i jj l c o hT hl
  obtain ⟨pm,av,u',vs,vo,uo,e1,e2,e3,e4,e5,e6,e7,e8⟩:=htg hT
  cases pm with
  | val g' ls=>cases e6.1
  | fn f=>cases e6.1
  | box ls=>obtain ⟨_,_,_,q,_⟩:=e6;cases q
  | row g' ls =>
   obtain ⟨g2,ls2,as,u2,vs2,p,lv,y,f1,f2,f3,f4,f5,f6,f7,f8,f9,f10,hr⟩:=hh.OA hT hl
   rw [e1] at f1;injection f1 with f1;injection f1 with f1 f1';subst f1;subst f1'
   rw [e2] at f2;injection f2 with f2;subst f2
   rw [e3] at f3;injection f3 with f3;subst f3
   obtain ⟨g3,as3,q8,q9⟩:=e7
   injection q8 with q8 q8';subst q8;subst q8'
   obtain ⟨u,hu,hru⟩:=q9.2 jj p f5 f8
   have hru':=hru
   obtain ⟨p',c',lo,AA,gen,t0,e0,xs0,d0,F,h1',h2',h3',h4',h5',h6',hue⟩:=hru
   rw [f5] at h1';injection h1' with h1';subst h1'
   rw [f6] at h3';injection h3' with h3';injection h3' with h3';subst h3'
   have hk:AU T (.lf i jj)=some (.lf c.r c.j):=by simp [AU,hT,hl]
   have hleaf:s2.leaf c.r c.j = .arr AA v t0 e0 (F xs0) d0:=by
    rw [hleaf2]
    have hself:nth .bad u.news (c.j - u.lo) = .arr AA v t0 e0 (F xs0) d0:=by rw [hue];simp [nth]
    refine I9 c.r c.j U.flatten _ (fun u2 hu2 hc => ?_) (.inr ⟨u,List.mem_flatten.2 ⟨_,List.mem_of_getElem? e5,hu⟩,by rw [hue];simp⟩)
    rcases hcls u2 hu2 with ⟨i',ls',vo',hT',hUi,he,_⟩ | ⟨i',l',j',c',o',g',ls',as',vo',hT',hl',g1,g2,g3,hr',q1,q2,q3,_⟩
    ·have hii:Key.lf i' c.j = .lf i jj:=Ba hh.nodup (a := .lf c.r c.j) (by rw [hc.1];simp [AU,hT']) hk
     injection hii with hii;subst hii
     rw [hT] at hT';cases hT'
    ·have hcj:c.j=c'.j:=by omega
     have hii:Key.lf i' j' = .lf i jj:=Ba hh.nodup (a := .lf c.r c.j) (by rw [hc.1,q1,hcj];simp [AU,hT',hl']) hk
     injection hii with hii hjj;subst hii;subst hjj
     rw [e1] at g1;injection g1 with g1;injection g1 with g1 g1';subst g1;subst g1'
     rw [e2] at g2;injection g2 with g2;injection g2 with g2 g2';subst g2'
     rw [e4] at g3;injection g3 with g3;subst g3
     rw [← hr'.uniq hru'] at hself
     exact hself
   obtain ⟨m1,m2,m3⟩:=(show Gl w' fzB _ ls u' vo (fun j=>om' (.lf i j)) from e8)
   obtain ⟨y',hy',hro⟩:=m3 jj p lo f5 h4'
   rw [f10] at hy';injection hy' with hy';subst hy'
   rcases hr with ⟨_,k0,_⟩ | ⟨c2,o2,gen2,t2,e2',xs2,hh2,t',e',ys,k1,k2,k3,k4,k5,k6,k7,k8,k9,k10⟩
   ·cases k0
   ·injection k1 with k1;subst k1
    injection k2 with k2;injection k2 with k2 k2';subst k2'
    rw [h5'] at k3;injection k3 with a1 a2 a3 a4 a5 a6
    subst a1;subst a2;subst a3;subst a4
    have a5:=eq_of_heq a5
    subst a5
    obtain ⟨uu,huu,hrd⟩:=(h.roots c.r).row h5'
    rw [k5] at huu;injection huu with huu;subst huu
    rw [a6] at hrd
    obtain ⟨t3,fn,zs,po,n1,n2,n3,n4,n5⟩:=Nz c.p h6' hrd k6 k4 (h.sep.nodup _)
    obtain ⟨z1,z2⟩:=n2.uniq k8
    subst z1;subst z2
    have hlo:lo.l = .sl t3 e'∧∃ ys',HEq lo.x ys'∧fn zs=ys':=by
     unfold N9 at n1
     split at n1
     ·rename_i yy hyy
      obtain ⟨b1,b2⟩:=L.AI hyy
      injection n1 with n1
      refine ⟨b1,yy, ?_,by rw [← n1]⟩
      obtain ⟨ll,xx⟩:=lo
      dsimp only at b1 b2 ⊢
      subst b1
      exact heq_of_eq b2
     ·cases n1
    obtain ⟨hlo1,ys',hlo2,hlo3⟩:=hlo
    have hrd':AD e' p.2 w' fzB y (fn zs) (om' (.lf i jj)):=by
     obtain ⟨ll,xx⟩:=lo
     dsimp only at hlo1 hlo2 hro
     subst hlo1
     have:=eq_of_heq hlo2
     subst this
     rw [hlo3];exact hro
    obtain ⟨q,hq1,hq2⟩:=n5 w' fzB (om' (.lf i jj)) hrd' {
     nd:=co.nodup _
     new:=fun b hb hbo=>by
      rcases (co.own _ b hb).2.2 with hge | ⟨k0,hk0⟩
      ·have:=(h.sep.own _ b hbo).2.1;omega
      ·obtain ⟨a,ha,hba⟩:=hio k0 b hk0
       have:a = .lf c.r c.j:=Classical.byContradiction fun hne=>h.sep.A6 a _ hne b hba hbo
       subst this
       have:=Ba hh.nodup ha hk
       subst this
       have e9:Ao T W.om (.lf i jj)=po:=by simp [Ao,hT,hl]
       rw [← e9];exact hk0
     rest:=fun b hb=>by
      refine co.frame b ?_ fun k0 hk0 => ?_
      ·rcases hb with hb | hb
       ·exact (h.sep.own _ b hb.1).2.1
       ·exact (h.sep.fz b hb).1
      ·rcases hb with hb | hb
       ·obtain ⟨a,ha,hba⟩:=hio k0 b hk0
        have:a = .lf c.r c.j:=Classical.byContradiction fun hne=>h.sep.A6 a _ hne b hba hb.1
        subst this
        have:=Ba hh.nodup ha hk
        subst this
        have e9:Ao T W.om (.lf i jj)=po:=by simp [Ao,hT,hl]
        rw [e9] at hk0
        exact hb.2 hk0
       ·exact (hin.own k0 b hk0).1 (.inl hb)
     fz:=fun b hb=>hup b (hfr.up b hb) }
    exact ⟨q,_,_,_,t0,e0,xs0,F xs0,d0,hh2,h5',hleaf,by rw [hfr.cv];exact k5,by rw [a6];exact hq1,hq2⟩
 have hq0:∀ c,∃ q:List Nat,∀ k,AU T c=some k→q.Nodup∧(∀ b∈q,b∈om' c∨(b∈W1.om k∧b<W.w.heap.size∧∀ c',b∉Ao T W.om c'))∧(∀ r,k = .AX r→q=om' c) ∧
   (∀ i j r,c = .lf i j→T[i]? = some (.box r)→q=if j<(s.root r).ls.length then om' c else []) ∧
   (∀ i j l cc o,c = .lf i j→T[i]? = some (.row l)→l[j]? = some (some (cc,o))→∃ (AA gen:Nat) (t t0:TypeId) (e:Ls) (xs xs':List e.D) (d0:Nat) (u:Value),s.leaf cc.r cc.j = .arr AA gen t e xs d0∧s2.leaf cc.r cc.j = .arr AA v t0 e xs' d0∧W1.cv cc.r cc.j=some u∧AD e d0 w' fzB u xs' q):=by
  intro c
  cases hk:AU T c with
  | none=>exact ⟨[],fun k hk'=>by cases hk'⟩
  | some k =>
   cases c with
   | fl n=>cases hk
   | AX i =>
    obtain ⟨r,rfl,hT⟩:=BP hk
    refine ⟨om' (.AX i),fun k hk' => ?_⟩
    injection hk' with hk';subst hk'
    exact ⟨co.nodup _,fun b hb => .inl hb,fun _ _=>rfl,fun _ _ _ e=>by (cases e),fun _ _ _ _ _ e=>by (cases e)⟩
   | lf i j =>
    rcases BM hk with ⟨r,rfl,hT⟩ | ⟨l,cc,o,rfl,hT,hl⟩
    ·refine ⟨if j<(s.root r).ls.length then om' (.lf i j) else [],fun k hk' => ?_⟩
     injection hk' with hk';subst hk'
     refine ⟨?_, ?_,fun _ e=>by (cases e), ?_, ?_⟩
     ·split
      ·exact co.nodup _
      ·exact List.nodup_nil
     ·intro b hb
      split at hb
      ·exact .inl hb
      ·cases hb
     ·intro i' j' r' e hT'
      injection e with e1 e2;subst e1;subst e2
      rw [hT] at hT';injection hT' with hT';injection hT' with hT';subst hT'
      rfl
     ·intro i' j' l' cc' o' e hT'
      injection e with e1 e2;subst e1;subst e2
      rw [hT] at hT';cases hT'
    ·obtain ⟨q,AA,gen,t,t0,e,xs,xs',d0,u,p1,p2,p3,p4,p5,p6⟩:=hrowT hT hl
     refine ⟨q,fun k hk' => ?_⟩
     injection hk' with hk';subst hk'
     have e9:Ao T W.om (.lf i j)=o:=by simp [Ao,hT,hl]
     refine ⟨p5,fun b hb => ?_,fun _ e=>by (cases e), ?_, ?_⟩
     ·rcases p6 b hb with hb | ⟨hb1,hb2⟩
      ·exact .inl hb
      ·refine .inr ⟨by rw [hfr.om _ _ (hh.root hk)];exact hb1,(h.sep.own _ b hb1).2.1,fun c' hc' => ?_⟩
       obtain ⟨a,ha,hba⟩:=hio c' b hc'
       have:a = .lf cc.r cc.j:=Classical.byContradiction fun hne=>h.sep.A6 a _ hne b hba hb1
       subst this
       have:=Ba hh.nodup ha hk
       subst this
       rw [e9] at hc'
       exact hb2 hc'
     ·intro i' j' r' e hT'
      injection e with e1 e2;subst e1;subst e2
      rw [hT] at hT';cases hT'
     ·intro i' j' l' cc' o' e hT' hl'
      injection e with e1 e2;subst e1;subst e2
      rw [hT] at hT';injection hT' with hT';injection hT' with hT';subst hT'
      rw [hl] at hl';injection hl' with hl';injection hl' with hl';injection hl' with q1 q2;subst q1
      exact ⟨AA,gen,t,t0,e,xs,xs',d0,u,p1,p2,p3,p4⟩
 obtain ⟨qf,hqf⟩:=Classical.axiomOfChoice hq0
 let chb:Nat→Prop:=fun r=>∃ i:Nat,T[i]? = some (.box r)
 let chk:Nat→Nat→Prop:=fun r j=>∃ c,AU T c=some (.lf r j)
 let newcv:Nat→Nat→Option Value:=fun r j=>match w'.heap[W1.bk r]? with
  | some (.cells arr _ _)=>arr[j]?
  | _=>none
 open Classical in
 let W2:Wd:={
  w:=w'
  fz:=fzB
  cv:=fun r j=>if chb r then newcv r j else W1.cv r j
  bk:=W1.bk
  om:=K0 T W1.om qf fun n=>om' (.fl n) }
 have hW2om:∀ k,W2.om k=K0 T W1.om qf (fun n=>om' (.fl n)) k:=fun _=>rfl
 have hflom:∀ k,W2.om (.fl k)=om' (.fl k):=fun k=>rfl
 have hW2t:∀ {c k},AU T c=some k→W2.om k=qf c:=fun hk=>Mp hh.nodup hk
 have hW2n:∀ {k},(∀ c,AU T c≠some k)→(∀ n,k ≠ .fl n)→W2.om k=W1.om k:=fun hk hn=>Mo hk hn
 have hsrc:∀ k,∀ b∈W2.om k,(∃ c,(AU T c=some k∨∃ n,k = .fl n∧c = .fl n)∧b∈om' c)∨(b∈W1.om k∧b<W.w.heap.size∧∀ c,b∉Ao T W.om c):=by
  intro k b hb
  by_cases hk:∃ c,AU T c=some k
  ·obtain ⟨c,hk⟩:=hk
   rw [hW2t hk] at hb
   rcases (hqf c k hk).2.1 b hb with hb | hb
   ·exact .inl ⟨c, .inl hk,hb⟩
   ·exact .inr hb
  ·have hk:∀ c,AU T c≠some k:=fun c hc=>hk ⟨c,hc⟩
   by_cases hn:∃ n,k = .fl n
   ·obtain ⟨n,rfl⟩:=hn
    exact .inl ⟨.fl n, .inr ⟨n,rfl,rfl⟩,hb⟩
   ·rw [hW2n hk fun n e=>hn ⟨n,e⟩] at hb
    exact .inr ⟨hb,hfar k hk b hb⟩
 have hnfz:∀ c,∀ b∈om' c,¬ fzB b:=by
  intro c b hb hz
  obtain ⟨q1,q2,q3⟩:=co.own c b hb
  rcases hdown b hz with hz | ⟨hz,hseen⟩
  ·obtain ⟨p1,p2⟩:=hfz1 b hz
   rcases q3 with q3 | ⟨k0,q3⟩
   ·omega
   ·exact p2 k0 q3
  ·exact q1 hz
 have hnot:∀ b,(b<W.w.heap.size∧∀ c,b∉Ao T W.om c)→∀ c,b∉om' c:=by
  intro b hb c hc
  rcases (co.own c b hc).2.2 with q | ⟨k0,q⟩
  ·omega
  ·exact hb.2 k0 q
 have hsep:Sep E W2:={
  nodup:=by
   intro k
   by_cases hk:∃ c,AU T c=some k
   ·obtain ⟨c,hk⟩:=hk
    rw [hW2t hk];exact (hqf c k hk).1
   ·have hk:∀ c,AU T c≠some k:=fun c hc=>hk ⟨c,hc⟩
    by_cases hn:∃ n,k = .fl n
    ·obtain ⟨n,rfl⟩:=hn
     exact co.nodup _
    ·rw [hW2n hk fun n e=>hn ⟨n,e⟩]
     exact h1.sep.nodup _
  A6:=by
   intro k k' hne b hb hb'
   rcases hsrc k b hb with ⟨c,hc,hb⟩ | ⟨hb,hfb⟩
   ·rcases hsrc k' b hb' with ⟨c',hc',hb'⟩ | ⟨hb',hfb'⟩
    ·refine co.A6 c c' (fun e=>hne ?_) b hb hb'
     subst e
     rcases hc with q | ⟨n,q1,q2⟩
     ·rcases hc' with q' | ⟨n',q1',q2'⟩
      ·rw [q] at q';injection q'
      ·subst q2';cases q
     ·rcases hc' with q' | ⟨n',q1',q2'⟩
      ·subst q2;cases q'
      ·rw [q2] at q2';injection q2' with q2';rw [q1,q1',q2']
    ·exact hnot b hfb' c hb
   ·rcases hsrc k' b hb' with ⟨c',hc',hb'⟩ | ⟨hb',hfb'⟩
    ·exact hnot b hfb c' hb'
    ·exact h1.sep.A6 k k' hne b hb hb'
  own:=by
   intro k b hb
   rcases hsrc k b hb with ⟨c,hc,hb⟩ | ⟨hb,p1,p2⟩
   ·obtain ⟨q1,q2,q3⟩:=co.own c b hb
    refine ⟨hnfz c b hb,q2, ?_⟩
    rcases q3 with q3 | ⟨k0,q3⟩
    ·left;have:=h.sep.size;omega
    ·obtain ⟨a,_,ha⟩:=hio k0 b q3;exact (h.sep.own a b ha).2.2
   ·obtain ⟨q1,q2,q3⟩:=h1.sep.own k b hb
    refine ⟨fun hz => ?_,Nat.lt_of_lt_of_le p1 co.size,q3⟩
    rcases hdown b hz with hz | ⟨hz,hseen⟩
    ·exact q1 hz
    ·rcases (co.fz b hz).2 with h3 | h3 | ⟨k0,h3⟩
     ·exact q1 (hseen h3)
     ·omega
     ·exact p2 k0 h3
  fz:=by
   intro b hb
   rcases hdown b hb with hz | ⟨hz,hseen⟩
   ·have:=h1.sep.fz b hz
    rw [hfr.w] at this
    exact ⟨Nat.lt_of_lt_of_le this.1 co.size,this.2⟩
   ·obtain ⟨q1,q2⟩:=co.fz b hz
    refine ⟨q1, ?_⟩
    rcases q2 with q2 | q2 | ⟨k0,q2⟩
    ·rcases q2 with q2 | ⟨r,hr,j,q2⟩
     ·exact (h.sep.fz b q2).2
     ·exact .inr (h.sep.own _ b q2).2.2
    ·right;left;have:=h.sep.size;omega
    ·obtain ⟨a,_,ha⟩:=hio k0 b q2;exact .inr (h.sep.own a b ha).2.2
  frame:=by
   intro b hb1 hb2
   refine (co.frame b (by have:=h.sep.size;omega) fun k hk => ?_).trans (h.sep.frame b hb1 hb2)
   obtain ⟨a,_,ha⟩:=hio k b hk
   rcases (h.sep.own a b ha).2.2 with q | q
   ·omega
   ·exact hb2 q
  size:=Nat.le_trans h.sep.size co.size
  rest:=⟨co.rest.1.trans h.sep.rest.1,co.rest.2.1.trans h.sep.rest.2.1,co.rest.2.2.trans h.sep.rest.2.2⟩ }
 have hsame12:Jb s s2:=⟨hsame2.sl.trans hfr.same.sl,hsame2.len.trans hfr.same.len,fun x=>⟨(hsame2.box x).1.trans (hfr.same.box x).1,(hsame2.box x).2.1.trans (hfr.same.box x).2.1,(hsame2.box x).2.2.trans (hfr.same.box x).2.2⟩⟩
 have hcvu:∀ r,¬ chb r→∀ j,W2.cv r j=W1.cv r j:=fun r hr j=>if_neg hr
 have hcvb:∀ r,chb r→∀ j,W2.cv r j=newcv r j:=fun r hr j=>if_pos hr
 have hnb:∀ {i j r j0:Nat} {l:List (Option (Loc×List Nat))} {c:Loc} {o:List Nat},T[i]? = some (.row l)→l[j]? = some (some (c,o))→¬ chb c.r:=by
  rintro i j r j0 l c o hT hl ⟨i',hT'⟩
  have hii:Key.lf i' c.j = .lf i j:=Ba hh.nodup (a := .lf c.r c.j) (by simp [AU,hT']) (by simp [AU,hT,hl])
  injection hii with hii;subst hii
  rw [hT] at hT';cases hT'
 have hrep2:AW E s2 tm W2:=by
  refine h1.MO hv1 hsame2 chk chb (fun r j hn=>hun r j fun c hc=>hn ⟨c,hc⟩) hcvu (fun r j ⟨i,hT⟩=>⟨.lf i j,by simp [AU,hT]⟩) (fun _=>rfl) ?_ ?_ ?_ (fun b hb=>hup b hb) ?_ hsep ?_ ?_
  ·intro r j hn
   exact hW2n (fun c hc=>hn ⟨c,hc⟩) fun n e=>by cases e
  ·intro r
   by_cases hk:∃ c,AU T c=some (.AX r)
   ·obtain ⟨c,hk⟩:=hk
    rw [hW2t hk,(hqf c _ hk).2.2.1 r rfl]
    cases c with
    | fl c=>cases hk
    | lf i j=>rcases BM hk with ⟨r',e,_⟩ | ⟨l,c,o,e,_⟩ <;> cases e
    | AX i =>
     obtain ⟨r',e,hT⟩:=BP hk
     injection e with e;subst e
     rw [co.AX,hfr.O8]
     simp [Ao,hT]
   ·exact hW2n (fun c hc=>hk ⟨c,hc⟩) fun n e=>by cases e
  ·intro b hb
   have:b<W.w.heap.size∧∀ k,b∉Ao T W.om k:=by
    rcases hb with hb | ⟨r,hr,hb⟩ | ⟨r,j,hr,hb⟩
    ·exact hfz1 b hb
    ·refine hfar (.AX r) (fun c hc => ?_) b hb
     cases c with
     | fl c=>cases hc
     | AX i=>obtain ⟨r',e,hT⟩:=BP hc;injection e with e;subst e;exact hr ⟨i,hT⟩
     | lf i j=>rcases BM hc with ⟨r',e,_⟩ | ⟨l,c,o,e,_⟩ <;> cases e
    ·exact hfar (.lf r j) (fun c hc=>hr ⟨c,hc⟩) b hb
   show w'.heap[b]? = _
   rw [co.frame b this.1 this.2,hfr.w]
  ·intro r j AA gen t e xs d0 hc hl hne
   obtain ⟨c,hk⟩:=hc
   cases c with
   | fl c=>cases hk
   | AX i=>obtain ⟨r',e,hT⟩:=BP hk;cases e
   | lf i jj =>
    rcases BM hk with ⟨r',e,hT⟩ | ⟨l,cc,o,e,hT,hlj⟩
    ·injection e with e1 e2;subst e1;subst e2
     obtain ⟨ls,vo,arr,T',fr,c1,c2,c3,c4,c5,c6,c7⟩:=hboxT hT
     rw [c7] at hl
     split at hl
     ·rename_i hj
      have hj2:j<vo.length:=by omega
      rw [Ah,BJ v ls vo j ls[j] vo[j] (List.getElem?_eq_getElem hj) (List.getElem?_eq_getElem hj2)] at hl
      exact absurd (J6 hl).1 hne
     ·cases hl
    ·injection e with e1 e2;subst e1;subst e2
     obtain ⟨_,ver0,gen0,t1,t0,e0,xs0,xs',d1,u,c1,c2,c3,c4⟩:=hrowT hT hlj
     rw [c2] at hl
     injection hl with f1 f2 f3 f4 f5 f6
     subst f1;subst f2;subst f4
     exact ⟨hnb hT hlj (r:=0) (j0:=0),gen0,t1,xs0,d1,by rw [hfr.leaf _ _ (hh.root hk)];exact c1,fun hg=>absurd rfl hg⟩
  ·intro hturn r j hc
   obtain ⟨c,hk⟩:=hc
   cases c with
   | fl c=>cases hk
   | AX i=>obtain ⟨r',e,hT⟩:=BP hk;cases e
   | lf i jj =>
    rw [hW2t hk]
    obtain ⟨_,_,_,hqb,hqr⟩:=hqf _ _ hk
    rcases BM hk with ⟨r',e,hT⟩ | ⟨l,cc,o,e,hT,hlj⟩
    ·injection e with e1 e2;subst e1;subst e2
     obtain ⟨ls,vo,arr,T',fr,c1,c2,c3,c4,c5,c6,c7⟩:=hboxT hT
     rw [hqb i j r rfl hT,c1]
     have hcv:W2.cv r j=arr[j]? := by
      rw [hcvb r ⟨i,hT⟩ j]
      show (match w'.heap[W1.bk r]? with
       | some (.cells arr _ _)=>arr[j]?
       | _=>none)=_
      rw [c3]
     rw [c7,hcv]
     by_cases hj:j<ls.length
     ·rw [if_pos hj,if_pos hj]
      have hj2:j<vo.length:=by omega
      obtain ⟨y,hy,hr⟩:=c6 j ls[j] vo[j] (List.getElem?_eq_getElem hj) (List.getElem?_eq_getElem hj2)
      rw [Ah,BJ v ls vo j ls[j] vo[j] (List.getElem?_eq_getElem hj) (List.getElem?_eq_getElem hj2),hy]
      exact FN hr
     ·rw [if_neg hj,if_neg hj]
      exact ⟨rfl,fun _ _=>trivial⟩
    ·injection e with e1 e2;subst e1;subst e2
     obtain ⟨ver0,gen0,t1,t0,e0,xs0,xs',d1,u,c1,c2,c3,c4⟩:=hqr i jj l cc o rfl hT hlj
     rw [c2,hcvu cc.r (hnb hT hlj (r:=0) (j0:=0)) cc.j]
     exact ⟨u,c3,c4⟩
  ·rintro r ⟨i,hT⟩ hbx
   obtain ⟨ls,vo,arr,T',fr,c1,c2,c3,c4,c5,c6,c7⟩:=hboxT hT
   refine ⟨arr,T',fr,c3,c4, ?_,fun j => ?_⟩
   ·rw [(hfr.same.box r).2.2,c5,c1]
   ·rw [hcvb r ⟨i,hT⟩ j]
    show (match w'.heap[W1.bk r]? with
     | some (.cells arr _ _)=>arr[j]?
     | _=>none)=_
    rw [c3]
 have hv2:Ae s2 v:=by
  refine ⟨fun t => ?_,fun r j => ?_,hv.2.2⟩
  ·have:s2.slot t=s.slot t:=by show nth _ s2.sl t=_;rw [hsame12.sl];rfl
   rw [this];exact hv.1 t
  ·by_cases hc:chk r j
   ·obtain ⟨c,hk⟩:=hc
    cases c with
    | fl c=>cases hk
    | AX i=>obtain ⟨r',e,hT⟩:=BP hk;cases e
    | lf i jj =>
     rcases BM hk with ⟨r',e,hT⟩ | ⟨l,cc,o,e,hT,hlj⟩
     ·injection e with e1 e2;subst e1;subst e2
      obtain ⟨ls,vo,arr,T',fr,c1,c2,c3,c4,c5,c6,c7⟩:=hboxT hT
      rw [c7]
      split
      ·rename_i hj
       have hj2:j<vo.length:=by omega
       rw [Ah,BJ v ls vo j ls[j] vo[j] (List.getElem?_eq_getElem hj) (List.getElem?_eq_getElem hj2)]
       generalize vo[j]=lv
       obtain ⟨l,x⟩:=lv
       cases l with
       | sl t e=>cases ls[j].2 with
        | zero=>right;simp [BT,LA.AH]
        | succ m=>left;rfl
       | _=>right;simp [BT,LA.AH]
      ·right;simp [LA.AH]
     ·injection e with e1 e2;subst e1;subst e2
      obtain ⟨_,ver0,gen0,t1,t0,e0,xs0,xs',d1,u,c1,c2,c3,c4⟩:=hrowT hT hlj
      rw [c2];exact .inl rfl
   ·rw [hun r j fun c hc'=>hc ⟨c,hc'⟩];exact hv1.2.1 r j
 have hown':∀ (k:Nat) (b:LA),own[k]? = some b→∃ y,ys[k]? = some y∧FT w' fzB v b y (om' (.fl k)):=fun k b hk=>by have:=hown k b hk;rwa [Nat.zero_add] at this
 let oj:Nat→List Nat:=fun k=>if k<own.length then om' (.fl k) else []
 have hoj:∀ k,∀ b∈oj k,b∈om' (.fl k):=by
  intro k b hb
  have hb:b∈(if k<own.length then om' (.fl k) else []):=hb
  split at hb
  ·exact hb
  ·cases hb
 generalize hav:Kj bs=av
 refine ⟨AO W2 w' [] d (fun k=>ys[k]?) 0 [] oj,rfl, ?_⟩
 refine hrep2.Kd hv2 (us:=[]) hd (x:=⟨false,v,own⟩) (a:=av) (u:=r) (w':=w') (cvd:=fun k=>ys[k]?) (bkd:=0) (ob:=[]) (oj:=oj) rfl ?_ (fun _ _=>rfl) (fun b h1 h2=>rfl) (Nat.le_refl _) ⟨rfl,rfl,rfl⟩ List.nodup_nil ?_ (fun _ _ hb=>by cases hb) ?_ ?_ ?_ ?_
 ·intro j AA gen t e xs dd hl
  rw [Ah] at hl
  cases hq:own[j]? with
  | none=>rw [hq] at hl;cases hl
  | some b =>
   rw [hq] at hl
   obtain ⟨y,_,ho⟩:=hown' j b hq
   have hl:b = .arr AA gen t e xs dd:=hl
   subst hl
   exact ho.1
 ·intro j
  show (if j<own.length then om' (.fl j) else []).Nodup
  split
  ·exact co.nodup _
  ·exact List.nodup_nil
 ·intro i j hij b hb hb'
  exact co.A6 (.fl i) (.fl j) (fun e=>hij (by injection e)) b (hoj i b hb) (hoj j b hb')
 ·intro b hb
  rcases hb with hb | ⟨j,hb⟩
  ·cases hb
  ·exact .inl ⟨.fl j,fun hk=>hk,by rw [hflom];exact hoj j b hb⟩
 ·intro hturn hroot
  refine ⟨fun j => ?_, ?_⟩
  ·have e1:(AO W2 w' [] d (fun k=>ys[k]?) 0 [] oj).cv d j=ys[j]? := by simp [AO]
   have e2:(AO W2 w' [] d (fun k=>ys[k]?) 0 [] oj).om (.lf d j)=oj j:=by simp [AO]
   rw [e1,e2]
   show Aa _ _ (nth LA.bad own j) _ _
   rw [Ah]
   cases hq:own[j]? with
   | none =>
    have hj:¬ j<own.length:=by have:=List.getElem?_eq_none_iff.1 hq;omega
    have:oj j=[]:=if_neg hj
    rw [this]
    exact ⟨rfl,fun _ _=>trivial⟩
   | some b =>
    have hj:j<own.length:=(List.getElem?_eq_some_iff.1 hq).1
    have:oj j=om' (.fl j):=if_pos hj
    rw [this]
    obtain ⟨y,hy,ho⟩:=hown' j b hq
    show Aa _ _ b _ _
    rw [hy]
    cases b with
    | arr AA gen t e xs m=>exact ⟨y,rfl,ho.2.2⟩
    | bad=>exact ⟨ho,fun _ _=>trivial⟩
    | _=>exact ho.elim
  ·show (if false=true then _ else _)
   rw [if_neg (by simp)]
   simp [AO]
 ·intro hturn hroot
  have hvk:=hvok (s2.app (gone []++[.root d ⟨false,v,own⟩, .slot d av])) (AO W2 w' [] d (fun k=>ys[k]?) 0 [] oj) rfl rfl (fun k hk=>by
   rw [Nat.zero_add]
   refine ⟨?_,by simp [AO]⟩
   unfold St.leaf
   rw [hroot])
  rw [co.res]
  generalize s2.app (gone []++[.root d ⟨false,v,own⟩, .slot d av])=s3 at hvk
  generalize AO W2 w' [] d (fun k=>ys[k]?) 0 [] oj=W3 at hvk
  rw [← hav]
  have htup:∀ {bs:List (Bool×List LA)} {rv:List Value},bs.length=rv.length→(∀ (i:Nat) (p:Bool×List LA) (u:Value),bs[i]? = some p→rv[i]? = some u→Ex s3 W3 p.1 p.2 u)→BY s3 W3 (.De bs) (.tuple rv.toArray):=by
   intro bs rv hl hh
   refine ⟨rv.toArray,rfl,by simp [hl],fun j p hj => ?_⟩
   have hlt:j<rv.length:=by rw [← hl];exact (List.getElem?_eq_some_iff.1 hj).1
   exact ⟨rv[j],by simp [hlt],hh j p rv[j] hj (List.getElem?_eq_getElem hlt)⟩
  match bs,rv,hbl,hvk with
  | [],[],hbl,hvk=>exact htup hbl hvk
  | [(g',as)],[u],hbl,hvk=>exact hvk 0 (g',as) u rfl rfl
  | p::q::bs,u::u'::rv,hbl,hvk=>exact htup hbl hvk
end
end Go.Ev
namespace Go.Ev
set_option linter.unusedVariables false
set_option linter.unusedSimpArgs false
section
variable {P:Program} {E:Cq} {s:St} {W:Wd} {tm:Array Value} {v:Nat}
def Fk (W:Wd) (w':World) (fz':Nat→Prop) (b0:Nat):Wd :=
 { W with w:=w',fz:=fun x=>W.fz x∨fz' x,om:=fun k=>match k with
   | .fl n=>if n=0 then [b0] else []
   | k=>W.om k }
theorem AW.OX (h:AW E s tm W) (hv:Ae s v) {b0:Nat} {w':World} {fz':Nat→Prop}
  (hold:∀ b,b<W.w.heap.size→w'.heap[b]? = W.w.heap[b]?) (hsize:W.w.heap.size≤w'.heap.size) (hrest:w'.os=W.w.os∧w'.tape=W.w.tape∧w'.output=W.w.output)
  (hfz:∀ x,fz' x→x<w'.heap.size∧(W.fz x∨W.w.heap.size≤x)) (hb:W.w.heap.size≤b0∧b0<w'.heap.size∧¬ fz' b0):AW E s tm (Fk W w' fz' b0):=by
 have hs:=h.sep
 have hmem:∀ k b,b∈(Fk W w' fz' b0).om k→(b∈W.om k∧∀ n,k ≠ .fl n)∨(k = .fl 0∧b=b0):=by
  intro k b hk
  cases k with
  | fl n =>
   have hk:b∈(if n=0 then [b0] else ([]:List Nat)):=hk
   by_cases hn:n=0
   ·rw [if_pos hn] at hk;exact .inr ⟨by rw [hn],List.mem_singleton.1 hk⟩
   ·rw [if_neg hn] at hk;cases hk
  | AX r=>exact .inl ⟨hk,by simp⟩
  | lf r j=>exact .inl ⟨hk,by simp⟩
 have hturn:EG v s s W (Fk W w' fz' b0):={
  fz:=fun b hb => .inl hb
  LL:=fun b hb=>hold b (hs.fz b hb).1
  leaf:=fun r j AA gen t e xs dd hl hne=>⟨rfl,gen,t,xs,dd,hl,fun _=>⟨rfl,fun p h' e' u hc' hn=>by
   obtain ⟨u0,hu0,hrd⟩:=(h.roots r).row hl
   rw [hc'] at hu0;injection hu0 with hu0;subst hu0
   exact BN p hrd hn fun b hb=>hold b (hb.elim (fun hb=>(hs.own _ b hb).2.1) fun hb=>(hs.fz b hb).1)⟩⟩
  box:=fun r hb hne=>⟨hb,rfl,rfl⟩ }
 refine h.H9 hv hturn ?_ h.DB h.Bx (fun t => .inl ⟨rfl,rfl⟩) fun r => ?_
 ·exact {
   nodup:=fun k=>by
    cases k with
    | fl n =>
     show (if n=0 then [b0] else ([]:List Nat)).Nodup
     split <;> simp
    | AX r=>exact hs.nodup (.AX r)
    | lf r j=>exact hs.nodup (.lf r j)
   A6:=fun k k' hne b h1 h2=>by
    rcases hmem k b h1 with ⟨h1,n1⟩ | ⟨rfl,rfl⟩ <;> rcases hmem k' b h2 with ⟨h2,n2⟩ | ⟨rfl,h2⟩
    ·exact hs.A6 k k' hne b h1 h2
    ·have:=(hs.own k b h1).2.1;omega
    ·have:=(hs.own k' _ h2).2.1;omega
    ·exact hne rfl
   own:=fun k b h1=>by
    rcases hmem k b h1 with ⟨h1,_⟩ | ⟨rfl,rfl⟩
    ·obtain ⟨a1,a2,a3⟩:=hs.own k b h1
     refine ⟨fun hz=>hz.elim a1 fun hz => ?_,Nat.lt_of_lt_of_le a2 hsize,a3⟩
     rcases (hfz b hz).2 with h | h
     ·exact a1 h
     ·omega
    ·refine ⟨fun hz=>hz.elim (fun hz => ?_) hb.2.2,hb.2.1, .inl (Nat.le_trans hs.size hb.1)⟩
     have:=(hs.fz _ hz).1;omega
   fz:=fun b hz=>by
    rcases hz with hz | hz
    ·obtain ⟨a1,a2⟩:=hs.fz b hz
     exact ⟨Nat.lt_of_lt_of_le a1 hsize,a2⟩
    ·obtain ⟨a1,a2⟩:=hfz b hz
     refine ⟨a1,a2.elim (fun h=>(hs.fz b h).2) fun h => .inr (.inl (Nat.le_trans hs.size h))⟩
   frame:=fun b h1 h2=>(hold b (Nat.lt_of_lt_of_le h1 hs.size)).trans (hs.frame b h1 h2)
   size:=Nat.le_trans hs.size hsize
   rest:=⟨hrest.1.trans hs.rest.1,hrest.2.1.trans hs.rest.2.1,hrest.2.2.trans hs.rest.2.2⟩ }
 ·obtain ⟨h1,h2⟩:=h.roots r
  refine ⟨fun j => ?_, ?_⟩
  ·exact Aa.Df hturn (by have:=hv.2.1 r j;exact this) (fun b hb=>hold b (hs.own _ b hb).2.1) (h1 j)
  ·show (if (s.root r).box=true then _ else _)
   split
   ·rename_i hb
    rw [if_pos hb] at h2
    obtain ⟨ho',arr',T',fr',hh',a1,a2,a3⟩:=h2
    refine ⟨ho',arr',T',fr',(hold _ ?_).trans hh',a1,a2,a3⟩
    exact (Array.getElem?_eq_some_iff.1 hh').1
   ·rename_i hb;rw [if_neg hb] at h2;exact h2
theorem AW.LZ (h:AW E s tm W) (hv:Ae s v) {d:Nat} (hd:d<tm.size) {bs:List LA} {cs:Array Value} {T:TypeId} {fr:Nat×Nat} {b0:Nat} {w':World} {fz':Nat→Prop}
  (hold:∀ b,b<W.w.heap.size→w'.heap[b]? = W.w.heap[b]?) (hsize:W.w.heap.size≤w'.heap.size) (hrest:w'.os=W.w.os∧w'.tape=W.w.tape∧w'.output=W.w.output)
  (hfz:∀ x,fz' x→x<w'.heap.size∧(W.fz x∨W.w.heap.size≤x)) (hb:W.w.heap.size≤b0∧b0<w'.heap.size∧¬ fz' b0) (hcell:w'.heap[b0]? = some (.cells cs T fr)) (hfr:∀ j,j<cs.size→¬(fr.1≤j∧j<fr.2)) (hlen:cs.size=bs.length)
  (hbs:∀ (j:Nat) (b:LA),bs[j]? = some b→∃ (l:L) (x:l.D) (y:Value),b = .sc l x∧cs[j]? = some y∧l.rd 0 w' fz' y x []) :
  ∃ W',W'.w=w'∧AW E (s.app (GC d v bs)) (tm.setIfInBounds d (.pointer (some ⟨b0,0,none⟩))) W':=by
 have h1:=h.OX hv hold hsize hrest hfz hb
 have hsc:∀ j,(∃ (l:L) (x:l.D) (y:Value),nth .bad bs j = .sc l x∧cs[j]? = some y∧l.rd 0 w' fz' y x [])∨nth .bad bs j = .bad:=by
  intro j
  rcases Nat.lt_or_ge j bs.length with hj | hj
  ·left
   have:=hbs j bs[j] (List.getElem?_eq_getElem hj)
   rw [Ah,List.getElem?_eq_getElem hj];exact this
  ·right;exact A3 _ hj
 refine ⟨AO (Fk W w' fz' b0) w' [] d (fun j=>cs[j]?) b0 [b0] (fun _=>[]),rfl, ?_⟩
 refine h1.Kd (us:=[]) hv hd (x:=⟨true,v,bs⟩) (a:=one (.ptr d 0 v)) rfl ?_ (fun b _=>rfl) (fun b _ _=>rfl) (Nat.le_refl _) ⟨rfl,rfl,rfl⟩ (List.nodup_cons.2 ⟨by simp,List.nodup_nil⟩) (fun _=>List.nodup_nil) (fun _ _ _ hb=>by cases hb) (fun _ _ _ _ hb=>by cases hb) ?_ ?_ ?_
 ·intro j AA gen t e xs dd hl
  dsimp only at hl
  rcases hsc j with ⟨l,x,y,h1,_⟩ | h1 <;> rw [h1] at hl <;> cases hl
 ·intro b hb
  rcases hb with hb | ⟨j,hb⟩
  ·simp at hb;subst hb
   exact .inl ⟨.fl 0,id,by simp [Fk]⟩
  ·cases hb
 ·intro _ _
  refine ⟨fun j => ?_, ?_⟩
  ·have e1:(AO (Fk W w' fz' b0) w' [] d (fun j=>cs[j]?) b0 [b0] (fun _=>[])).cv d j=cs[j]? := by simp [AO]
   have e2:(AO (Fk W w' fz' b0) w' [] d (fun j=>cs[j]?) b0 [b0] (fun _=>[])).om (.lf d j)=[]:=by simp [AO]
   rw [e1,e2]
   show Aa _ _ (nth LA.bad bs j) _ _
   rcases hsc j with ⟨l,x,y,h1,h2,h3⟩ | h1
   ·rw [h1]
    refine ⟨rfl,fun u hu => ?_⟩
    rw [h2] at hu;injection hu with hu;subst hu
    exact L.AJ l h3 (fun b _=>rfl) (fun b hb => .inr hb)
   ·rw [h1];exact ⟨rfl,fun _ _=>trivial⟩
  ·show (if true=true then _ else _)
   rw [if_pos rfl]
   have hbk:(AO (Fk W w' fz' b0) w' [] d (fun j=>cs[j]?) b0 [b0] (fun _=>[])).bk d=b0:=by simp [AO]
   refine ⟨by simp [AO],cs,T,fr, ?_,hfr,hlen,fun j=>by simp [AO]⟩
   rw [hbk];exact hcell
 ·intro _ _
  intro _ _
  have hbk:(AO (Fk W w' fz' b0) w' [] d (fun j=>cs[j]?) b0 [b0] (fun _=>[])).bk d=b0:=by simp [AO]
  rw [hbk]
end
end Go.Ev
namespace Go.Ev
open Go.Sort (Holds insertionSort)
set_option linter.unusedVariables false
set_option linter.unusedSimpArgs false
section
variable {α β:Type} [Inhabited α] [Inhabited β]
theorem KI (d:Array α) (i j:Nat):(Go.Sort.swp d i j).size=d.size:=by simp [Go.Sort.swp]
theorem get_map (f:α→β) (d:Array α) (i:Nat) (hi:i<d.size):(d.map f)[i]! = f d[i]! := by
 rw [getElem!_pos _ i (by simpa using hi),getElem!_pos d i hi,Array.getElem_map]
theorem NX (f:α→β) (d:Array α) (i j:Nat) (hi:i<d.size) (hj:j<d.size):Go.Sort.swp (d.map f) i j=(Go.Sort.swp d i j).map f:=by
 unfold Go.Sort.swp
 rw [get_map f d i hi,get_map f d j hj]
 apply Array.ext_getElem?
 intro k
 simp only [Array.getElem?_setIfInBounds,Array.getElem?_map,Array.size_map,Array.size_setIfInBounds]
 by_cases h1:j=k
 ·by_cases h2:j<d.size
  ·simp [h1,h1 ▸ h2]
  ·simp [h1,h1 ▸ h2]
 ·by_cases h2:i=k
  ·by_cases h3:i<d.size
   ·simp [h1,h2,h2 ▸ h3]
   ·simp [h1,h2,h2 ▸ h3]
  ·simp [h1,h2]
theorem Fe (f:α→β) (lt:α→α→Bool) (lt':β→β→Bool) (h:∀ x y,lt' (f x) (f y)=lt x y) (a:Nat):∀ (j:Nat) (d:Array α),j<d.size→Go.Sort.insInner lt' a j (d.map f)=(Go.Sort.insInner lt a j d).map f∧(Go.Sort.insInner lt a j d).size=d.size
 | 0,d,_=>⟨rfl,rfl⟩
 | j+1,d,hj=>by
  simp only [Go.Sort.insInner]
  rw [get_map f d (j+1) hj,get_map f d j (by omega),h]
  split
  ·rw [NX f d (j+1) j hj (by omega)]
   obtain ⟨e1,e2⟩:=Fe f lt lt' h a j (Go.Sort.swp d (j+1) j) (by rw [KI];omega)
   exact ⟨e1,e2.trans (KI _ _ _)⟩
  ·exact ⟨rfl,rfl⟩
theorem GZ (lt:α→α→Bool) (a b i:Nat) (d:Array α) (h:i<b):Go.Sort.insOuter lt a b i d=Go.Sort.insOuter lt a b (i+1) (Go.Sort.insInner lt a i d):=by
 rw [Go.Sort.insOuter,if_pos h]
theorem DL (lt:α→α→Bool) (a b i:Nat) (d:Array α) (h:¬ i<b):Go.Sort.insOuter lt a b i d=d:=by
 rw [Go.Sort.insOuter,if_neg h]
theorem Ff (f:α→β) (lt:α→α→Bool) (lt':β→β→Bool) (h:∀ x y,lt' (f x) (f y)=lt x y) (a b:Nat):∀ (n i:Nat) (d:Array α),b - i≤n→b≤d.size→Go.Sort.insOuter lt' a b i (d.map f)=(Go.Sort.insOuter lt a b i d).map f∧(Go.Sort.insOuter lt a b i d).size=d.size
 | 0,i,d,hn,hb=>by
  rw [DL lt' a b i _ (by omega),DL lt a b i _ (by omega)]
  exact ⟨rfl,rfl⟩
 | n+1,i,d,hn,hb=>by
  by_cases hi:i<b
  ·rw [GZ lt' a b i _ hi,GZ lt a b i _ hi]
   obtain ⟨e1,e2⟩:=Fe f lt lt' h a i d (by omega)
   rw [e1]
   obtain ⟨e3,e4⟩:=Ff f lt lt' h a b n (i+1) (Go.Sort.insInner lt a i d) (by omega) (by rw [e2];exact hb)
   exact ⟨e3,e4.trans e2⟩
  ·rw [DL lt' a b i _ hi,DL lt a b i _ hi]
   exact ⟨rfl,rfl⟩
theorem Fg (f:α→β) (lt:α→α→Bool) (lt':β→β→Bool) (h:∀ x y,lt' (f x) (f y)=lt x y) (d:Array α) (b:Nat) (hb:b≤d.size):insertionSort lt' (d.map f) 0 b=(insertionSort lt d 0 b).map f∧(insertionSort lt d 0 b).size=d.size :=
 Ff f lt lt' h 0 b b 1 d (by omega) hb
theorem KC (enc:α→Value) (w:World) (AX off:Nat) (d:Array α) {arr:Array Value} {T:TypeId} {fr:Nat×Nat} (h:w.heap[AX]? = some (.cells arr T fr)):(Go.Sort.putRow enc w AX off d).heap[AX]? = some (.cells (Go.Sort.putCells enc off d arr) T fr):=by
 simp [Go.Sort.putRow,Go.Sort.mapBlock,Array.getElem?_modify,h,Go.Sort.onCells]
theorem Gh (enc:α→Value) (w:World) (AX off:Nat) (d:Array α) {b:Nat} (h:b≠AX):(Go.Sort.putRow enc w AX off d).heap[b]? = w.heap[b]? := by
 simp [Go.Sort.putRow,Go.Sort.mapBlock,Array.getElem?_modify,Ne.symm h]
end
section
variable {P:Program} {E:Cq} {s:St} {W:Wd} {o:Oper} {a:Act} {ws:List Wr} {cx:Cx} {v:Nat} {tm:Array Value}
def KN (W:Wd) (r:Nat) (b:Nat):Prop:=W.fz b∨∃ k,(∀ j,k ≠ .lf r j)∧b∈W.om k
theorem G7.frame {w w':World} {fz:Nat→Prop} {ls:List L} {u:Value} {vs:List Lv} (h:G7 w fz ls u vs) (hf:∀ b,fz b→w'.heap[b]? = w.heap[b]?):G7 w' fz ls u vs:=by
 obtain ⟨b,arr,T,fr,hu,hz,hh,hs,hm,hr⟩:=h
 exact ⟨b,arr,T,fr,hu,hz,(hf b hz).trans hh,hs,hm,fun j lv hj=>let ⟨y,hy,hl⟩:=hr j lv hj;⟨y,hy,L.AJ lv.l hl (fun b hb=>hf b (hb.elim (fun hb=>by cases hb) id)) fun _ hb=>hb⟩⟩
theorem Ds.frame {w w':World} {fz:Nat→Prop} (hf:∀ b,fz b→w'.heap[b]? = w.heap[b]?):∀ {bs:List (List L)} {us:List Value} {vs:List Lv},Ds w fz bs us vs→Ds w' fz bs us vs
 | [],[],vs,h=>h
 | ls::bs,u::us,vs,h=>by
  obtain ⟨x,y,e,h1,h2⟩:=h
  exact ⟨x,y,e,h1.frame hf,Ds.frame hf h2⟩
 | [],_::_,vs,h=>h.elim
 | _::_,[],vs,h=>h.elim
theorem Kl.frame {w w':World} {fz:Nat→Prop} {rv:Value} (hf:∀ b,fz b→w'.heap[b]? = w.heap[b]?) {c:KK} {u:Value} {vs:List Lv} (h:Kl w fz rv c u vs):Kl w' fz rv c u vs:=by
 cases c with
 | box ls=>exact G7.frame h hf
 | EB g bs =>
  obtain ⟨b,T,fr,lb,hu,hz,hh,hb⟩:=h
  exact ⟨b,T,fr,lb,hu,hz,(hf b hz).trans hh,hb.frame hf⟩
 | row =>
  obtain ⟨e,b,T,fr,hu,hz,hh⟩:=h
  exact ⟨e,b,T,fr,hu,hz,(hf b hz).trans hh⟩
theorem ED.frame {w w':World} {fz:Nat→Prop} {rv:Value} (hf:∀ b,fz b→w'.heap[b]? = w.heap[b]?):∀ {cs:List KK} {us:List Value} {vs:List Lv},ED w fz rv cs us vs→ED w' fz rv cs us vs
 | [],[],vs,h=>h
 | c::cs,u::us,vs,h=>by
  obtain ⟨x,y,e,h1,h2⟩:=h
  exact ⟨x,y,e,h1.frame hf,ED.frame hf h2⟩
 | [],_::_,vs,h=>h.elim
 | _::_,[],vs,h=>h.elim
def JW (s:St) (W:Wd) (ps:List (Nat×Nat)) (bs:List Nat):Prop:=bs.length=ps.length∧∀ (k:Nat) (p:Nat×Nat) (b:Nat),ps[k]? = some p→bs[k]? = some b→(s.root p.1).box=true→(s.root p.1).AA=p.2→b=W.bk p.1
theorem JW.cons {p:Nat×Nat} {ps:List (Nat×Nat)} {bs:List Nat} (h:JW s W (p::ps) bs):∃ b bs',bs=b::bs'∧((s.root p.1).box=true→(s.root p.1).AA=p.2→b=W.bk p.1)∧JW s W ps bs':=by
 obtain ⟨h1,h2⟩:=h
 match bs,h1 with
 | b::bs,h1=>exact ⟨b,bs,rfl,h2 0 p b rfl rfl,by simpa using h1,fun k q c hq hc=>h2 (k+1) q c (by simpa using hq) (by simpa using hc)⟩
theorem JW.nil {bs:List Nat} (h:JW s W [] bs):bs=[]:=List.eq_nil_of_length_eq_zero h.1
def NT (b:Nat):Value := .pointer (some ⟨b,0,none⟩)
theorem Nq (h:AW E s tm W) {not r:Nat} {ls:List L} (hb:(s.root r).box=true) (hne:r≠not) (hlen:(s.root r).ls.length=ls.length) (hlf:(s.root r).ls.all Nd=true) {β:Type} {z:β} {k:List Lv→Step β} (hl:(s.data ls (Az r 0 (s.root r).ls) k).leads z) :
  ∃ x,(k x).leads z∧G7 W.w (KN W not) ls (NT (W.bk r)) x:=by
 obtain ⟨_,hbox⟩:=h.roots r
 rw [if_pos hb] at hbox
 obtain ⟨hob,arr,T,fr,hh,hbare,hsz,hcv⟩:=hbox
 obtain ⟨vs,hl,hvl,hvm,hvs⟩:=Ek h (g:=fun j=>arr[j]?) (fun j b hj=>by
  rw [Cr] at hj
  cases hq:(s.root r).ls[j]? with
  | none=>rw [hq] at hj;cases hj
  | some y =>
   rw [hq] at hj
   injection hj with hj
   have hlt:j<(s.root r).ls.length:=(List.getElem?_eq_some_iff.1 hq).1
   have hleaf:s.leaf r j=y:=by unfold St.leaf;rw [Ah,hq];rfl
   have hcell:W.cv r j=some (arr[j]'(by omega)):=by rw [hcv];exact Array.getElem?_eq_getElem _
   refine ⟨arr[j]'(by omega),Array.getElem?_eq_getElem _, ?_⟩
   rw [← hj,Nat.zero_add]
   exact Ky h hleaf hcell) hl
 refine ⟨vs,hl,W.bk r,arr,T,fr,rfl, .inr ⟨.AX r,(fun j e=>by cases e),by rw [hob];simp⟩,hh,by rw [hsz,hlen],hvm,fun j lv hj => ?_⟩
 obtain ⟨u,hu,hr⟩:=hvs j lv hj
 refine ⟨u,hu,L.AJ lv.l hr (fun _ _=>rfl) fun b hb => ?_⟩
 rcases hb with hb | ⟨r',hr',j',hb⟩
 ·exact .inl hb
 ·refine .inr ⟨.lf r' j',fun j e => ?_,hb⟩
  injection e with e1 e2
  have:r'=r:=by
   obtain ⟨y,hy,hy'⟩:=List.mem_flatMap.1 hr'
   obtain ⟨i,hi⟩:=List.getElem?_of_mem hy
   rw [Cr] at hi
   cases hq:(s.root r).ls[i]? with
   | none=>rw [hq] at hi;cases hi
   | some y0 =>
    rw [hq] at hi
    injection hi with hi
    subst hi
    have:=List.all_eq_true.1 hlf y0 (List.mem_of_getElem? hq)
    cases y0 with
    | arr=>simpa [seen,LA.roots] using hy'
    | sc=>simp [seen,LA.roots] at hy'
    | _=>cases this
  exact hne (this.symm.trans e1)
theorem HX (h:AW E s tm W) {not:Nat} {β:Type} {z:β}:∀ {bs:List (List L)} {ps:List (Nat×Nat)} {ks:List Nat} {k:List Lv→Step β},JW s W ps ks→(DF s not bs ps k).leads z→∃ x,(k x).leads z∧Ds W.w (KN W not) bs (ks.map NT) x
 | [],[],ks,k,hk,hl=>by rw [hk.nil];exact ⟨[],hl,rfl⟩
 | ls::bs,(r,AA)::ps,ks,k,hk,hl=>by
  obtain ⟨b,ks',rfl,hb0,hk'⟩:=hk.cons
  simp only [DF] at hl
  split at hl
  ·rename_i hc
   simp only [Bool.and_eq_true,beq_iff_eq,bne_iff_ne,ne_eq] at hc
   obtain ⟨⟨⟨⟨hb,hver⟩,hne⟩,hlen⟩,hall⟩:=hc
   obtain ⟨x,hl,hx⟩:=Nq h hb hne hlen hall hl
   obtain ⟨y,hl,hy⟩:=HX h hk' hl
   have e:b=W.bk r:=hb0 hb hver
   exact ⟨_,hl,x,y,rfl,by rw [e];exact hx,hy⟩
  ·exact hl.elim
 | [],_::_,ks,k,hk,hl=>hl.elim
 | _::_,[],ks,k,hk,hl=>hl.elim
theorem Gv (h:AW E s tm W) {c:Loc} {qs:List (Nat×Nat)} {rv:Value} (hrv:W.cv c.r c.j=some rv) {β:Type} {z:β}:∀ {cs:List KK} {ps:List (Nat×Nat)} {ks:List Nat} {k:List Lv→Step β},JW s W ps ks→(Bu s c qs cs ps k).leads z→∃ x,(k x).leads z∧ED W.w (KN W c.r) rv cs (ks.map NT) x
 | [],[],ks,k,hk,hl=>by rw [hk.nil];exact ⟨[],hl,rfl⟩
 | .box ls::cs,p::ps,ks,k,hk,hl=>by
  obtain ⟨b,ks',rfl,hb0,hk'⟩:=hk.cons
  simp only [Bu] at hl
  have hk1:JW s W [p] [b]:=⟨rfl,fun i q d hq hd=>by
   cases i with
   | zero=>simp at hq hd;subst hq;subst hd;exact hb0
   | succ i=>simp at hq⟩
  obtain ⟨x,hl,hx⟩:=HX h hk1 hl
  obtain ⟨y,hl,hy⟩:=Gv h hrv hk' hl
  obtain ⟨x1,x2,e,h1,h2⟩:=hx
  have e2:x2=[]:=h2
  subst e2
  exact ⟨_,hl,x,y,rfl,by rw [e,List.append_nil];exact h1,hy⟩
 | .EB g bs::cs,(r,AA)::ps,ks,k,hk,hl=>by
  obtain ⟨b,ks',rfl,hb0,hk'⟩:=hk.cons
  simp only [Bu] at hl
  split at hl
  ·rename_i g' ps' qs' hls
   split at hl
   ·rename_i hc
    simp only [Bool.and_eq_true,beq_iff_eq,bne_iff_ne,ne_eq] at hc
    obtain ⟨⟨⟨⟨hb,hver⟩,hne⟩,hg⟩,hall⟩:=hc
    subst hg
    obtain ⟨hlf,hbox⟩:=h.roots r
    rw [if_pos hb] at hbox
    obtain ⟨hob,arr,T,fr,hh,hbare,hsz,hcv⟩:=hbox
    rw [hls] at hsz
    have hsz:arr.size=1:=hsz
    obtain ⟨u,hu⟩:∃ u,arr = #[u]:=by
     match arr,hsz with
     | ⟨[u]⟩,_=>exact ⟨u,rfl⟩
    have hl0:=hlf 0
    rw [hls] at hl0
    have hl0:[]=W.om (.lf r 0)∨True := .inr trivial
    have hl1:=hlf 0
    rw [hls] at hl1
    have hclo:AR s W (.EB g ps' qs') u:=hl1.2 u (by rw [hcv,hu];rfl)
    obtain ⟨ks2,hv2,hlen2,hk2⟩:=hclo
    obtain ⟨x,hl,hx⟩:=HX h (ks:=ks2) ⟨hlen2,hk2⟩ hl
    obtain ⟨y,hl,hy⟩:=Gv h hrv hk' hl
    have e:b=W.bk r:=hb0 hb hver
    refine ⟨_,hl,x,y,rfl, ?_,hy⟩
    refine ⟨W.bk r,T,fr,_,by rw [e];rfl, .inr ⟨.AX r,(fun j e=>by cases e),by rw [hob];simp⟩, ?_,hx⟩
    rw [hh,hu,hv2]
    rfl
   ·exact hl.elim
  ·exact hl.elim
 | .row::cs,(r,AA)::ps,ks,k,hk,hl=>by
  obtain ⟨b,ks',rfl,hb0,hk'⟩:=hk.cons
  simp only [Bu] at hl
  split at hl
  ·rename_i hc
   simp only [Bool.and_eq_true,beq_iff_eq] at hc
   obtain ⟨⟨⟨⟨hb,hver⟩,hr⟩,hj⟩,hlen⟩:=hc
   obtain ⟨y,hl,hy⟩:=Gv h hrv hk' hl
   obtain ⟨hlf,hbox⟩:=h.roots r
   rw [if_pos hb] at hbox
   obtain ⟨hob,arr,T,fr,hh,hbare,hsz,hcv⟩:=hbox
   obtain ⟨u,hu⟩:∃ u,arr = #[u]:=by
    have hsz:arr.size=1:=by rw [hsz,hlen]
    match arr,hsz with
    | ⟨[u]⟩,_=>exact ⟨u,rfl⟩
   have hrv':=hrv
   rw [← hr,hj,hcv,hu] at hrv'
   have hurv:u=rv:=by simpa using hrv'
   have e:b=W.bk r:=hb0 hb hver
   refine ⟨_,hl,[],y,rfl,⟨rfl,W.bk r,T,fr,by rw [e];rfl, .inr ⟨.AX r,(fun j e=>by cases e),by rw [hob];simp⟩, ?_⟩,hy⟩
   rw [hh,hu,hurv]
  ·exact hl.elim
 | [],_::_,ks,k,hk,hl=>hl.elim
 | .box _::_,[],ks,k,hk,hl=>hl.elim
 | .EB _ _::_,[],ks,k,hk,hl=>hl.elim
 | .row::_,[],ks,k,hk,hl=>hl.elim
theorem GB (hc:Dg P cx) (h:AW E s a.tmps W) {t:TypeId} {x:Operand} (ho:o.op = .makeInterface t x) (hl:(AB cx v o s).leads ws):Bc P E o a W.w (s.app ws):=by
 simp only [AB,ho] at hl
 have h1:=Ad h x
 split at hl
 ·rename_i ty c ht hx
  split at hl
  ·exact hl.elim
  ·rename_i hag
   split at hl
   ·rename_i t' e hls
    rw [AN hl]
    rw [hx] at h1
    have hund:P.underlying t=some (.slice t'):=(Cg hc ht hls (by simpa using hag):GK P t (.sl t' e)).1
    refine AT h (u := .iface t (a.eval x)) ?_ (show AR s W (.JB t c) _ from ⟨_,rfl,h1⟩)
    simp [execOp,ho,Instr.makeInterface,run_underlying hund]
   ·exact hl.elim
 ·exact hl.elim
theorem Ku (h:AW E s a.tmps W):∀ {xs:List Operand} {ps:List (Nat×Nat)},C9 s (xs.map s.Ap)=some ps→xs.map a.eval=(ps.map fun p=>W.bk p.1).map (fun b=>Value.pointer (some ⟨b,0,none⟩))
 | [],ps,hp=>by
  simp only [List.map_nil,C9,Option.some.injEq] at hp
  subst hp;rfl
 | x::xs,ps,hp=>by
  have hx:=BG h x
  rw [List.map_cons] at hp
  unfold C9 at hp
  split at hp
  ·rename_i e;cases e
  ·rename_i r AA vs e
   injection e with e1 e2
   split at hp
   ·rename_i hc
    simp only [Bool.and_eq_true,beq_iff_eq] at hc
    split at hp
    ·rename_i ps' hps'
     injection hp with hp
     subst hp
     rw [← e2] at hps'
     have ih:=Ku h hps'
     rw [e1] at hx
     have hx:a.eval x = .pointer (some ⟨W.bk r,0,none⟩):=hx hc.1 hc.2
     rw [List.map_cons,ih,hx]
     rfl
    ·cases hp
   ·cases hp
  ·cases hp
theorem J8 (h:AW E s a.tmps W) {fn:Fn} {xs ys:Array Operand} (ho:o.op = .makeFunc fn xs ys) (hl:(AB cx v o s).leads ws):Bc P E o a W.w (s.app ws):=by
 cases fn with
 | func g =>
  simp only [AB,ho] at hl
  split at hl
  ·rename_i hsz
   split at hl
   ·rename_i ps hps
    rw [AN hl]
    have hp:=Ku h hps
    have hx0:xs = #[]:=Array.size_eq_zero_iff.1 (by simpa using hsz)
    refine AT h (u := .func (.func g) #[] (ys.map a.eval)) ?_ (show AR s W (.EB g ps (behind s ps)) _ from ⟨ps.map fun p=>W.bk p.1, ?_,by simp,fun k p b hk hb _ _ => ?_⟩)
    ·simp [execOp,ho,Instr.makeFunc,hx0]
    ·rw [← hp, ← Array.toList_map,Array.toArray_toList]
    ·rw [List.getElem?_map,hk] at hb
     simpa using hb.symm
   ·exact hl.elim
  ·exact hl.elim
 | _=>simp only [AB,ho] at hl;exact hl.elim
theorem Mr {l:List Operand} {f:Operand→AV} {p q:AV} (h:l.map f=[p,q]):∃ x y,l=[x,y]∧f x=p∧f y=q:=by
 match l,h with
 | [x,y],h=>simp at h;exact ⟨x,y,rfl,h.1,h.2⟩
theorem Lg (h:AW E s a.tmps W) (hv:Ae s v) {fid g:FuncId} {σ:ON} (hso:Na P fid g σ) {cl:Loc} {gen:Nat} {t0:TypeId} {xs zs:List Int} {ks:List Nat} {vs:List Lv} {u:Value} {y:(Eu (σ.I8.flatMap KK.kinds)).D}
  (hleaf:s.leaf cl.r cl.j = .arr cl.AA gen t0 (.one (.int .i64)) xs 2) (hcv:W.cv cl.r cl.j=some u) (hrd:AD (.one (.int .i64)) 2 W.w W.fz u xs (W.om (.lf cl.r cl.j))) (hcaps:ED W.w (KN W cl.r) u σ.I8 (ks.map NT) vs) (hy:pack (Eu (σ.I8.flatMap KK.kinds)) vs=some y)
  (hzs:Mn (σ.lt y) xs=some zs):Calls P fid #[.iface σ.t u, .func (.func g) #[] (ks.map fun b=>Value.pointer (some ⟨b,0,none⟩)).toArray] W.w fun en w'=>en = .returned (.tuple #[]) ∧
   ∃ W1:Wd,W1.w=w'∧AW E (s.app [.leaf cl.r cl.j (.arr cl.AA v t0 (.one (.int .i64)) zs 2)]) a.tmps W1:=by
 have hdis:∀ b,KN W cl.r b→b∉W.om (.lf cl.r cl.j):=by
  intro b hb hin
  rcases hb with hb | ⟨k,hk,hb⟩
  ·exact (h.sep.own _ b hin).1 hb
  ·exact h.sep.A6 k _ (hk _) b hb hin
 have helt:∀ b,KN W cl.r b→b<W.w.heap.size:=by
  intro b hb
  rcases hb with hb | ⟨k,hk,hb⟩
  ·exact (h.sep.fz b hb).1
  ·exact (h.sep.own _ b hb).2.1
 have OG:xs.length≤1→Calls P fid #[.iface σ.t u, .func (.func g) #[] (ks.map fun b=>Value.pointer (some ⟨b,0,none⟩)).toArray] W.w (fun en w'=>en = .returned (.tuple #[])∧∃ os,w'=Go.Sort.grow W.w os):=by
  intro hlen
  obtain ⟨A,cc,huv,hcc,_⟩:=hrd.KL
  rw [huv]
  exact hso.sort.OG A _ cc hlen _ _ _ _
 unfold Mn at hzs
 by_cases hlen1:xs.length≤1
 ·rw [show decide (xs.length≤1)=true by simpa using hlen1] at hzs
  injection hzs with hzs
  refine (OG hlen1).mono ?_
  rintro en w' ⟨rfl,os,rfl⟩
  refine ⟨rfl, ?_⟩
  have hrel:=h.JR hv (e := .one (.int .i64)) (xs':=xs) hleaf hcv hrd (fun b _=>rfl) rfl ⟨rfl,rfl,rfl⟩
  rw [hzs] at hrel
  refine ⟨_,rfl,hrel.world (w':=Go.Sort.grow W.w os) (hrel.KF fun b hb=>Go.Sort.heap_grow_old _ _ hb) (fun b hb _=>Go.Sort.heap_grow_old _ _ (by have:=h.sep.size;omega)) (by show W.w.heap.size≤(Go.Sort.grow W.w os).heap.size;rw [Go.Sort.size_grow];omega) ⟨rfl,rfl,rfl⟩⟩
 ·rw [show decide (xs.length≤1)=false by simpa using hlen1,cond_false] at hzs
  cases hok:(decide (xs.length≤20)&&xs.all fun x=>xs.all fun z=>(σ.lt y x z).isSome) with
  | false=>rw [hok] at hzs;cases hzs
  | true =>
   rw [hok,cond_true] at hzs
   injection hzs with hzs
   simp only [Bool.and_eq_true,decide_eq_true_eq] at hok
   obtain ⟨h20,hall⟩:=hok
   obtain ⟨A,cc,huv,hcc,hnone,hsome⟩:=hrd.KL
   have hcc:xs.length≤cc:=hcc
   cases A with
   | none=>have:=(hnone rfl).1;omega
   | some ad =>
    obtain ⟨arr,T,fr,os1,hspot,hh,hfit,hbare0,hel,hoo,_⟩:=hsome ad rfl (.inr (by omega))
    have hbare:=hbare0 (by omega)
    obtain ⟨AX,off,sp⟩:=ad
    dsimp only at hspot hh hfit hel hoo
    subst hspot
    have hfit:off+cc * 1≤arr.size:=hfit
    have hblk:AX∈W.om (.lf cl.r cl.j):=by rw [hoo (by omega)];exact List.mem_cons_self
    have hblt:AX<W.w.heap.size:=(h.sep.own _ AX hblk).2.1
    have hcellv:∀ i (hi:i<xs.length),arr[off+i]? = some (.int .i64 (xs[i])):=by
     intro i hi
     have h3:=hel i hi
     simp only [Ls.rd] at h3
     obtain ⟨w3,hw3,h4,_⟩:=h3
     have hw3:arr[off+(i * 1+0)]? = some w3:=hw3
     rw [Nat.mul_one,Nat.add_zero] at hw3
     rw [hw3]
     exact congrArg some h4
    obtain ⟨x0,hx0⟩:∃ x0,x0∈xs:=by
     match hq:xs,hlen1 with
     | x::_,_=>exact ⟨x,by simp⟩
    letI:Inhabited {x:Int // x∈xs}:=⟨⟨x0,hx0⟩⟩
    let D:Array {x:Int // x∈xs}:=xs.attach.toArray
    have hDs:D.size=xs.length:=by simp [D]
    have hDm:D.map Subtype.val=xs.toArray:=by simp [D]
    let enc:{x:Int // x∈xs}→Value:=fun x => .int .i64 x.1
    let lt':{x:Int // x∈xs}→{x:Int // x∈xs}→Bool:=fun p q=>OW (σ.lt y) p.1 q.1
    have hholds:Holds enc W.w AX off D:=by
     intro j hj
     rw [hDs] at hj
     refine ⟨?_, ?_⟩
     ·simp only [World.cell?,hh]
      rw [show (arr[off+j]?)=some (Value.int .i64 (xs[j])) from hcellv j hj]
      congr 1
      rw [getElem!_pos D j (by rw [hDs];exact hj)]
      simp [D,enc]
     ·have hlt:off+j<arr.size:=by omega
      have:=hbare (off+j) hlt
      obtain ⟨lo,hi⟩:=fr
      simp only [World.frozen?,hh]
      simp at this ⊢
      exact this
    have hless:∀ (m:Nat) (os:Array Obj) (dk:Array {x:Int // x∈xs}),dk.size=D.size→∀ i j:Nat,i<D.size→j<D.size →
      Calls P g (#[.int .i64 i, .int .i64 j]++(ks.map fun b=>Value.pointer (some ⟨b,0,none⟩)).toArray) (Go.Sort.grow (Go.Sort.putRow enc (Go.Sort.ahead W.w m) AX off dk) os) fun e w'=>e = .returned (.bool (lt' dk[i]! dk[j]!))∧∃ q os',w'=Go.Sort.grow ((Go.Sort.grow (Go.Sort.putRow enc (Go.Sort.ahead W.w m) AX off dk) os).drewN q) os':=by
     intro m os dk hdk i j hi hj
     have hframe:∀ b,KN W cl.r b→(Go.Sort.grow (Go.Sort.putRow enc (Go.Sort.ahead W.w m) AX off dk) os).heap[b]? = W.w.heap[b]? := by
      intro b hb
      rw [Go.Sort.heap_grow_old _ _ (by rw [Go.Sort.size_putRow];exact helt b hb),Gh enc _ AX off dk (b:=b) (fun e=>hdis b hb (e ▸ hblk))]
      rfl
     have hc2:=hcaps.frame hframe
     rw [huv] at hc2
     have hval:σ.lt y dk[i]!.1 dk[j]!.1=some (lt' dk[i]! dk[j]!):=by
      have h5:=List.all_eq_true.1 hall dk[i]!.1 dk[i]!.2
      have h6:=List.all_eq_true.1 h5 dk[j]!.1 dk[j]!.2
      obtain ⟨b,hb⟩:=Option.isSome_iff_exists.1 h6
      show _=some (OW (σ.lt y) dk[i]!.1 dk[j]!.1)
      unfold OW
      rw [hb]
     exact hso.less _ _ _ _ y AX off xs.length cc (fun t=>dk[t]!.1) hc2 hy (fun t ht=>by
      rw [Go.Sort.cell?_grow _ _ _ (by show AX<_;rw [Go.Sort.size_putRow];exact hblt)]
      exact Go.Sort.cell?_putRow enc (Go.Sort.ahead W.w m) AX off D dk hholds hdk t (by rw [hdk,hDs];exact ht)) h20 i j (by rw [← hDs];exact hi) (by rw [← hDs];exact hj) _ hval
    have hcall:=hso.sort.many _ enc (fun _=>rfl) lt' g (ks.map fun b=>Value.pointer (some ⟨b,0,none⟩)).toArray hso.enters AX off cc D (by rw [hDs];omega) (by rw [hDs];exact h20) W.w hless hholds hblt
    rw [hDs] at hcall
    rw [huv]
    refine hcall.mono ?_
    rintro en w' ⟨rfl,n,os,rfl⟩
    refine ⟨rfl, ?_⟩
    obtain ⟨hmap,hsize⟩:=Fg Subtype.val lt' (OW (σ.lt y)) (fun _ _=>rfl) D xs.length (by rw [hDs];exact Nat.le_refl _)
    rw [hDm] at hmap
    generalize hS:insertionSort lt' D 0 xs.length=S at hmap hsize
    rw [hmap] at hzs
    have hzl:zs.length=xs.length:=by
     rw [← hzs];simp [hsize,hDs]
    have hzget:∀ i (hi:i<xs.length),zs[i]? = some S[i]!.1:=by
     intro i hi
     rw [← hzs,getElem!_pos S i (by rw [hsize,hDs];exact hi)]
     simp [hsize,hDs,hi]
    have hput:My W.w (Go.Sort.putRow enc (Go.Sort.ahead W.w n) AX off S) AX (Go.Sort.putCells enc off S arr) T fr:={
     here:=KC enc (Go.Sort.ahead W.w n) AX off S hh
     CG:=fun b hb=>Gh enc (Go.Sort.ahead W.w n) AX off S hb
     size:=Go.Sort.size_putRow enc (Go.Sort.ahead W.w n) AX off S
     rest:=⟨rfl,rfl,rfl⟩ }
    have hpsz:(Go.Sort.putCells enc off S arr).size=arr.size:=by simp [Go.Sort.putCells]
    have hrow:AD (.one (.int .i64)) 2 (Go.Sort.putRow enc (Go.Sort.ahead W.w n) AX off S) W.fz (.slice (some ⟨AX,off,none⟩) zs.length cc) zs (AX::(List.range zs.length).flatMap fun _=>[]):=by
     refine Gc (e := .one (.int .i64)) (xs:=zs) (ad:=⟨AX,off,none⟩) hput.here rfl (by rw [hpsz];exact hbare) (by rw [hpsz];exact hfit) (show zs.length≤cc by omega) ?_
     intro i hi
     have hi:i<zs.length:=hi
     rw [hzl] at hi
     simp only [Ls.rd]
     have hcell:(Go.Sort.putCells enc off S arr)[off+i]? = some (enc S[i]!):=by
      simp only [Go.Sort.putCells,Array.getElem?_mapIdx,hcellv i hi,Option.map_some]
      rw [if_pos ⟨by omega,by rw [hsize,hDs];omega⟩,show off+i - off=i by omega]
     refine ⟨enc S[i]!, ?_, ?_,rfl⟩
     ·show (Go.Sort.putCells enc off S arr)[off+(i * 1+0)]? = _
      rw [Nat.mul_one,Nat.add_zero];exact hcell
     ·have h7:=hzget i hi
      rw [List.getElem?_eq_getElem (by rw [hzl];exact hi)] at h7
      injection h7 with h7
      exact (congrArg (Value.int .i64) h7).symm
    have hod:(AX::(List.range zs.length).flatMap fun _=>([]:List Nat))=W.om (.lf cl.r cl.j):=by
     rw [hoo (by omega)]
     congr 1
     have:(List.range xs.length).flatMap os1=[]:=by
      rw [List.flatMap_eq_nil_iff]
      intro i hi
      have h3:=hel i (List.mem_range.1 hi)
      simp only [Ls.rd] at h3
      obtain ⟨w3,hw3,_,h4⟩:=h3
      exact h4
     rw [DJ]
     exact this.symm
    rw [hod,hzl] at hrow
    rw [huv] at hcv
    have hrel:=h.JR hv (e := .one (.int .i64)) (xs':=zs) hleaf hcv hrow (fun b hb=>hput.CG b fun e=>hb (e ▸ hblk)) hput.size hput.rest
    refine ⟨_,rfl,hrel.world (w':=Go.Sort.grow (Go.Sort.putRow enc (Go.Sort.ahead W.w n) AX off S) os) (hrel.KF fun b hb=>Go.Sort.heap_grow_old _ _ hb) (fun b hb hio=>Go.Sort.heap_grow_old _ _ (by show b<(Go.Sort.putRow enc (Go.Sort.ahead W.w n) AX off S).heap.size;rw [hput.size];have:=h.sep.size;omega)) (by show _≤(Go.Sort.grow (Go.Sort.putRow enc (Go.Sort.ahead W.w n) AX off S) os).heap.size;rw [Go.Sort.size_grow];exact Nat.le_add_right _ _) ⟨rfl,rfl,rfl⟩⟩
theorem Lh (henv:DD P E cx.env) (h:AW E s a.tmps W) (hv:Ae s v) {c:Call} {f:Operand} {fid:FuncId} {d:Nat} (ho:o.op = .call c) (hb:c.callee = .value f) (hds:o.dst=some d) (hdlt:d<a.tmps.size) (hf:a.eval f = .func (.func fid) #[] #[])
  (hl:(Dq cx s d v fid (c.args.toList.map s.Ap) fun ws => .go ws).leads ws):Bc P E o a W.w (s.app ws):=by
 unfold Dq at hl
 split at hl
 ·rename_i t cl g ps qs hargs
  split at hl
  ·rename_i σ hσ
   split at hl
   ·rename_i AA gen t0 xs hleaf
    split at hl
    ·rename_i hcond
     simp only [Bool.and_eq_true,beq_iff_eq,Bool.not_eq_true'] at hcond
     obtain ⟨⟨⟨hver,hp⟩,hpin⟩,hts⟩:=hcond
     subst hver;subst hts
     have hp:cl.p=[]:=by cases hq:cl.p <;> simp_all [isNil]
     obtain ⟨x1,x2,hxy,hx1,hx2⟩:=Mr hargs
     have hargs2:c.args = #[x1,x2]:=by rw [← Array.toList_inj,hxy]
     have h1:=BG h x1
     have h2:=BG h x2
     rw [hx1] at h1
     rw [hx2] at h2
     obtain ⟨u,hu1,hu2⟩:AR s W (.JB σ.t cl) (a.eval x1):=h1
     obtain ⟨ks,hk1,hk2⟩:AR s W (.EB g ps qs) (a.eval x2):=h2
     obtain ⟨h',e',hcv,hn⟩:=hu2 _ _ _ _ _ hleaf (.inl hp)
     rw [hp] at hn
     obtain ⟨rfl,rfl⟩:=hn
     obtain ⟨u',hu',hrd⟩:=(h.roots cl.r).row hleaf
     rw [hcv] at hu';injection hu' with hu';subst hu'
     obtain ⟨vs,hl,hcaps⟩:=Gv h hcv (ks:=ks) hk2 hl
     split at hl
     ·rename_i y hy
      obtain ⟨zs,hzs,hl⟩:=hl
      have hl:_=ws:=hl
      have hso:=henv.1.Ow fid g σ hσ
      obtain ⟨fn,cb,hfn1,hfn2,hfn3⟩:=hso.sort.body
      have hrunc:(execOp a.eval o).run P W.w = .ok (.enter fid #[a.eval x1,a.eval x2]) W.w:=by
       have hfn3 : ¬ fn.name = "runtime.NumGoroutine" := by simpa using hfn3
       simp [execOp,ho,hb,hargs2,resolve,invoke,hf,Deferred.ofValue,callFunc,hfn1,hfn2,hfn3]
      have fin:∀ w':World,(∃ W1:Wd,W1.w=w'∧AW E (s.app [.leaf cl.r cl.j (.arr cl.AA v t0 (.one (.int .i64)) (show List Int from zs) 2)]) a.tmps W1)→∀ (next:Act→World→Prop),(∀ a' W',a'.defers=a.defers→AW E (s.app ws) a'.tmps W'→next a' W'.w)→next (a.put o.dst (.tuple #[])) w':=by
       intro w' ⟨W1,hW1,hrep⟩ next hnext
       have hs:=hrep.slot d (x := .De []) (u := .tuple #[]) ⟨#[],rfl,rfl,fun j p hj=>by simp at hj⟩
       rw [← hW1]
       refine hnext _ W1 (by rw [hds];rfl) ?_
       rw [← hl,hds]
       exact hs
      intro next Q hnext
      unfold Oper.wp
      rw [hrunc,Oper.upon_enter,hu1,hk1]
      have hcore:=Lg (v:=v) (zs:=zs) h hv hso hleaf hcv hrd hcaps hy hzs
      refine hcore.mono ?_
      rintro en w' ⟨rfl,W1,hW1,hrep⟩
      exact fin _ ⟨W1,hW1,hrep⟩ next hnext
     ·exact hl.elim
    ·exact hl.elim
   ·exact hl.elim
  ·exact hl.elim
 ·exact hl.elim
end
end Go.Ev
namespace Go.Ev
set_option linter.unusedVariables false
set_option linter.unusedSimpArgs false
section
variable {P:Program} {E:Cq} {s:St} {W:Wd} {o:Oper} {a:Act} {ws:List Wr} {cx:Cx} {v:Nat} {tm:Array Value}
theorem NM (henv:DD P E cx.env) (h:AW E s a.tmps W) (hv:Ae s v) {c:Call} {f:Operand} (ho:o.op = .call c) (hb:c.callee = .value f) (hd:∀ d,o.dst=some d→d<a.tmps.size) (hl:(AB cx v o s).leads ws):Bc P E o a W.w (s.app ws):=by
 simp only [AB,ho,hb] at hl
 have hf:=Ad h f
 split at hl
 ·rename_i fid d hfid hds
  rw [hfid] at hf
  have hf:a.eval f = .func (.func fid) #[] #[]:=hf
  unfold call at hl
  split at hl
  ·exact Lh henv h hv ho hb hds (hd d hds) hf hl
  ·rename_i g hg
   cases hmk:g.s.mk? with
   | true =>
    rw [hmk,if_pos rfl] at hl
    obtain ⟨vss,T,hl,l1,l3,l4,hn,heach⟩:=I6 h g.s.ps (c.args.toList.map s.Ap) (c.args.toList.map a.eval) (by simp) (fun i av u h1 h2=>by
     rw [List.getElem?_map] at h1 h2
     cases hx:c.args.toList[i]? with
     | none=>rw [hx] at h1;cases h1
     | some x =>
      rw [hx] at h1 h2
      injection h1 with h1;injection h2 with h2
      subst h1;subst h2
      exact BG h x) hl
    split at hl
    ·rename_i hap
     simp only [Bool.and_eq_true] at hap
     obtain ⟨hpl,hvr⟩:=hap
     have hvr:Af g.s.ps (c.args.toList.map s.Ap)=[]:=by
      revert hvr
      cases Af g.s.ps (c.args.toList.map s.Ap) with
      | nil=>intro _;rfl
      | cons=>intro h;cases h
     split at hl
     ·exact hl.elim
     ·rename_i y hy
      obtain ⟨z,hz,hl⟩:=hl
      have hl:_=ws:=hl
      have hh:Handed s W g.s.ps (c.args.toList.map s.Ap) (c.args.toList.map a.eval) vss T:={
       l1:=l1
       l2:=by rw [← l1];simp
       l3:=l3
       l4:=l4
       nodup:=hn
       each:=heach
       apart:=fun r hr=>by rw [hvr] at hr;cases hr }
      obtain ⟨hfn,fn,cb,hfn1,hfn2,hfn3⟩:=henv.1.fns fid g hg
      have hcall:=hfn (c.args.toList.map a.eval) W.w (Seen W (Af g.s.ps (c.args.toList.map s.Ap))) vss _ _ y z (henv.O1 h.sep fun k b hb=>let ⟨a,_,h2⟩:=CX hh hb;⟨a,h2⟩) (F0 h hh) hy hz
      rw [hmk] at hcall
      intro next Q hnext
      have hrun:(execOp a.eval o).run P W.w = .ok (.enter fid (c.args.toList.map a.eval).toArray) W.w:=by
       have:(c.args.toList.map a.eval).toArray=c.args.map a.eval:=by rw [← Array.toList_map,Array.toArray_toList]
       rw [this]
       have hfn3 : ¬ fn.name = "runtime.NumGoroutine" := by simpa using hfn3
       simp [execOp,ho,hb,resolve,invoke,hf,Deferred.ofValue,callFunc,hfn1,hfn2,hfn3]
      unfold Oper.wp
      rw [hrun,Oper.upon_enter]
      refine hcall.mono ?_
      rintro en w' ⟨r,fz',b0,rfl,mo⟩
      obtain ⟨rfl,hkinds,cs,T0,fr,hcell,hfr,hlen,hread⟩:=mo.box
      have hvl:(unpack g.s.outs z).length=g.s.Gq.length:=by have:=congrArg List.length hkinds;simpa using this
      have hzero:∀ p∈g.s.Gq,p.2=0:=fun p hp=>by
       unfold Sm.plain at hpl
       simp only [Bool.and_eq_true] at hpl
       simpa using List.all_eq_true.1 hpl.2 p hp
      obtain ⟨W',hW',hrep⟩:=h.LZ hv (hd d hds) (bs:=AM v g.s.Gq (unpack g.s.outs z)) mo.frame mo.size mo.rest (fun x hx=>by
       obtain ⟨a1,a2⟩:=mo.fz x hx
       refine ⟨a1,a2.imp (fun h => ?_) id⟩
       rcases h with h | ⟨r,hr,_⟩
       ·exact h
       ·rw [hvr] at hr;cases hr) mo.new hcell hfr (by rw [BK _ _ _ hvl];exact hlen) (fun j b hj=>by
       have hjl:j<g.s.Gq.length:=by
        have:=(List.getElem?_eq_some_iff.1 hj).1
        rwa [BK _ _ _ hvl] at this
       have q1:=List.getElem?_eq_getElem hjl
       have q2:=List.getElem?_eq_getElem (show j<(unpack g.s.outs z).length by omega)
       have q3:=BJ v _ _ j _ _ q1 q2
       rw [q3] at hj;injection hj with hj
       obtain ⟨y',hy',hr⟩:=hread j _ _ q1 q2
       rw [hzero _ (List.getElem_mem hjl)] at hr hj
       refine ⟨_,_,y', ?_,hy',hr⟩
       rw [← hj]
       generalize (unpack g.s.outs z)[j]=lv
       obtain ⟨l,x⟩:=lv
       cases l <;> rfl)
      rw [← hl,hds] at *
      rw [← hW']
      exact hnext _ W' rfl hrep
    ·exact hl.elim
   | false =>
   rw [hmk] at hl
   simp only [Bool.false_eq_true,if_false] at hl
   obtain ⟨vss,T,hl,l1,l3,l4,hn,heach⟩:=I6 h g.s.ps (c.args.toList.map s.Ap) (c.args.toList.map a.eval) (by simp) (fun i av u h1 h2=>by
    rw [List.getElem?_map] at h1 h2
    cases hx:c.args.toList[i]? with
    | none=>rw [hx] at h1;cases h1
    | some x =>
     rw [hx] at h1 h2
     injection h1 with h1;injection h2 with h2
     subst h1;subst h2
     exact BG h x) hl
   split at hl
   ·rename_i hap
    split at hl
    ·exact hl.elim
    ·rename_i y hy
     obtain ⟨z,hz,hl⟩:=hl
     cases hback:Dw d v g.s.rs (unpack g.s.outs z) 0 with
     | none=>simp only [hback] at hl;exact hl.elim
     | some bol =>
      obtain ⟨bs,own,left⟩:=bol
      simp only [hback] at hl
      generalize hfs:(if fresh g.s.Gq=true then some [] else Au cx s (Af g.s.ps (c.args.toList.map s.Ap)))=fso at hl
      split at hl
      ·rename_i pw fs hpw
       have hl:_=ws:=hl
       have hh:Handed s W g.s.ps (c.args.toList.map s.Ap) (c.args.toList.map a.eval) vss T:={
        l1:=l1
        l2:=by rw [← l1];simp
        l3:=l3
        l4:=l4
        nodup:=hn
        each:=heach
        apart:=fun r hr i p hT x hx e=>by
         have h1:=List.all_eq_true.1 hap r hr
         simp only [Bool.not_eq_true'] at h1
         have h2:Fc (T.flatMap PT.D9) (r,none)=true:=List.any_eq_true.2 ⟨x,List.mem_flatMap.2 ⟨p,List.mem_of_getElem? hT,hx⟩,by simp [Tg.DY,e]⟩
         rw [h1] at h2;cases h2 }
       obtain ⟨hfn,fn,cb,hfn1,hfn2,hfn3⟩:=henv.1.fns fid g hg
       have hcall:=hfn (c.args.toList.map a.eval) W.w (Seen W (Af g.s.ps (c.args.toList.map s.Ap))) vss _ _ y z (henv.O1 h.sep fun k b hb=>let ⟨a,_,h2⟩:=CX hh hb;⟨a,h2⟩) (F0 h hh) hy hz
       rw [hmk] at hcall
       intro next Q hnext
       have hrun:(execOp a.eval o).run P W.w = .ok (.enter fid (c.args.toList.map a.eval).toArray) W.w:=by
        have:(c.args.toList.map a.eval).toArray=c.args.map a.eval:=by rw [← Array.toList_map,Array.toArray_toList]
        rw [this]
        have hfn3 : ¬ fn.name = "runtime.NumGoroutine" := by simpa using hfn3
        simp [execOp,ho,hb,resolve,invoke,hf,Deferred.ofValue,callFunc,hfn1,hfn2,hfn3]
       unfold Oper.wp
       rw [hrun,Oper.upon_enter]
       refine hcall.mono ?_
       rintro en w' ⟨r,fz',om',rv,vsR,vsP,rfl,co⟩
       obtain ⟨W',hW',hrep⟩:=M4 (cx:=cx) h hv (hd d hds) hh co hfs hback hpw
       rw [← hl,hds] at *
       rw [← hW']
       exact hnext _ W' rfl hrep
      ·exact hl.elim
   ·exact hl.elim
 ·exact hl.elim
end
end Go.Ev
namespace Go.Ev
set_option linter.unusedVariables false
set_option linter.unusedSimpArgs false
section
variable {P:Program} {E:Cq} {s:St} {W:Wd} {o:Oper} {a:Act} {ws:List Wr} {cx:Cx} {v:Nat} {tm:Array Value}
theorem MY (hc:Dg P cx) (henv:DD P E cx.env) (h:AW E s a.tmps W) (hv:Ae s v) (hd:∀ d,o.dst=some d→d<a.tmps.size) (hl:(AB cx v o s).leads ws):Bc P E o a W.w (s.app ws):=by
 cases ho:o.op with
 | move x =>
  cases hn:Hq (s.Ap x) with
  | true=>exact Kc h hv ho hn hd hl
  | false=>exact NO h ho hn hl
 | assign x=>exact LX h hv ho hd hl
 | pick x y z=>exact NP h ho hl
 | alloc t=>exact MS hc henv.1.OT h hv ho hd hl
 | box t x=>exact N3 hc h hv ho hd hl
 | build t ps=>exact MU hc h ho hl
 | buildSlice t n ps=>exact IU hc h hv ho hd hl
 | load t x=>exact NN hc h ho hl
 | store t x y=>exact MZ hc henv.1.OT h hv ho hl
 | makeInterface t x=>exact GB hc h ho hl
 | makeFunc fn xs ys=>exact J8 h ho hl
 | nilCheck x=>exact J9 h ho hl
 | binOp op tx x y ty=>exact MT hc h ho hl
 | unOp op tx x=>exact NQ h ho hl
 | convert t1 t2 x=>exact Ka hc h ho hl
 | makeSlice t x y=>exact JM hc h hv ho hd hl
 | slice ti x lo hi m =>
  cases m with
  | none=>exact MX hc h ho hl
  | some m=>simp only [AB,ho] at hl;exact hl.elim
 | fieldAddr t x f=>exact JK hc h ho hl
 | field t x f=>exact MV hc h ho hl
 | indexAddr t x i=>exact JL hc h ho hl
 | index t x i=>exact MW hc h ho hl
 | extract x i=>exact Kb h ho hl
 | call c =>
  cases hb:c.callee with
  | builtin b =>
   cases b with
   | len=>exact N4 hc h ho hb hl
   | append=>exact LW hc h hv ho hb hd hl
   | min=>exact N6 h ho hb hl
   | max=>exact N5 h ho hb hl
   | _=>simp only [AB,ho,hb] at hl;exact hl.elim
  | value f=>exact NM henv h hv ho hb hd hl
  | invoke r n=>simp only [AB,ho,hb] at hl;exact hl.elim
 | _=>simp only [AB,ho] at hl;exact hl.elim
end
end Go.Ev
namespace Go.Ev
set_option linter.unusedVariables false
set_option linter.unusedSimpArgs false
section
variable {s s':St} {cx:Cx} {v:Nat} {β:Type}
theorem Ak {r:Nat} (h:s'.root r=s.root r) (j:Nat):s'.leaf r j=s.leaf r j:=by unfold St.leaf;rw [h]
theorem Bb {c:Loc} (h:s'.root c.r=s.root c.r) (k:(t:TypeId)→(e:Ls)→List e.D→Nat→Step β):s'.content c k=s.content c k:=by
 unfold St.content;rw [Ak h]
def A5 (s s':St) (rs:List Nat):Prop:=∀ r∈rs,s'.root r=s.root r
theorem B7 {l:L} {la:LA} (h:A5 s s' la.roots) (k:l.D→Step β):s'.Aw l la k=s.Aw l la k:=by
 cases la with
 | ref c=>exact Bb (h c.r (by simp [LA.roots])) _
 | D7 c lo hi=>exact Bb (h c.r (by simp [LA.roots])) _
 | _=>rfl
theorem DH:∀ {ls:List L} {as:List LA} (h:A5 s s' (as.flatMap LA.roots)) (k:List Lv→Step β),s'.data ls as k=s.data ls as k
 | [],[],h,k=>rfl
 | [],_::_,h,k=>rfl
 | _::_,[],h,k=>rfl
 | l::ls,a::as,h,k=>by
  simp only [St.data]
  rw [B7 fun r hr=>h r (by simp [hr])]
  congr 1;funext x
  exact DH (fun r hr=>h r (by simp only [List.flatMap_cons,List.mem_append];exact .inr hr)) _
theorem J1 {la:LA} (h:A5 s s' la.roots) (n:Nat) (k:List LA→Step β):s'.C7 la n k=s.C7 la n k:=by
 cases la with
 | ptr r j AA=>simp only [St.C7];rw [h r (by simp [LA.roots])]
 | Bm c =>
  simp only [St.C7]
  split
  ·rfl
  ·rename_i q i off hq
   have hg:s'.Ju c.r c.j=s.Ju c.r c.j:=by unfold St.Ju;rw [Ak (h c.r (by simp [LA.roots]))]
   rw [hg]
   exact Bb (c:={ c with p:=q }) (h c.r (by simp [LA.roots])) _
 | _=>rfl
theorem Eh {a:AV} (h:A5 s s' a.roots):A5 s s' a.one?.roots:=by
 cases a with
 | De vs=>intro r hr;cases hr
 | bx as=>intro r hr;cases hr
 | v g as =>
  cases g with
  | true=>intro r hr;cases hr
  | false=>cases as with
   | nil=>intro r hr;cases hr
   | cons b bs=>cases bs with
    | nil=>intro r hr;exact h r (List.mem_flatMap.2 ⟨b,by simp,hr⟩)
    | cons=>intro r hr;cases hr
theorem LQ {a:AV} (h:A5 s s' a.roots) (n:Nat) (k:List LA→Step β):s'.FI a n k=s.FI a n k:=by
 cases a with
 | bx as=>rfl
 | v g as=>exact J1 (Eh h) n k
 | De vs=>exact J1 (Eh h) n k
theorem Kq:∀ {as:List LA},A5 s s' (as.flatMap LA.roots)→MH s' as=MH s as
 | [],_=>rfl
 | a::as,h=>by
  unfold MH
  simp only [List.any_cons]
  have ih:=Kq (as:=as) fun r hr=>h r (by simp only [List.flatMap_cons,List.mem_append];exact .inr hr)
  unfold MH at ih
  rw [ih]
  congr 1
  cases a with
  | ref c=>simp only;rw [h c.r (by simp [LA.roots])]
  | _=>rfl
theorem EI {la:LA} (h:A5 s s' la.roots):s'.alive la=s.alive la:=by
 cases la with
 | ptr r j AA=>simp only [St.alive];rw [h r (by simp [LA.roots])]
 | Bm c=>simp only [St.alive];rw [Ak (h c.r (by simp [LA.roots]))]
 | _=>rfl
theorem NV {la:LA} (h:A5 s s' la.roots):s'.sure la=s.sure la:=by
 cases la with
 | ptr r j AA=>simp only [St.sure];rw [h r (by simp [LA.roots])]
 | ref c=>simp only [St.sure];rw [Ak (h c.r (by simp [LA.roots]))]
 | D7 c lo hi=>simp only [St.sure];rw [Ak (h c.r (by simp [LA.roots]))]
 | Bm c=>simp only [St.sure];exact EI h
 | _=>rfl
theorem K1 {la:LA} (h:A5 s s' la.roots) (l:L) (k:LA→List (Nat×Nat)→Step β):s'.take cx v la l k=s.take cx v la l k:=by
 cases la with
 | ptr r j AA=>simp only [St.take];rw [h r (by simp [LA.roots])]
 | ref c=>simp only [St.take];rw [Ak (h c.r (by simp [LA.roots]))];simp only [Bb (h c.r (by simp [LA.roots]))]
 | D7 c lo hi=>simp only [St.take];rw [Ak (h c.r (by simp [LA.roots]))]
 | _=>rfl
theorem Eb:∀ {ls:List L} {as:List LA} (h:A5 s s' (as.flatMap LA.roots)) (k:List LA→List (Nat×Nat)→Step β),s'.Ft cx v ls as k=s.Ft cx v ls as k
 | [],[],h,k=>rfl
 | [],_::_,h,k=>rfl
 | _::_,[],h,k=>rfl
 | l::ls,a::as,h,k=>by
  simp only [St.Ft]
  rw [K1 fun r hr=>h r (by simp [hr])]
  congr 1;funext b us
  exact Eb (fun r hr=>h r (by simp only [List.flatMap_cons,List.mem_append];exact .inr hr)) _
theorem Ml {c:Loc} (h:s'.root c.r=s.root c.r) (g:Nat) (vs:List Lv):s'.KD g c vs=s.KD g c vs:=by
 unfold St.KD;rw [Ak h]
theorem Iz {la:LA} (h:A5 s s' la.roots) {as:List LA} (h2:A5 s s' (as.flatMap LA.roots)) (ls:List L) (k:List Wr→Step β):s'.GJ cx v la ls as k=s.GJ cx v la ls as k:=by
 cases la with
 | ptr r j AA=>simp only [St.GJ];rw [h r (by simp [LA.roots]),Eb h2]
 | Bm c =>
  simp only [St.GJ]
  have hh:s'.half c.r c.j=s.half c.r c.j:=by unfold St.half;rw [Ak (h c.r (by simp [LA.roots]))]
  have hs:s'.Cy v c ls as k=s.Cy v c ls as k:=by unfold St.Cy;rw [Ak (h c.r (by simp [LA.roots]))];simp only [DH h2]
  rw [DH h2,Eb h2,Ak (h c.r (by simp [LA.roots])),hh,hs]
  congr 2
  funext vs
  rw [Ml (h c.r (by simp [LA.roots]))]
 | _=>rfl
theorem MF {la:LA} (h:A5 s s' la.roots) (k:Int→Step β):lenOf s' la k=lenOf s la k:=by
 cases la with
 | ref c=>exact Bb (h c.r (by simp [LA.roots])) _
 | D7 c lo hi=>exact Bb (h c.r (by simp [LA.roots])) _
 | _=>rfl
theorem F9 {la:LA} (h:A5 s s' la.roots) (t:TypeId) (e:Ls) (k:List e.D→List (Nat×Nat)→Step β):EX cx s' la t e k=EX cx s la t e k:=by
 unfold EX
 rw [B7 h]
 cases la with
 | ref c=>simp only;rw [Ak (h c.r (by simp [LA.roots]))]
 | _=>rfl
theorem Je {la lb:LA} (h:A5 s s' la.roots) (h2:A5 s s' lb.roots) (d v:Nat) (t:TypeId) (e:Ls) (k:List Wr→Step β):C1 cx s' d v t e la lb k=C1 cx s d v t e la lb k:=by
 cases la with
 | DC=>simp only [C1];exact F9 h2 _ _ _
 | ref c =>
  simp only [C1]
  rw [Ak (h c.r (by simp [LA.roots]))]
  cases s.leaf c.r c.j with
  | arr AA gen t' e' xs dd =>
   simp only
   split
   ·split
    ·exact F9 h2 _ _ _
    ·rfl
   ·rfl
  | _=>rfl
 | D7 c lo hi =>
  simp only [C1]
  rw [Ak (h c.r (by simp [LA.roots]))]
  cases s.leaf c.r c.j with
  | arr AA gen t' e' xs dd =>
   simp only
   split
   ·split
    ·exact F9 h2 _ _ _
    ·rfl
   ·rfl
  | _=>rfl
 | _=>rfl
theorem I5 {la lb:LA} (h:A5 s s' la.roots) (h2:A5 s s' lb.roots) (d v:Nat) (t:TypeId) (e:Ls) (k:List Wr→Step β):Dh cx s' d v t e la lb k=Dh cx s d v t e la lb k:=by
 unfold Dh
 cases hn:nested la with
 | none =>
  have hh:ET s' la=ET s la:=by
   cases la with
   | ref c =>
    unfold ET St.half
    simp only [Ak (h c.r (by simp [LA.roots]))]
   | _=>rfl
  dsimp only
  rw [hh]
  cases hq:ET s la with
  | none=>exact Je h h2 d v t e k
  | some c =>
   have hc:c.r∈la.roots:=by
    unfold ET at hq
    split at hq
    ·split at hq
     ·split at hq
      ·injection hq with hq;subst hq;simp [LA.roots]
      ·cases hq
     ·cases hq
    ·cases hq
   dsimp only
   unfold Dt
   rw [Ak (h c.r hc)]
   simp only [B7 h2]
 | some c =>
  have hc:c.r∈la.roots:=by
   unfold nested at hn
   split at hn
   ·split at hn
    ·injection hn with hn;subst hn;simp [LA.roots]
    ·cases hn
   ·cases hn
  dsimp only
  unfold Du
  rw [Ak (h c.r hc)]
  simp only [Bb (h c.r hc),B7 h2]
theorem Jn {fs:List (Nat×TypeId)}:∀ {ps:List (Nat×Operand)} (h:∀ p∈ps,s'.Ap p.2=s.Ap p.2∧A5 s s' (s.Ap p.2).roots) (ls:List LA),Hi cx s' fs ps ls=Hi cx s fs ps ls
 | [],h,ls=>rfl
 | (i,x)::ps,h,ls=>by
  obtain ⟨h1,h2⟩:=h (i,x) (by simp)
  dsimp only at h1 h2
  simp only [Hi]
  rw [h1]
  generalize s.Ap x=p at h2
  cases p with
  | De vs=>rfl
  | bx as=>rfl
  | v g as =>
   have:as.all s'.sure=as.all s.sure:=by
    rw [Bool.eq_iff_iff,List.all_eq_true,List.all_eq_true]
    refine forall_congr' fun b=>forall_congr' fun hb => ?_
    rw [NV fun r hr=>h2 r (List.mem_flatMap.2 ⟨b,hb,hr⟩)]
   cases H0 fs i with
   | none=>rfl
   | some q =>
    obtain ⟨off,t⟩:=q
    dsimp only
    cases cx.ty t with
    | none=>rfl
    | some tf =>
     dsimp only
     rw [this]
     split
     ·exact Jn (fun p hp=>h p (List.mem_cons_of_mem _ hp)) _
     ·rfl
theorem Hd {e:Ls}:∀ {ps:List (Nat×Operand)} (h:∀ p∈ps,s'.Ap p.2=s.Ap p.2∧A5 s s' (s.Ap p.2).roots) (n:Nat) (k:List e.D→List (Nat×Nat)→Step β),Cf cx s' v e ps n k=Cf cx s v e ps n k
 | [],h,n,k=>rfl
 | (i,x)::ps,h,n,k=>by
  obtain ⟨h1,h2⟩:=h (i,x) (by simp)
  dsimp only at h1 h2
  have ih:∀ (n:Nat) (k:List e.D→List (Nat×Nat)→Step β),Cf cx s' v e ps n k=Cf cx s v e ps n k:=Hd fun p hp=>h p (List.mem_cons_of_mem _ hp)
  simp only [Cf]
  rw [h1]
  generalize s.Ap x=p at h2
  cases p with
  | De vs=>rfl
  | bx as=>rfl
  | v g as =>
   have h2:A5 s s' (as.flatMap LA.roots):=h2
   simp only [DH h2,Eb h2,ih]
theorem D8:∀ {as:List LA} {c:Loc},Cb as=some c→c.r∈as.flatMap LA.roots
 | [],c,h=>by cases h
 | a::as,c,h=>by
  rw [List.flatMap_cons]
  unfold Cb at h
  split at h
  ·rename_i c' hc'
   injection h with h;subst h
   obtain ⟨e1,_⟩:=FM hc'
   exact List.mem_append_left _ (by rw [e1];simp [LA.roots])
  ·exact List.mem_append_right _ (D8 h)
theorem LP {e:Ls} {ps:List (Nat×Operand)} (h:∀ p∈ps,s'.Ap p.2=s.Ap p.2∧A5 s s' (s.Ap p.2).roots):D3 s' e ps=D3 s e ps:=by
 unfold D3
 split
 ·rfl
 ·split
  ·rename_i x
   rw [(h (0,x) (by simp)).1]
  ·rfl
theorem I7 {e:Ls} {ps:List (Nat×Operand)} (h:∀ p∈ps,s'.Ap p.2=s.Ap p.2∧A5 s s' (s.Ap p.2).roots) {x:Operand} {c:Loc} (hl:D3 s e ps=some (x,c)) (d v:Nat) (t:TypeId) (k:List Wr→Step β) :
  Cv cx s' d v t e x c k=Cv cx s d v t e x c k:=by
 unfold D3 at hl
 split at hl
 ·cases hl
 ·split at hl
  ·rename_i x'
   split at hl
   ·rename_i g as hopd
    split at hl
    ·rename_i c' hc'
     injection hl with hl
     injection hl with e1 e2
     subst e1;subst e2
     obtain ⟨h1,h2⟩:=h (0,x') (by simp)
     dsimp only at h1 h2
     rw [hopd] at h2
     have h2:A5 s s' (as.flatMap LA.roots):=h2
     unfold Cv
     rw [h1,hopd]
     dsimp only
     rw [Ak (h2 c'.r (D8 hc'))]
     simp only [DH h2]
    ·cases hl
   ·cases hl
  ·cases hl
theorem Ha (r:Nat):∀ (ls:List (L×Nat)) (as:List LA) (j:Nat),EO ls as=true→∀ b∈Az r j as,∀ r'∈b.roots,r'=r
 | [],[],j,h,b,hb,r',hr=>by cases hb
 | [],_::_,j,h,b,hb,r',hr=>by cases h
 | _::_,[],j,h,b,hb,r',hr=>by cases h
 | (l,m)::ls,a::as,j,h,b,hb,r',hr=>by
  simp only [EO,Bool.and_eq_true] at h
  rcases List.mem_cons.1 hb with hb | hb
  ·subst hb
   cases a with
   | arr AA gen t e xs d=>simpa [seen,LA.roots] using hr
   | sc l x=>simp [seen,LA.roots] at hr
   | _=>simp at h
  ·exact Ha r ls as (j+1) h.2 b hb r' hr
theorem Ld {la:LA} (h:A5 s s' la.roots) (l:L) (d:Nat) (k:Lv→List Tg→Step β):JT s' l d la k=JT s l d la k:=by
 cases l with
 | sl t e =>
  cases la with
  | ref c =>
   show (if (match s'.leaf c.r c.j with
    | .arr _ _ _ _ _ dd=>dd==d&&(isNil c.p||d==2)
    | _=>false) then s'.Aw (.sl t e) (.ref c) _ else Step.none)=(if (match s.leaf c.r c.j with
    | .arr _ _ _ _ _ dd=>dd==d&&(isNil c.p||d==2)
    | _=>false) then s.Aw (.sl t e) (.ref c) _ else Step.none)
   rw [Ak (h c.r (by simp [LA.roots])),B7 h]
  | _=>rfl
 | int i=>exact B7 h _
 | bool=>exact B7 h _
 | str=>exact B7 h _
theorem IC:∀ {ls:List (L×Nat)} {as:List LA} (h:A5 s s' (as.flatMap LA.roots)) (k:List Lv→List Tg→Step β),Ep s' ls as k=Ep s ls as k
 | [],[],h,k=>rfl
 | [],_::_,h,k=>rfl
 | _::_,[],h,k=>rfl
 | (l,d)::ls,a::as,h,k=>by
  simp only [Ep]
  rw [Ld fun r hr=>h r (by simp [hr])]
  congr 1;funext x us
  exact IC (fun r hr=>h r (by simp only [List.flatMap_cons,List.mem_append];exact .inr hr)) _
theorem Iv:∀ {ls:List (L×Nat)} {as:List LA} (h:A5 s s' (as.flatMap LA.roots)) (vs:List Lv),putRow s' v ls as vs=putRow s v ls as vs
 | [],[],h,vs=>rfl
 | [],_::_,h,vs=>by simp [putRow]
 | _::_,[],h,vs=>by simp [putRow]
 | _::_,_::_,h,[]=>by simp [putRow]
 | (l,d)::ls,a::as,h,x::vs=>by
  simp only [putRow]
  rw [Iv (fun r hr=>h r (by simp only [List.flatMap_cons,List.mem_append];exact .inr hr)) vs]
  cases a with
  | ref c =>
   have e:s'.leaf c.r c.j=s.leaf c.r c.j:=Ak (h c.r (by simp [LA.roots])) c.j
   simp only [e]
  | _=>rfl
theorem F4:∀ {ps:List PM} {vs:List AV} (h:∀ a∈vs,A5 s s' a.roots) (k:List Lv→List Tg→Step β),Am s' ps vs k=Am s ps vs k
 | [],[],h,k=>rfl
 | [],_::_,h,k=>by simp only [Am]
 | pm::ps,[],h,k=>by cases pm <;> simp only [Am]
 | pm::ps,a::vs,h,k=>by
  have ih:∀ (k:List Lv→List Tg→Step β),Am s' ps vs k=Am s ps vs k:=F4 fun a ha=>h a (List.mem_cons_of_mem _ ha)
  have ha:=h a (by simp)
  cases pm with
  | val g ls =>
   cases a with
   | De vs=>simp only [Am]
   | bx as=>simp only [Am]
   | v g' as =>
    simp only [Am]
    rw [DH (show A5 s s' (as.flatMap LA.roots) from ha)]
    simp only [ih]
  | fn f =>
   unfold Am
   split
   all_goals (try rename_i e1 e2;try cases e1;try cases e2;try rfl)
   all_goals (try simp only [ih])
  | box ls =>
   unfold Am
   split
   all_goals (try rename_i e1 e2;try cases e1;try cases e2;try rfl)
   rename_i r AA
   have hr:s'.root r=s.root r:=ha r (by simp [AV.roots,LA.roots])
   ·rw [hr]
    by_cases hc:((s.root r).box&&(s.root r).AA==AA&&EO ls (s.root r).ls)=true
    ·rw [if_pos hc,if_pos hc]
     have hdeep:EO ls (s.root r).ls=true:=by simp only [Bool.and_eq_true] at hc;exact hc.2
     have hd:A5 s s' ((Az r 0 (s.root r).ls).flatMap LA.roots):=fun r' hr'=>by
      obtain ⟨b,hb,hb'⟩:=List.mem_flatMap.1 hr'
      rw [Ha r ls _ 0 hdeep b hb r' hb'];exact hr
     simp only [ih]
     exact DH hd _
    ·rw [if_neg hc,if_neg hc]
   all_goals rfl
  | row g ls =>
   cases a with
   | De vs=>simp only [Am]
   | bx as=>simp only [Am]
   | v g' as =>
    simp only [Am]
    rw [IC (show A5 s s' (as.flatMap LA.roots) from ha)]
    simp only [ih]
theorem Gf:∀ {ps:List PM} {avs:List AV} (h:∀ a∈avs,A5 s s' a.roots) (vs:List Lv),AY s' v ps avs vs=AY s v ps avs vs
 | [],[],h,[]=>rfl
 | [],[],h,_::_=>rfl
 | [],_::_,h,vs=>by simp only [AY]
 | pm::ps,[],h,vs=>by cases pm <;> simp only [AY]
 | pm::ps,a::avs,h,vs=>by
  have ih:∀ vs,AY s' v ps avs vs=AY s v ps avs vs:=Gf fun a ha=>h a (List.mem_cons_of_mem _ ha)
  have ha:=h a (by simp)
  cases pm with
  | val g ls=>simp only [AY,ih]
  | fn f=>simp only [AY,ih]
  | box ls =>
   unfold AY
   split
   all_goals (try rename_i e1 e2;try cases e1;try cases e2;try rfl)
   ·rw [ih]
   all_goals rfl
  | row g ls =>
   cases a with
   | De vs=>simp only [AY]
   | bx as=>simp only [AY]
   | v g' as =>
    simp only [AY]
    rw [Iv (show A5 s s' (as.flatMap LA.roots) from ha)]
    simp only [ih]
theorem FB {not:Nat}:∀ {bs:List (List L)} {ps:List (Nat×Nat)} (h:∀ p∈ps,s'.root p.1=s.root p.1) (k:List Lv→Step β),DF s' not bs ps k=DF s not bs ps k
 | [],[],h,k=>rfl
 | [],_::_,h,k=>rfl
 | _::_,[],h,k=>rfl
 | ls::bs,(r,AA)::ps,h,k=>by
  have hr:s'.root r=s.root r:=h (r,AA) (by simp)
  simp only [DF]
  rw [hr]
  split
  ·rename_i hc
   simp only [Bool.and_eq_true] at hc
   have hall:=hc.2
   have hsees:A5 s s' ((Az r 0 (s.root r).ls).flatMap LA.roots):=fun r' hr'=>by
    obtain ⟨y,hy,hy'⟩:=List.mem_flatMap.1 hr'
    obtain ⟨i,hi⟩:=List.getElem?_of_mem hy
    rw [Cr] at hi
    cases hq:(s.root r).ls[i]? with
    | none=>rw [hq] at hi;cases hi
    | some y0 =>
     rw [hq] at hi
     injection hi with hi
     subst hi
     have:=List.all_eq_true.1 hall y0 (List.mem_of_getElem? hq)
     cases y0 with
     | arr =>
      have:r'=r:=by simpa [seen,LA.roots] using hy'
      rw [this];exact hr
     | sc=>simp [seen,LA.roots] at hy'
     | _=>cases this
   rw [DH hsees]
   congr 1;funext x
   exact FB (fun p hp=>h p (List.mem_cons_of_mem _ hp)) _
  ·rfl
theorem Dz {c:Loc} {qs:List (Nat×Nat)} (hq:∀ p∈qs,s'.root p.1=s.root p.1):∀ {cs:List KK} {ps:List (Nat×Nat)} (h:∀ p∈ps,s'.root p.1=s.root p.1) (k:List Lv→Step β),Bu s' c qs cs ps k=Bu s c qs cs ps k
 | [],[],h,k=>rfl
 | [],_::_,h,k=>rfl
 | .box _::_,[],h,k=>rfl
 | .EB _ _::_,[],h,k=>rfl
 | .row::_,[],h,k=>rfl
 | .box ls::cs,p::ps,h,k=>by
  simp only [Bu]
  rw [FB (fun q hq=>h q (by simp at hq;simp [hq]))]
  congr 1;funext x
  exact Dz hq (fun p hp=>h p (List.mem_cons_of_mem _ hp)) _
 | .EB g bs::cs,(r,AA)::ps,h,k=>by
  have hr:s'.root r=s.root r:=h (r,AA) (by simp)
  simp only [Bu]
  rw [hr]
  split
  ·split
   ·rename_i hc
    simp only [Bool.and_eq_true] at hc
    have hall:=hc.2
    rw [FB (fun p hp=>hq p (by simpa using List.all_eq_true.1 hall p hp))]
    congr 1;funext x
    exact Dz hq (fun p hp=>h p (List.mem_cons_of_mem _ hp)) _
   ·rfl
  ·rfl
 | .row::cs,(r,AA)::ps,h,k=>by
  have hr:s'.root r=s.root r:=h (r,AA) (by simp)
  simp only [Bu]
  rw [hr]
  split
  ·exact Dz hq (fun p hp=>h p (List.mem_cons_of_mem _ hp)) _
  ·rfl
theorem KE {avs:List AV} (h:∀ a∈avs,A5 s s' a.roots) (d:Nat) (f:FuncId) (k:List Wr→Step β):Dq cx s' d v f avs k=Dq cx s d v f avs k:=by
 unfold Dq
 split
 ·rename_i t c g ps qs
  have h1:=h (.v false [.JB t c]) (by simp)
  have h2:=h (.v false [.EB g ps qs]) (by simp)
  have hc:s'.root c.r=s.root c.r:=h1 c.r (by simp [AV.roots,LA.roots])
  have hps:∀ p∈ps,s'.root p.1=s.root p.1:=fun p hp=>h2 p.1 (List.mem_flatMap.2 ⟨.EB g ps qs,by simp,List.mem_append_left _ (List.mem_map.2 ⟨p,hp,rfl⟩)⟩)
  have hqs:∀ p∈qs,s'.root p.1=s.root p.1:=fun p hp=>h2 p.1 (List.mem_flatMap.2 ⟨.EB g ps qs,by simp,List.mem_append_right _ (List.mem_map.2 ⟨p,hp,rfl⟩)⟩)
  rw [Ak hc]
  simp only [Dz hqs hps]
 ·rfl
theorem Iu:∀ {vs:List AV} (h:∀ a∈vs,A5 s s' a.roots),C9 s' vs=C9 s vs∧∀ ps,C9 s vs=some ps→behind s' ps=behind s ps
 | [],h=>⟨rfl,fun ps hp=>by simp only [C9,Option.some.injEq] at hp;subst hp;rfl⟩
 | a::vs,h=>by
  obtain ⟨ih1,ih2⟩:=Iu (vs:=vs) fun b hb=>h b (List.mem_cons_of_mem _ hb)
  have ha:=h a (by simp)
  unfold C9
  split
  ·rename_i e;exact absurd e (by simp)
  ·rename_i r AA vs' e
   injection e with e1 e2
   subst e1;subst e2
   have hr:s'.root r=s.root r:=ha r (by simp [AV.roots,LA.roots])
   rw [hr,ih1]
   refine ⟨rfl,fun ps hp => ?_⟩
   split at hp
   ·split at hp
    ·rename_i ps' hps'
     injection hp with hp
     subst hp
     simp only [behind]
     rw [hr,ih2 ps' hps']
    ·cases hp
   ·cases hp
  ·exact ⟨rfl,fun ps hp=>by cases hp⟩
theorem Ll {t:TypeId} {q:LA} {p:AV} {dst:Option Tmp} (h:A5 s s' q.roots):IH cx s' t q p dst=IH cx s t q p dst:=by
 unfold IH
 split
 ·split
  ·split
   ·rename_i r j AA
    rw [h r (by simp [LA.roots])]
   ·rfl
  ·rfl
 ·rfl
theorem FG:∀ {rs:List Nat} (h:A5 s s' rs),Au cx s' rs=Au cx s rs
 | [],h=>rfl
 | r::rs,h=>by
  simp only [Au]
  rw [FG (fun r hr=>h r (List.mem_cons_of_mem _ hr)),h r (by simp)]
theorem Fw:∀ (ps:List PM) (avs:List AV) (r:Nat),r∈Af ps avs→∃ a∈avs,r∈a.roots
 | [],_,r,h=>by simp [Af] at h
 | pm::_,[],r,h=>by cases pm <;> simp [Af] at h
 | pm::ps,a::avs,r,h=>by
  have ih:=Fw ps avs r
  have sub:r∈Af ps avs→∃ b∈a::avs,r∈b.roots:=fun h=>let ⟨b,hb,hr⟩:=ih h;⟨b,List.mem_cons_of_mem _ hb,hr⟩
  cases pm with
  | val g ls =>
   rcases List.mem_append.1 (show r∈a.roots++Af ps avs from h) with h | h
   ·exact ⟨a,by simp,h⟩
   ·exact sub h
  | _=>exact sub h
theorem M8 {avs:List AV} (h:∀ a∈avs,A5 s s' a.roots) (d:Nat) (f:FuncId) (k:List Wr→Step β):call cx s' d v f avs k=call cx s d v f avs k:=by
 unfold call
 cases cx.env.fn f with
 | none=>exact KE h d f k
 | some g =>
  dsimp only
  cases g.s.mk? with
  | true=>simp only [if_true];rw [F4 h]
  | false =>
  simp only [Bool.false_eq_true,if_false]
  rw [F4 h]
  have h2:∀ vs,AY s' v g.s.ps avs vs=AY s v g.s.ps avs vs:=Gf h
  have h3:Au cx s' (Af g.s.ps avs)=Au cx s (Af g.s.ps avs):=FG fun r hr=>let ⟨a,ha,hr'⟩:=Fw _ _ r hr;h a ha r hr'
  simp only [h2,h3]
def Wr.JD:Wr→Bool
 | .leaf _ _ _=>true
 | _=>false
theorem EJ (s:St) (r j:Nat) (a:LA) (r':Nat):(s.AG (.leaf r j a)).root r'=if r=r' then { s.root r with ls:=CV (s.root r).ls j a } else s.root r':=by
 show nth dead (CV s.ro r _) r'=_
 rw [Ay]
 by_cases h:r=r'
 ·subst h
  by_cases hl:r<s.ro.length
  ·rw [if_pos ⟨rfl,hl⟩,if_pos rfl]
  ·rw [if_neg (fun hh=>hl hh.2),if_pos rfl]
   have:s.root r=dead:=A3 _ (Nat.le_of_not_lt hl)
   show s.root r=_
   rw [this];rfl
 ·rw [if_neg (fun hh=>h hh.1),if_neg h];rfl
theorem A5.app {rs:List Nat} (h:A5 s s' rs):∀ {fs:List Wr},(∀ w∈fs,w.JD=true)→A5 (s.app fs) (s'.app fs) rs:=by
 intro fs hf r hr
 have key:∀ (fs:List Wr) (s s':St),(∀ w∈fs,w.JD=true)→s'.root r=s.root r→(s'.app fs).root r=(s.app fs).root r:=by
  intro fs
  induction fs with
  | nil=>intro s s' _ h;exact h
  | cons w fs ih =>
   intro s s' hf h
   have hw:=hf w List.mem_cons_self
   refine ih _ _ (fun x hx=>hf x (List.mem_cons_of_mem _ hx)) ?_
   cases w with
   | leaf r0 j a =>
    rw [EJ,EJ]
    by_cases e:r0=r
    ·subst e;rw [if_pos rfl,if_pos rfl,h]
    ·rw [if_neg e,if_neg e,h]
   | slot t a=>cases hw
   | root r x=>cases hw
   | half r j v=>cases hw
 exact key fs s s' hf (h r hr)
theorem Fi:∀ (r j:Nat) (ls:List LA),∀ w∈A4 r j ls,w.JD=true
 | _,_,[],w,hw=>by cases hw
 | r,j,a::as,w,hw=>by
  rcases List.mem_cons.1 hw with e | hw
  ·subst e;rfl
  ·exact Fi r (j+1) as w hw
theorem FZ:∀ {rs:List Nat} {fs:List Wr},Au cx s rs=some fs→∀ w∈fs,w.JD=true
 | [],fs,h,w,hw=>by injection h with h;subst h;cases hw
 | r::rs,fs,h,w,hw=>by
  simp only [Au] at h
  split at h
  ·cases h
  ·split at h
   ·rename_i ws' hws
    injection h with h;subst h
    rcases List.mem_append.1 hw with hw | hw
    ·exact Fi r 0 _ w hw
    ·exact FZ hws w hw
   ·cases h
theorem En:∀ {as:List LA} {r:Nat},r∈Hw as→r∈as.flatMap LA.roots
 | [],r,h=>by cases h
 | a::as,r,h=>by
  rw [List.flatMap_cons]
  refine List.mem_append.2 ?_
  cases a with
  | ref c =>
   simp only [Hw] at h
   split at h
   ·exact .inr (En h)
   ·rcases List.mem_cons.1 h with e | h
    ·subst e;exact .inl (by simp [LA.roots])
    ·exact .inr (En h)
  | _=>exact .inr (En (by simpa [Hw] using h))
theorem LU {q:LA} {as:List LA} {r:Nat} (h:r∈MQ q as):r∈as.flatMap LA.roots:=by
 cases q with
 | ptr=>exact En h
 | _=>cases h
def LA.norm:LA→LA
 | .arr AA _ t e xs (_+1) => .arr AA 0 t e xs 1
 | a=>a
def Bo.norm (x:Bo):Bo:={ x with ls:=x.ls.map LA.norm }
def NZ (m:Nat) (s s':St):Prop:=(∀ t,m.testBit (2 * t)=true→s'.slot t=s.slot t)∧(∀ r,m.testBit (4 * r+1)=true→m.testBit (4 * r+3)=true→s'.root r=s.root r)∧∀ r,m.testBit (4 * r+1)=true→(s'.root r).norm=(s.root r).norm
end
end Go.Ev
namespace Go.Ev
set_option linter.unusedVariables false
set_option linter.unusedSimpArgs false
section
variable {s s':St} {cx:Cx} {v:Nat} {β:Type}
def GM (s s':St) (x:Operand):Prop:=s'.Ap x=s.Ap x∧A5 s s' (s.Ap x).roots
theorem GM.one {x:Operand} (h:GM s s' x):s'.Ai x=s.Ai x∧A5 s s' (s.Ai x).roots:=by
 refine ⟨by unfold St.Ai;rw [h.1],fun r hr=>h.2 r ?_⟩
 unfold St.Ai at hr
 cases hq:s.Ap x with
 | De vs=>rw [hq] at hr;cases hr
 | bx as=>rw [hq] at hr;cases hr
 | v g as =>
  rw [hq] at hr
  cases g with
  | true=>cases hr
  | false=>cases as with
   | nil=>cases hr
   | cons b bs=>cases bs with
    | nil=>exact List.mem_flatMap.2 ⟨b,by simp,hr⟩
    | cons=>cases hr
theorem Eg {x:Option Operand} (h:∀ y,x=some y→GM s s' y) (d:Int) (k:Int→Step β):DW s' x d k=DW s x d k:=by
 cases x with
 | none=>rfl
 | some y=>simp only [DW];rw [(h y rfl).one.1]
theorem LG {o:Oper} {c:Call} (ho:o.op = .call c) (hargs:∀ x∈c.args.toList,GM s s' x) (hfn:∀ f,c.callee = .value f→GM s s' f):AB cx v o s'=AB cx v o s:=by
 cases hb:c.callee with
 | builtin b =>
  cases b with
  | len =>
   simp only [AB,ho,hb]
   split
   ·rename_i x t hx ht
    have hx:=(hargs x (by rw [hx];simp)).one
    simp only [hx.1,MF hx.2]
   ·rfl
  | append =>
   simp only [AB,ho,hb]
   split
   ·rename_i x y t1 t2 ty d hx _ _ _
    have hx1:=(hargs x (by rw [hx];simp)).one
    have hy1:=(hargs y (by rw [hx];simp)).one
    simp only [hx1.1,hy1.1,I5 hx1.2 hy1.2]
   ·rfl
  | min =>
   simp only [AB,ho,hb]
   split
   ·rename_i x y hx
    have hx1:=(hargs x (by rw [hx];simp)).one
    have hy1:=(hargs y (by rw [hx];simp)).one
    rw [hx1.1,hy1.1]
   ·rfl
  | max =>
   simp only [AB,ho,hb]
   split
   ·rename_i x y hx
    have hx1:=(hargs x (by rw [hx];simp)).one
    have hy1:=(hargs y (by rw [hx];simp)).one
    rw [hx1.1,hy1.1]
   ·rfl
  | _=>simp only [AB,ho,hb]
 | value f =>
  have hf:=(hfn f hb).one
  have hmap:c.args.toList.map s'.Ap=c.args.toList.map s.Ap:=List.map_congr_left fun x hx=>(hargs x hx).1
  have hroots:∀ a∈c.args.toList.map s.Ap,A5 s s' a.roots:=fun a ha=>by
   obtain ⟨x,hx,rfl⟩:=List.mem_map.1 ha
   exact (hargs x hx).2
  simp only [AB,ho,hb]
  rw [hf.1,hmap]
  simp only [M8 hroots]
 | invoke r n=>simp only [AB,ho,hb]
theorem H2 {o:Oper} (h:∀ x∈o.op.operands.toList,GM s s' x):AB cx v o s'=AB cx v o s:=by
 by_cases hcall:∃ c,o.op = .call c
 ·obtain ⟨c,ho⟩:=hcall
  exact LG ho (fun x hx=>h x (by rw [ho];simp [Op.operands,Call.operands];exact .inr (by simpa using hx))) fun f hb=>h f (by rw [ho];simp [Op.operands,Call.operands,hb])
 unfold AB
 cases ho:o.op with
 | move x =>
  have hx:=h x (by rw [ho];simp [Op.operands])
  simp only [hx.1]
 | assign x =>
  have hx:=(h x (by rw [ho];simp [Op.operands])).one
  simp only [hx.1]
  cases o.dst with
  | none=>rfl
  | some d =>
   have hx2:=hx.2
   generalize s.Ai x=p at hx2
   cases p <;> first | rfl | simp only [K1 hx2]
 | pick x y z =>
  have hx:=(h x (by rw [ho];simp [Op.operands])).one
  have hy:=h y (by rw [ho];simp [Op.operands])
  have hz:=h z (by rw [ho];simp [Op.operands])
  simp only [hx.1,hy.1,hz.1]
 | alloc t=>rfl
 | box t x =>
  have hx:=h x (by rw [ho];simp [Op.operands])
  simp only [hx.1]
  have hx2:=hx.2
  generalize s.Ap x=p at hx2
  cases cx.ty t with
  | none=>rfl
  | some ty=>cases o.dst with
   | none=>rfl
   | some d=>cases p with
    | De vs=>rfl
    | bx as=>rfl
    | v g as =>
     simp only [Kq (show A5 s s' (as.flatMap LA.roots) from hx2),Eb (show A5 s s' (as.flatMap LA.roots) from hx2)]
 | build t ps =>
  have hp:∀ p∈ps.toList,s'.Ap p.2=s.Ap p.2∧A5 s s' (s.Ap p.2).roots:=fun p hp=>h p.2 (by rw [ho];simp only [Op.operands,List.toList_toArray];exact List.mem_map.2 ⟨p,hp,rfl⟩)
  simp only [Jn hp]
 | buildSlice t n ps =>
  have hp:∀ p∈ps.toList,s'.Ap p.2=s.Ap p.2∧A5 s s' (s.Ap p.2).roots:=fun p hp=>h p.2 (by rw [ho];simp only [Op.operands,List.toList_toArray];exact List.mem_map.2 ⟨p,hp,rfl⟩)
  simp only [Hd hp,LP hp]
  cases cx.ty t with
  | none=>rfl
  | some ty=>cases o.dst with
   | none=>rfl
   | some d =>
    dsimp only
    split
    ·rfl
    ·cases ty.ls with
     | one l=>cases l with
      | sl t' e =>
       dsimp only
       split
       ·cases hq:D3 s e ps.toList with
        | none=>rfl
        | some q=>exact I7 hp hq _ _ _ _
       ·rfl
      | _=>rfl
     | _=>rfl
 | load t x =>
  have hx:=h x (by rw [ho];simp [Op.operands])
  simp only [hx.1,LQ hx.2]
 | store t x y =>
  have hx:=(h x (by rw [ho];simp [Op.operands])).one
  have hy:=h y (by rw [ho];simp [Op.operands])
  simp only [hx.1,hy.1]
  have hy2:=hy.2
  generalize s.Ap y=p at hy2
  cases cx.ty t with
  | none =>
   have hx2:=hx.2
   generalize s.Ai x=q at hx2
   exact Ll hx2
  | some ty=>cases p with
   | De vs=>rfl
   | bx as=>rfl
   | v g as =>
    have hy2:A5 s s' (as.flatMap LA.roots):=hy2
    dsimp only
    cases hn:MQ (s.Ai x) as with
    | nil=>simp only [GI,Iz hx.2 hy2]
    | cons r rs =>
     have hsub:A5 s s' (r::rs):=fun r' hr'=>hy2 r' (by rw [← hn] at hr';exact LU hr')
     simp only [FG hsub]
     cases hf:Au cx s (r::rs) with
     | none=>rfl
     | some fs =>
      have hleafs:=FZ hf
      simp only [GI,Iz (hx.2.app hleafs) (hy2.app hleafs)]
 | makeInterface t x =>
  have hx:=(h x (by rw [ho];simp [Op.operands])).one
  simp only [hx.1]
 | makeFunc fn xs ys =>
  cases fn with
  | func g =>
   have hmap:ys.toList.map s'.Ap=ys.toList.map s.Ap:=List.map_congr_left fun y hy=>(h y (by rw [ho];simp [Op.operands];exact .inr (by simpa using hy))).1
   have hroots:∀ a∈ys.toList.map s.Ap,A5 s s' a.roots:=fun a ha=>by
    obtain ⟨y,hy,rfl⟩:=List.mem_map.1 ha
    exact (h y (by rw [ho];simp [Op.operands];exact .inr (by simpa using hy))).2
   obtain ⟨e1,e2⟩:=Iu hroots
   simp only [hmap,e1]
   split
   ·cases hp:C9 s (ys.toList.map s.Ap) with
    | none=>rfl
    | some ps=>simp only [e2 ps hp]
   ·rfl
  | _=>rfl
 | nilCheck x =>
  have hx:=h x (by rw [ho];simp [Op.operands])
  simp only [hx.1]
  have hx2:=hx.2
  generalize s.Ap x=p at hx2
  cases p with
  | bx as=>rfl
  | v g as=>simp only [EI (Eh hx2)]
  | De vs=>simp only [EI (Eh hx2)]
 | binOp op tx x y ty =>
  have hx:=h x (by rw [ho];simp [Op.operands])
  have hy:=h y (by rw [ho];simp [Op.operands])
  simp only [hx.1,hy.1]
 | unOp op tx x =>
  have hx:=(h x (by rw [ho];simp [Op.operands])).one
  simp only [hx.1]
 | convert t1 t2 x =>
  have hx:=(h x (by rw [ho];simp [Op.operands])).one
  simp only [hx.1]
  have hx2:=hx.2
  generalize s.Ai x=p at hx2
  cases cx.ty t1 with
  | none=>rfl
  | some ta=>cases cx.ty t2 with
   | none=>rfl
   | some ty=>cases p with
    | sc l z=>cases l <;> first | rfl | (simp only [B7 hx2])
    | _=>simp only [B7 hx2]
 | makeSlice t x y =>
  have hx:=(h x (by rw [ho];simp [Op.operands])).one
  have hy:=(h y (by rw [ho];simp [Op.operands])).one
  simp only [hx.1,hy.1]
 | slice ti x lo hi m =>
  have hx:=(h x (by rw [ho];simp [Op.operands])).one
  have hlo:∀ y,lo=some y→GM s s' y:=fun y e=>h y (by rw [ho,e];simp [Op.operands])
  have hhi:∀ y,hi=some y→GM s s' y:=fun y e=>h y (by rw [ho,e];simp [Op.operands])
  cases m with
  | some m=>rfl
  | none =>
   simp only [hx.1]
   have hx2:=hx.2
   generalize s.Ai x=p at hx2
   cases p with
   | sc l b=>cases l <;> simp only [Eg hlo,Eg hhi]
   | ref c=>simp only [Eg hlo,Eg hhi,Bb (hx2 c.r (by simp [LA.roots]))]
   | _=>rfl
 | fieldAddr t x f =>
  have hx:=h x (by rw [ho];simp [Op.operands])
  simp only [hx.1]
  have hx2:=hx.2
  generalize s.Ap x=p at hx2
  cases p with
  | bx as=>rfl
  | v g as=>simp only [EI (Eh hx2)]
  | De vs=>simp only [EI (Eh hx2)]
 | field t x f =>
  have hx:=h x (by rw [ho];simp [Op.operands])
  simp only [hx.1]
 | indexAddr ti x i =>
  have hx:=(h x (by rw [ho];simp [Op.operands])).one
  have hi:=(h i (by rw [ho];simp [Op.operands])).one
  simp only [hx.1,hi.1]
  have hx2:=hx.2
  generalize s.Ai x=p at hx2
  cases p with
  | ref c=>simp only [Bb (hx2 c.r (by simp [LA.roots]))]
  | D7 c lo hi=>simp only [Bb (hx2 c.r (by simp [LA.roots]))]
  | sc l b=>cases l <;> rfl
  | _=>rfl
 | index ti x i =>
  have hx:=(h x (by rw [ho];simp [Op.operands])).one
  have hi:=(h i (by rw [ho];simp [Op.operands])).one
  simp only [hx.1,hi.1]
 | extract x i =>
  have hx:=h x (by rw [ho];simp [Op.operands])
  simp only [hx.1]
 | call c=>exact absurd ⟨c,ho⟩ hcall
 | _=>rfl
theorem AK (a b i:Nat):(Nat.lor a b).testBit i=(a.testBit i||b.testBit i):=Nat.testBit_or a b i
theorem CN (n i:Nat):(2 ^ n).testBit i=decide (n=i):=Nat.testBit_two_pow
theorem Gr (r i:Nat):(JP r).testBit i=decide (4 * r+1=i):=CN _ _
theorem EA (r i:Nat):(Jv r).testBit i=decide (4 * r+3=i):=CN _ _
theorem Gu (a:AV) (r:Nat) (h:r∈a.roots):a.mask.testBit (4 * r+1)=true∧a.mask.testBit (4 * r+3)=true:=by
 unfold AV.mask
 revert h
 generalize a.roots=rs
 intro h
 induction rs with
 | nil=>cases h
 | cons x rs ih =>
  rw [List.foldr_cons,AK,AK,AK,AK,Gr,EA,Gr,EA]
  rcases List.mem_cons.1 h with rfl | h
  ·simp
  ·rw [(ih h).1,(ih h).2];simp
theorem Ig (s:St):∀ (xs:List Operand) (m0:Nat) (x:Operand),x∈xs→(∀ t,x = .tmp t→(xs.foldr (fun x m=>match x with
  | .tmp t=>Nat.lor (2 ^ (2 * t)) (Nat.lor (s.slot t).mask m)
  | _=>m) m0).testBit (2 * t)=true∧∀ r∈(s.slot t).roots,(xs.foldr (fun x m=>match x with
  | .tmp t=>Nat.lor (2 ^ (2 * t)) (Nat.lor (s.slot t).mask m)
  | _=>m) m0).testBit (4 * r+1)=true∧(xs.foldr (fun x m=>match x with
  | .tmp t=>Nat.lor (2 ^ (2 * t)) (Nat.lor (s.slot t).mask m)
  | _=>m) m0).testBit (4 * r+3)=true)
 | [],m0,x,h,t,e=>by cases h
 | y::xs,m0,x,h,t,e=>by
  rw [List.foldr_cons]
  rcases List.mem_cons.1 h with h | h
  ·subst h;subst e
   dsimp only
   refine ⟨by rw [AK,CN];simp,fun r hr=>⟨by rw [AK,AK,(Gu _ r hr).1];simp,by rw [AK,AK,(Gu _ r hr).2];simp⟩⟩
  ·obtain ⟨h1,h2⟩:=Ig s xs m0 x h t e
   cases y with
   | tmp u =>
    dsimp only
    exact ⟨by rw [AK,AK,h1];simp,fun r hr=>⟨by rw [AK,AK,(h2 r hr).1];simp,by rw [AK,AK,(h2 r hr).2];simp⟩⟩
   | _=>exact ⟨h1,h2⟩
theorem Hk (s:St) (i:Nat):∀ (xs:List Operand) (m0:Nat),m0.testBit i=true→(xs.foldr (fun x m=>match x with
  | .tmp t=>Nat.lor (2 ^ (2 * t)) (Nat.lor (s.slot t).mask m)
  | _=>m) m0).testBit i=true
 | [],m0,h=>h
 | y::xs,m0,h=>by
  rw [List.foldr_cons]
  have:=Hk s i xs m0 h
  cases y with
  | tmp u=>dsimp only;rw [AK,AK,this];simp
  | _=>exact this
theorem Jk (x:Operand) (h:∀ t,x ≠ .tmp t):s'.Ap x=s.Ap x∧(s.Ap x).roots=[]:=by
 have hv:∀ v,(ofConst v).roots=[]:=fun v=>by
  cases v with
  | slice A n c =>
   cases A with
   | none=>cases n with
    | zero=>cases c <;> rfl
    | succ n=>rfl
   | some a=>rfl
  | pointer A=>cases A <;> rfl
  | _=>rfl
 cases x with
 | tmp t=>exact absurd rfl (h t)
 | const c =>
  cases c with
  | agg cs =>
   refine ⟨rfl, ?_⟩
   show (cs.toList.map ofConst).flatMap LA.roots=[]
   rw [List.flatMap_map]
   simp only [hv,DJ]
  | bool b=>exact ⟨rfl,by simp [St.Ap,AV.roots,hv]⟩
  | int k n=>exact ⟨rfl,by simp [St.Ap,AV.roots,hv]⟩
  | float k n=>exact ⟨rfl,by simp [St.Ap,AV.roots,hv]⟩
  | complex k x y=>exact ⟨rfl,by simp [St.Ap,AV.roots,hv]⟩
  | string b=>exact ⟨rfl,by simp [St.Ap,AV.roots,hv]⟩
  | pointer b=>exact ⟨rfl,by simp [St.Ap,AV.roots,hv]⟩
  | slice b n c=>exact ⟨rfl,by simp [St.Ap,AV.roots,hv]⟩
  | map r=>exact ⟨rfl,by simp [St.Ap,AV.roots,hv]⟩
  | chan r=>exact ⟨rfl,by simp [St.Ap,AV.roots,hv]⟩
  | func f x y=>exact ⟨rfl,by simp [St.Ap,AV.roots,hv]⟩
  | nilFunc=>exact ⟨rfl,by simp [St.Ap,AV.roots,hv]⟩
  | iface t x=>exact ⟨rfl,by simp [St.Ap,AV.roots,hv]⟩
  | nilIface=>exact ⟨rfl,by simp [St.Ap,AV.roots,hv]⟩
  | tuple vs=>exact ⟨rfl,by simp [St.Ap,AV.roots,hv]⟩
 | global g=>exact ⟨rfl,rfl⟩
 | func f=>exact ⟨rfl,rfl⟩
theorem Ki (r j:Nat):∀ {a b:LA},a.norm=b.norm→IF r j a=IF r j b:=by
 have key:∀ a:LA,IF r j a=IF r j a.norm:=fun a=>by
  cases a with
  | arr AA gen t e xs d=>cases d <;> rfl
  | _=>rfl
 intro a b h
 rw [key a,key b,h]
theorem EZ (r:Nat):∀ (j:Nat) {as bs:List LA},as.map LA.norm=bs.map LA.norm→BO r j as=BO r j bs
 | j,[],[],_=>rfl
 | j,[],b::bs,h=>by cases h
 | j,a::as,[],h=>by cases h
 | j,a::as,b::bs,h=>by
  simp only [List.map_cons,List.cons.injEq] at h
  simp only [BO,Ki r j h.1,EZ r (j+1) h.2]
theorem KW {r j AA n:Nat} {β:Type} {k:List LA→Step β} (h:(s'.root r).norm=(s.root r).norm):s'.C7 (.ptr r j AA) n k=s.C7 (.ptr r j AA) n k:=by
 have h1:(s'.root r).box=(s.root r).box:=by have:=congrArg Bo.box h;exact this
 have h2:(s'.root r).AA=(s.root r).AA:=by have:=congrArg Bo.AA h;exact this
 have h3:(s'.root r).ls.map LA.norm=(s.root r).ls.map LA.norm:=by have:=congrArg Bo.ls h;exact this
 have h4:(s'.root r).ls.length=(s.root r).ls.length:=by have:=congrArg List.length h3;simpa using this
 have h5:BO r j (((s'.root r).ls.drop j).take n)=BO r j (((s.root r).ls.drop j).take n):=EZ r j (by rw [List.map_take,List.map_take,List.map_drop,List.map_drop,h3])
 simp only [St.C7,h1,h2,h4,h5]
theorem NC {ops:Array Oper} {o:Oper} (h:NZ (A8 ops o s) s s'):AB cx v o s'=AB cx v o s∧∀ j want t,o.guard=some (j,want)→(ops[j]?).bind (·.dst)=some t→s'.slot t=s.slot t:=by
 have hguard:∀ j want t,o.guard=some (j,want)→(ops[j]?).bind (·.dst)=some t→(BW ops o).testBit (2 * t)=true:=by
  intro j want t hg ht
  unfold BW
  rw [hg]
  dsimp only
  rw [ht]
  dsimp only
  rw [CN];simp
 by_cases hm:∃ t,o.op = .move (.tmp t)∨(∃ i,o.op = .extract (.tmp t) i)∨∃ T f,o.op = .field T (.tmp t) f
 ·obtain ⟨t,ho⟩:=hm
  have hrm:A8 ops o s=Nat.lor (2 ^ (2 * t)) (BW ops o):=by rcases ho with ho | ⟨i,ho⟩ | ⟨T,f,ho⟩ <;> (unfold A8;rw [ho])
  rw [hrm] at h
  have h1:s'.slot t=s.slot t:=h.1 t (by rw [AK,CN];simp)
  refine ⟨?_,fun j want u hg ht=>h.1 u (by rw [AK,hguard j want u hg ht];simp)⟩
  have h2:s'.Ap (.tmp t)=s.Ap (.tmp t):=h1
  unfold AB
  rcases ho with ho | ⟨i,ho⟩ | ⟨T,f,ho⟩ <;> (rw [ho];simp only [h2])
 by_cases hp:∃ t g r j AA,(∃ T,o.op = .load T (.tmp t)∨∃ f,o.op = .fieldAddr T (.tmp t) f)∧s.slot t = .v g [.ptr r j AA]
 ·obtain ⟨t,g,r,j,AA,⟨T,ho⟩,hs⟩:=hp
  have hrm:A8 ops o s=Nat.lor (2 ^ (2 * t)) (Nat.lor (JP r) (BW ops o)):=by rcases ho with ho | ⟨f,ho⟩ <;> (unfold A8;rw [ho];dsimp only;rw [hs])
  rw [hrm] at h
  have h1:s'.slot t=s.slot t:=h.1 t (by rw [AK,CN];simp)
  have h2:(s'.root r).norm=(s.root r).norm:=h.2.2 r (by rw [AK,AK,Gr];simp)
  refine ⟨?_,fun j want u hg ht=>h.1 u (by rw [AK,AK,hguard j want u hg ht];simp)⟩
  have h3:s.Ap (.tmp t) = .v g [.ptr r j AA]:=hs
  have h4:s'.Ap (.tmp t) = .v g [.ptr r j AA]:=h1.trans hs
  have ha:s'.alive (AV.one? (.v g [.ptr r j AA]))=s.alive (AV.one? (.v g [.ptr r j AA])):=by
   cases g with
   | true=>rfl
   | false =>
    have h5:(s'.root r).box=(s.root r).box:=by have:=congrArg Bo.box h2;exact this
    have h6:(s'.root r).AA=(s.root r).AA:=by have:=congrArg Bo.AA h2;exact this
    show ((s'.root r).box&&(s'.root r).AA==AA)=((s.root r).box&&(s.root r).AA==AA)
    rw [h5,h6]
  have hl:∀ n (k:List LA→Step (List Wr)),s'.FI (.v g [.ptr r j AA]) n k=s.FI (.v g [.ptr r j AA]) n k:=fun n k=>by
   show s'.C7 (AV.one? (.v g [.ptr r j AA])) n k=s.C7 (AV.one? (.v g [.ptr r j AA])) n k
   cases g with
   | true=>rfl
   | false=>exact KW h2
  unfold AB
  rcases ho with ho | ⟨f,ho⟩
  ·rw [ho]
   simp only [h3,h4,hl]
  ·rw [ho]
   simp only [h3,h4,ha]
 by_cases hq:∃ t T,o.op = .load T (.tmp t)∨∃ f,o.op = .fieldAddr T (.tmp t) f
 ·obtain ⟨t,T,ho⟩:=hq
  have hrm:A8 ops o s=Nat.lor (2 ^ (2 * t)) (Nat.lor (s.slot t).mask (BW ops o)):=by
   have hno:∀ g r j AA,s.slot t ≠ .v g [.ptr r j AA]:=fun g r j AA hs=>hp ⟨t,g,r,j,AA,⟨T,ho⟩,hs⟩
   rcases ho with ho | ⟨f,ho⟩
   ·unfold A8;rw [ho];dsimp only
    split
    ·rename_i g r j AA hs;exact absurd hs (hno g r j AA)
    ·rfl
   ·unfold A8;rw [ho];dsimp only
    split
    ·rename_i g r j AA hs;exact absurd hs (hno g r j AA)
    ·rfl
  rw [hrm] at h
  have h1:s'.slot t=s.slot t:=h.1 t (by rw [AK,CN];simp)
  refine ⟨H2 fun x hx => ?_,fun j want u hg ht=>h.1 u (by rw [AK,AK,hguard j want u hg ht];simp)⟩
  have hx:x = .tmp t:=by
   rcases ho with ho | ⟨f,ho⟩
   ·rw [ho] at hx;simpa [Op.operands] using hx
   ·rw [ho] at hx;simpa [Op.operands] using hx
  subst hx
  exact ⟨h1,fun r hr=>h.2.1 r (by rw [AK,AK,(Gu (s.slot t) r hr).1];simp) (by rw [AK,AK,(Gu (s.slot t) r hr).2];simp)⟩
 have hrm:A8 ops o s=o.op.operands.toList.foldr (fun x m=>match x with
  | .tmp t=>Nat.lor (2 ^ (2 * t)) (Nat.lor (s.slot t).mask m)
  | _=>m) (BW ops o):=by
  unfold A8
  split
  ·rename_i t ho;exact absurd ⟨t, .inl ho⟩ hm
  ·rename_i t i ho;exact absurd ⟨t, .inr (.inl ⟨_,ho⟩)⟩ hm
  ·rename_i T t f ho;exact absurd ⟨t, .inr (.inr ⟨_,_,ho⟩)⟩ hm
  ·rename_i T t ho;exact absurd ⟨t,T, .inl ho⟩ hq
  ·rename_i T t f ho;exact absurd ⟨t,T, .inr ⟨f,ho⟩⟩ hq
  ·rfl
 rw [hrm] at h
 refine ⟨H2 fun x hx => ?_,fun j want t hg ht => ?_⟩
 ·by_cases hq:∃ t,x = .tmp t
  ·obtain ⟨t,rfl⟩:=hq
   obtain ⟨h1,h2⟩:=Ig s o.op.operands.toList _ (.tmp t) hx t rfl
   exact ⟨h.1 t h1,fun r hr=>h.2.1 r (h2 r hr).1 (h2 r hr).2⟩
  ·obtain ⟨h1,h2⟩:=Jk (s:=s) (s':=s') x fun t e=>hq ⟨t,e⟩
   exact ⟨h1,fun r hr=>by rw [h2] at hr;cases hr⟩
 ·exact h.1 t (Hk s _ _ _ (hguard j want t hg ht))
end
end Go.Ev
namespace Go.Ev
set_option linter.unusedVariables false
set_option linter.unusedSimpArgs false
def CE (m n:Nat):Prop:=∀ i,m.testBit i=true→n.testBit i=false
theorem HJ {m n:Nat} (h:(Nat.land m n==0)=true):CE m n:=by
 intro i hi
 have h0:m &&& n=0:=by simpa using h
 have:=congrArg (fun x=>x.testBit i) h0
 simp only [Nat.testBit_and,Nat.zero_testBit,hi,Bool.true_and] at this
 exact this
theorem CE.symm {m n:Nat} (h:CE m n):CE n m:=fun i hi=>by
 cases hm:m.testBit i with
 | false=>rfl
 | true=>rw [h i hm] at hi;cases hi
theorem B5 (s:St) (w:Wr):(s.AG w).sl.length=s.sl.length∧(s.AG w).ro.length=s.ro.length:=by
 cases w <;> exact ⟨by simp [St.AG,CU],by simp [St.AG,CU]⟩
theorem CB:∀ (ws:List Wr) (s:St),(s.app ws).sl.length=s.sl.length∧(s.app ws).ro.length=s.ro.length
 | [],s=>⟨rfl,rfl⟩
 | w::ws,s=>by
  obtain ⟨h1,h2⟩:=CB ws (s.AG w)
  obtain ⟨h3,h4⟩:=B5 s w
  exact ⟨h1.trans h3,h2.trans h4⟩
theorem I4:∀ (ws:List Wr) (s:St),(s.app ws).Bv=s.Bv
 | [],s=>rfl
 | w::ws,s=>(I4 ws (s.AG w)).trans (by cases w <;> rfl)
theorem Od (t r:Nat):(JP r).testBit (2 * t)=false∧(Jv r).testBit (2 * t)=false:=by
 rw [Gr,EA];exact ⟨by rw [decide_eq_false_iff_not];omega,by rw [decide_eq_false_iff_not];omega⟩
theorem HL {s:St} {w:Wr} {t:Nat} (h:w.mask.testBit (2 * t)=false):(s.AG w).slot t=s.slot t:=by
 cases w with
 | slot u a =>
  simp only [Wr.mask,CN,decide_eq_false_iff_not] at h
  rw [BR,if_neg (fun hh=>h (by rw [hh.1]))]
 | root r x=>rfl
 | leaf r j a=>rfl
 | half r j v=>rfl
theorem Bd {s:St} {w:Wr} {r:Nat} (h:w.mask.testBit (4 * r+3)=false):(s.AG w).root r=s.root r:=by
 cases w with
 | slot u a=>rfl
 | root q x =>
  simp only [Wr.mask,AK,Gr,EA,Bool.or_eq_false_iff,decide_eq_false_iff_not] at h
  rw [Av,if_neg (fun hh=>h.2 (by rw [hh.1]))]
 | leaf q j a =>
  simp only [Wr.mask,AK,Gr,EA,Bool.or_eq_false_iff,decide_eq_false_iff_not] at h
  show nth dead (CV s.ro q _) r=_
  rw [Ay,if_neg (fun hh=>h.2 (by rw [hh.1]))];rfl
 | half q j v =>
  simp only [Wr.mask,EA,decide_eq_false_iff_not] at h
  show nth dead (CV s.ro q _) r=_
  rw [Ay,if_neg (fun hh=>h (by rw [hh.1]))];rfl
theorem BS (w:Wr) (ws:List Wr) (i:Nat):(AE (w::ws)).testBit i=(w.mask.testBit i||(AE ws).testBit i):=AK _ _ _
theorem DV {t:Nat}:∀ {ws:List Wr} {s:St},(AE ws).testBit (2 * t)=false→(s.app ws).slot t=s.slot t
 | [],s,h=>rfl
 | w::ws,s,h=>by
  rw [BS,Bool.or_eq_false_iff] at h
  exact (DV h.2).trans (HL h.1)
theorem DU {r:Nat}:∀ {ws:List Wr} {s:St},(AE ws).testBit (4 * r+3)=false→(s.app ws).root r=s.root r
 | [],s,h=>rfl
 | w::ws,s,h=>by
  rw [BS,Bool.or_eq_false_iff] at h
  exact (DU h.2).trans (Bd h.1)
theorem E1 {t:Nat}:∀ {ws:List Wr} {s s':St},s'.sl.length=s.sl.length→s'.slot t=s.slot t→(s'.app ws).slot t=(s.app ws).slot t
 | [],s,s',hl,h=>h
 | w::ws,s,s',hl,h=>by
  show ((s'.AG w).app ws).slot t=((s.AG w).app ws).slot t
  refine E1 ((B5 s' w).1.trans (hl.trans (B5 s w).1.symm)) ?_
  cases w with
  | slot u a=>rw [BR,BR,hl,h]
  | root r x=>exact h
  | leaf r j a=>exact h
  | half r j v=>exact h
theorem E0 {r:Nat}:∀ {ws:List Wr} {s s':St},s'.ro.length=s.ro.length→s'.root r=s.root r→(s'.app ws).root r=(s.app ws).root r
 | [],s,s',hl,h=>h
 | w::ws,s,s',hl,h=>by
  show ((s'.AG w).app ws).root r=((s.AG w).app ws).root r
  refine E0 ((B5 s' w).2.trans (hl.trans (B5 s w).2.symm)) ?_
  cases w with
  | slot u a=>exact h
  | root q x=>rw [Av,Av,hl,h]
  | leaf q j a =>
   show nth dead (CV s'.ro q _) r=nth dead (CV s.ro q _) r
   rw [Ay,Ay,hl]
   split
   ·rename_i hq;obtain ⟨rfl,_⟩:=hq;rw [h]
   ·exact h
  | half q j v =>
   show nth dead (CV s'.ro q _) r=nth dead (CV s.ro q _) r
   rw [Ay,Ay,hl]
   split
   ·rename_i hq;obtain ⟨rfl,_⟩:=hq;unfold St.leaf;rw [h]
   ·exact h
theorem Fu {α:Type} (l:List α) {n m:Nat} (h:n≠m) (x y:α):CV (CV l n x) m y=CV (CV l m y) n x:=by
 rw [Bk,Bk,Bk,Bk];exact List.set_comm _ _ h
theorem BX {s:St} {r j v:Nat}:(s.AG (.half r j v))=s.AG (.leaf r j ((s.leaf r j).Cd v)):=rfl
theorem LB {s:St} {w w':Wr} (h:CE w.mask w'.mask):(s.AG w).AG w'=(s.AG w').AG w:=by
 have key:∀ {n m:Nat},CE (2 ^ n) (2 ^ m)→n≠m:=by
  intro n m h e
  have:=h n (by rw [CN];simp)
  rw [CN,e] at this;simp at this
 have hh:∀ {r q:Nat} {a b:Nat},a.testBit (4 * r+3)=true→b.testBit (4 * q+3)=true→CE a b→r≠q:=by
  intro r q a b ha hb hab e
  have:=hab (4 * r+3) ha
  rw [e,hb] at this;cases this
 have full:∀ r,(Nat.lor (JP r) (Jv r)).testBit (4 * r+3)=true:=fun r=>by rw [AK,EA];simp
 have alone:∀ r,(Jv r).testBit (4 * r+3)=true:=fun r=>by rw [EA];simp
 have ll:∀ {s:St} {r j q k:Nat} {a b:LA},r≠q→(s.AG (.leaf r j a)).AG (.leaf q k b)=(s.AG (.leaf q k b)).AG (.leaf r j a):=by
  intro s r j q k a b hne
  have e1:(s.AG (.leaf r j a)).root q=s.root q:=Bd (by simp only [Wr.mask,AK,Gr,EA,Bool.or_eq_false_iff,decide_eq_false_iff_not];omega)
  have e2:(s.AG (.leaf q k b)).root r=s.root r:=Bd (by simp only [Wr.mask,AK,Gr,EA,Bool.or_eq_false_iff,decide_eq_false_iff_not];omega)
  simp only [St.AG] at e1 e2 ⊢
  rw [e1,e2,Fu _ hne]
 have rl:∀ {s:St} {r q j:Nat} {x:Bo} {b:LA},r≠q→(s.AG (.root r x)).AG (.leaf q j b)=(s.AG (.leaf q j b)).AG (.root r x):=by
  intro s r q j x b hne
  have e1:(s.AG (.root r x)).root q=s.root q:=by rw [Av,if_neg (fun hh=>hne hh.1)]
  simp only [St.AG] at e1 ⊢
  rw [e1,Fu _ hne]
 have lq:∀ {s:St} {r q j k:Nat} {a:LA},r≠q→(s.AG (.leaf r j a)).leaf q k=s.leaf q k:=by
  intro s r q j k a hne
  unfold St.leaf
  rw [Bd (by simp only [Wr.mask,AK,Gr,EA,Bool.or_eq_false_iff,decide_eq_false_iff_not];omega)]
 have rq:∀ {s:St} {r q k:Nat} {x:Bo},r≠q→(s.AG (.root r x)).leaf q k=s.leaf q k:=by
  intro s r q k x hne
  unfold St.leaf
  rw [Av,if_neg (fun hh=>hne hh.1)]
 cases w with
 | slot t a=>cases w' with
  | slot u b =>
   have hne:t≠u:=fun e=>key h (by rw [e])
   simp only [St.AG];rw [Fu _ hne]
  | root r x=>rfl
  | leaf r j b=>rfl
  | half r j v=>rfl
 | root r x=>cases w' with
  | slot u b=>rfl
  | root q y =>
   have hne:r≠q:=hh (full r) (full q) h
   simp only [St.AG];rw [Fu _ hne]
  | leaf q j b=>exact rl (hh (full r) (full q) h)
  | half q j v =>
   have hne:r≠q:=hh (full r) (alone q) h
   rw [BX,BX,rq hne,rl hne]
 | leaf r j a=>cases w' with
  | slot u b=>rfl
  | root q y=>exact (rl (hh (full r) (full q) h).symm).symm
  | leaf q k b=>exact ll (hh (full r) (full q) h)
  | half q k v =>
   have hne:r≠q:=hh (full r) (alone q) h
   rw [BX,BX,lq hne,ll hne]
 | half r j v=>cases w' with
  | slot u b=>rfl
  | root q y =>
   have hne:r≠q:=hh (alone r) (full q) h
   rw [BX,BX,rq hne.symm,rl hne.symm]
  | leaf q k b =>
   have hne:r≠q:=hh (alone r) (full q) h
   rw [BX,BX,lq hne.symm,ll hne]
  | half q k u =>
   have hne:r≠q:=hh (alone r) (alone q) h
   rw [BX,BX (s:=s) (r:=q),BX,BX,lq hne,lq hne.symm,ll hne]
theorem Ey {w:Wr}:∀ {ws:List Wr} {s:St},CE w.mask (AE ws)→(s.AG w).app ws=(s.app ws).AG w
 | [],s,h=>rfl
 | w'::ws,s,h=>by
  have h1:CE w.mask w'.mask:=fun i hi=>by have:=h i hi;rw [BS,Bool.or_eq_false_iff] at this;exact this.1
  have h2:CE w.mask (AE ws):=fun i hi=>by have:=h i hi;rw [BS,Bool.or_eq_false_iff] at this;exact this.2
  show ((s.AG w).AG w').app ws=_
  rw [LB h1,Ey h2];rfl
theorem Jd {ws':List Wr}:∀ {ws:List Wr} {s:St},CE (AE ws) (AE ws')→(s.app ws).app ws'=(s.app ws').app ws
 | [],s,h=>rfl
 | w::ws,s,h=>by
  have h1:CE w.mask (AE ws'):=fun i hi=>h i (by rw [BS,hi];rfl)
  have h2:CE (AE ws) (AE ws'):=fun i hi=>h i (by rw [BS,hi];simp)
  show ((s.AG w).app ws).app ws'=_
  rw [Jd h2,Ey h1];rfl
def BU (s:St) (p:Nat→Prop):Prop:=(∀ t,∀ n∈(s.slot t).AH,p n)∧∀ r,∀ n∈(s.root r).AH,p n
theorem BU.mono {s:St} {p q:Nat→Prop} (h:BU s p) (hq:∀ n,p n→q n):BU s q:=⟨fun t n hn=>hq n (h.1 t n hn),fun r n hn=>hq n (h.2 r n hn)⟩
theorem BU.zero {s:St} {p:Nat→Prop} (h:BU s p):p 0:=by
 refine h.2 s.ro.length 0 ?_
 have:s.root s.ro.length=dead:=A3 _ (Nat.le_refl _)
 rw [this];exact List.mem_cons_self
theorem BU.AG {s:St} {p:Nat→Prop} (h:BU s p) {w:Wr} (hw:∀ n∈w.AH,p n):BU (s.AG w) p:=by
 cases w with
 | slot u a =>
  refine ⟨fun t n hn => ?_,h.2⟩
  rw [BR] at hn
  split at hn
  ·exact hw n hn
  ·exact h.1 t n hn
 | root q x =>
  refine ⟨h.1,fun r n hn => ?_⟩
  rw [Av] at hn
  split at hn
  ·exact hw n hn
  ·exact h.2 r n hn
 | leaf q j a =>
  refine ⟨h.1,fun r n hn => ?_⟩
  have hroot:(s.AG (.leaf q j a)).root r=if q=r∧q<s.ro.length then { s.root q with ls:=CV (s.root q).ls j a } else s.root r:=Ay _ _ _ _ _
  rw [hroot] at hn
  split at hn
  ·rcases List.mem_cons.1 hn with hn | hn
   ·subst hn;exact h.2 q _ List.mem_cons_self
   ·obtain ⟨b,hb,hn2⟩:=List.mem_flatMap.1 hn
    have hb:b∈CV (s.root q).ls j a:=hb
    rw [Bk] at hb
    rcases List.mem_or_eq_of_mem_set hb with hb | hb
    ·exact h.2 q n (List.mem_cons_of_mem _ (List.mem_flatMap.2 ⟨b,hb,hn2⟩))
    ·rw [hb] at hn2;exact hw n hn2
  ·exact h.2 r n hn
 | half q j v =>
  refine ⟨h.1,fun r n hn => ?_⟩
  have hroot:(s.AG (.half q j v)).root r=if q=r∧q<s.ro.length then { s.root q with ls:=CV (s.root q).ls j ((s.leaf q j).Cd v) } else s.root r:=Ay _ _ _ _ _
  rw [hroot] at hn
  split at hn
  ·rcases List.mem_cons.1 hn with hn | hn
   ·subst hn;exact h.2 q _ List.mem_cons_self
   ·obtain ⟨b,hb,hn2⟩:=List.mem_flatMap.1 hn
    have hb:b∈CV (s.root q).ls j ((s.leaf q j).Cd v):=hb
    by_cases hj:j<(s.root q).ls.length
    ·rw [Bk] at hb
     rcases List.mem_or_eq_of_mem_set hb with hb | hb
     ·exact h.2 q n (List.mem_cons_of_mem _ (List.mem_flatMap.2 ⟨b,hb,hn2⟩))
     ·have hin:n∈(s.leaf q j).AH∨n=v:=by
       rw [hb] at hn2
       cases hl:s.leaf q j with
       | arr AA gen t e xs d =>
        rw [hl] at hn2
        cases d with
        | zero=>exact .inl hn2
        | succ d =>
         simp only [LA.Cd,LA.AH,List.mem_cons,List.not_mem_nil,or_false] at hn2 ⊢
         rcases hn2 with h | h
         ·exact .inl (.inl h)
         ·exact .inr h
       | _=>rw [hl] at hn2;exact .inl hn2
      rcases hin with hin | hin
      ·exact h.2 q n (List.mem_cons_of_mem _ (List.mem_flatMap.2 ⟨_,G0 hj,hin⟩))
      ·exact hw n (by rw [hin];exact List.mem_cons_self)
    ·rw [Bk,List.set_eq_of_length_le (by omega)] at hb
     exact h.2 q n (List.mem_cons_of_mem _ (List.mem_flatMap.2 ⟨b,hb,hn2⟩))
  ·exact h.2 r n hn
theorem BU.app {p:Nat→Prop}:∀ {ws:List Wr} {s:St},BU s p→(∀ w∈ws,∀ n∈w.AH,p n)→BU (s.app ws) p
 | [],s,h,hw=>h
 | w::ws,s,h,hw=>BU.app (ws:=ws) (s:=s.AG w) (h.AG (hw w (by simp))) fun x hx=>hw x (List.mem_cons_of_mem _ hx)
theorem BU.Hy {s:St} {p:Nat→Prop} (h:BU s p) {v:Nat} (hv:¬ p v) (h1:1<v):Ae s v:=by
 refine ⟨fun t hin=>hv (h.1 t v hin),fun r j => .inr fun hin => ?_,h1⟩
 by_cases hj:j<(s.root r).ls.length
 ·exact hv (h.2 r v (List.mem_cons_of_mem _ (List.mem_flatMap.2 ⟨_,G0 hj,hin⟩)))
 ·have:s.leaf r j = .bad:=A3 _ (Nat.le_of_not_lt hj)
  rw [this] at hin;cases hin
def Bt (ops:Array Oper) (o:Oper) (s:St) (b:Bool):Prop:=match o.guard with
 | none=>b=true
 | some (j,want)=>∃ t,(ops[j]?).bind (·.dst)=some t∧((s.slot t = .v false [.undef]∧b=false)∨∃ c:Bool,s.slot t = .v false [.sc .bool c]∧b=(c==want))
def K5 (cx:Cx) (g:Rg) (bs:List Nat) (i:Nat) (o:Oper) (s:St) (ws:List Wr):Prop :=
 (Bt g.ops o s true∧(AB cx (g.v0+i) o s).leads ws∧JJ cx o.dst g.v0 (g.v0+i) (nth 0 bs i) ws=true)∨(Bt g.ops o s false∧ws=Cp o.dst)
def Trace (cx:Cx) (g:Rg) (bs:List Nat):Nat→List Oper→List (Nat×Nat)→St→List (Nat×List Wr)→Prop
 | _,[],_,_,[]=>True
 | i,o::r,lg,s,(rm,ws)::tr=>rm=A8 g.ops o s∧(g.draw=true→indep (nth 0 bs i) rm (AE ws) 0 lg=true)∧K5 cx g bs i o s ws∧Trace cx g bs (i+1) r (lg++[(rm,AE ws)]) (s.app ws) tr
 | _,_,_,_,_=>False
def AL (A:Nat→Bool):Nat→List (Nat×List Wr)→St→St
 | _,[],s=>s
 | i,x::tr,s=>AL A (i+1) tr (bif A i then s.app x.2 else s)
theorem K3 {α:Type} (d:α):∀ (l:List α) (n:Nat),CV l n (nth d l n)=l
 | [],n=>rfl
 | x::xs,0=>rfl
 | x::xs,n+1=>by simp [CV,nth,K3 d xs n]
theorem CL {s:St} {t:Nat} {a:AV} (h:s.slot t=a):s.AG (.slot t a)=s:=by
 subst h
 show { s with sl:=CV s.sl t (s.slot t) }=s
 have:CV s.sl t (s.slot t)=s.sl:=K3 _ _ _
 rw [this]
theorem ES {R:Type} {cx:Cx} {g:Rg} {bs:List Nat} {k:St→Option R} {x:R}:∀ (r:List Oper) (i:Nat) (lg:List (Nat×Nat)) (s:St),ER cx g (number i r) bs lg s k=some x →
  ∃ tr,Trace cx g bs i r lg s tr∧tr.length=r.length∧k (AL (fun _=>true) i tr s)=some x
 | [],i,lg,s,h=>⟨[],trivial,rfl,h⟩
 | o::r,i,lg,s,h=>by
  simp only [number,ER] at h
  have exec:Bt g.ops o s true→((AB cx (g.v0+i) o s).run fun ws =>
    if JJ cx o.dst g.v0 (g.v0+i) (nth 0 bs i) ws&&(!g.draw||indep (nth 0 bs i) (A8 g.ops o s) (AE ws) 0 lg) then ER cx g (number (i+1) r) bs (lg++[(A8 g.ops o s,AE ws)]) (s.app ws) k else none)=some x →
    ∃ tr,Trace cx g bs i (o::r) lg s tr∧tr.length=(o::r).length∧k (AL (fun _=>true) i tr s)=some x:=by
   intro hg h
   obtain ⟨ws,hl,h⟩:=Step.Cw _ h
   split at h
   ·rename_i hc
    simp only [Bool.and_eq_true,Bool.or_eq_true,Bool.not_eq_true'] at hc
    obtain ⟨tr,h1,h2,h3⟩:=ES r (i+1) _ _ h
    exact ⟨(_,ws)::tr,⟨rfl,fun hd=>hc.2.resolve_left (by simp [hd]), .inl ⟨hg,hl,hc.1⟩,h1⟩,by simp [h2],h3⟩
   ·cases h
  have skip:Bt g.ops o s false→(if (!g.draw||indep (nth 0 bs i) (A8 g.ops o s) (AE (Cp o.dst)) 0 lg)=true then ER cx g (number (i+1) r) bs (lg++[(A8 g.ops o s,AE (Cp o.dst))]) (s.app (Cp o.dst)) k else none)=some x →
    ∃ tr,Trace cx g bs i (o::r) lg s tr∧tr.length=(o::r).length∧k (AL (fun _=>true) i tr s)=some x:=by
   intro hg h
   split at h
   ·rename_i hc
    simp only [Bool.or_eq_true,Bool.not_eq_true'] at hc
    obtain ⟨tr,h1,h2,h3⟩:=ES r (i+1) _ _ h
    exact ⟨(_,Cp o.dst)::tr,⟨rfl,fun hd=>hc.resolve_left (by simp [hd]), .inr ⟨hg,rfl⟩,h1⟩,by simp [h2],h3⟩
   ·cases h
  cases hgd:o.guard with
  | none =>
   rw [hgd] at h
   exact exec (by unfold Bt;rw [hgd]) h
  | some p =>
   obtain ⟨j,want⟩:=p
   rw [hgd] at h
   dsimp only at h
   cases ht:(g.ops[j]?).bind (·.dst) with
   | none=>rw [ht] at h;cases h
   | some t =>
    rw [ht] at h
    dsimp only at h
    have gd:∀ (c:Bool),s.slot t = .v false [.sc .bool c]→Bt g.ops o s (c==want):=fun c hc=>by unfold Bt;rw [hgd];exact ⟨t,ht, .inr ⟨c,hc,rfl⟩⟩
    split at h
    ·rename_i hs
     exact skip (by unfold Bt;rw [hgd];exact ⟨t,ht, .inl ⟨hs,rfl⟩⟩) h
    ·rename_i c hs
     cases want with
     | true =>
      dsimp only at h
      cases c with
      | true =>
       have hsame:s.AG (.slot t (IP true))=s:=CL hs
       rw [hsame] at h
       exact exec (gd true hs) h
      | false =>
       have hsame:s.AG (.slot t (IP false))=s:=CL hs
       rw [hsame] at h
       exact skip (gd false hs) h
     | false =>
      dsimp only at h
      cases c with
      | true =>
       have hsame:s.AG (.slot t (IP true))=s:=CL hs
       rw [hsame] at h
       exact skip (gd true hs) h
      | false =>
       have hsame:s.AG (.slot t (IP false))=s:=CL hs
       rw [hsame] at h
       exact exec (gd false hs) h
    ·cases h
end Go.Ev
namespace Go.Ev
set_option linter.unusedVariables false
set_option linter.unusedSimpArgs false
theorem HU:∀ (os:List Oper) (acc:List Nat) (i:Nat),i<acc.length→nth 0 (Es os acc) i=nth 0 acc i
 | [],acc,i,h=>rfl
 | o::os,acc,i,h=>by
  simp only [Es]
  rw [HU os _ i (by simp;omega),Ah,Ah,List.getElem?_append_left h]
theorem Hj (acc:List Nat) (j:Nat):∀ (es:List Edge),(es.foldr (fun e m=>if Region.binds .any e then Nat.lor (2 ^ e.on) (Nat.lor (nth 0 acc e.on) m) else m) 0).testBit j=true→∃ e∈es,Region.binds .any e=true∧(e.on=j∨(nth 0 acc e.on).testBit j=true)
 | [],h=>by simp at h
 | e::es,h=>by
  rw [List.foldr_cons] at h
  split at h
  ·rename_i hb
   rw [AK,AK,CN] at h
   simp only [Bool.or_eq_true,decide_eq_true_eq] at h
   rcases h with h | h | h
   ·exact ⟨e,by simp,hb, .inl h⟩
   ·exact ⟨e,by simp,hb, .inr h⟩
   ·obtain ⟨e',h1,h2⟩:=Hj acc j es h;exact ⟨e',List.mem_cons_of_mem _ h1,h2⟩
  ·obtain ⟨e',h1,h2⟩:=Hj acc j es h;exact ⟨e',List.mem_cons_of_mem _ h1,h2⟩
theorem HR (j:Nat):∀ (os:List Oper) (acc:List Nat) (k:Nat) (o:Oper),os[k]? = some o→(nth 0 (Es os acc) (acc.length+k)).testBit j=true→∃ e∈o.after.toList,Region.binds .any e=true∧(e.on=j∨(nth 0 (Es os acc) e.on).testBit j=true)
 | [],acc,k,o,h,hb=>by simp at h
 | x::os,acc,k,o,h,hb=>by
  simp only [Es] at hb ⊢
  cases k with
  | zero =>
   simp at h;subst h
   rw [Nat.add_zero,HU os _ acc.length (by simp),Ah,List.getElem?_append_right (Nat.le_refl _)] at hb
   simp only [Nat.sub_self,List.getElem?_cons_zero,Option.getD_some] at hb
   obtain ⟨e,h1,h2,h3⟩:=Hj acc j _ hb
   refine ⟨e,h1,h2,h3.imp id fun h3 => ?_⟩
   by_cases hlt:e.on<acc.length
   ·rw [HU os _ e.on (by simp;omega),Ah,List.getElem?_append_left hlt, ← Ah];exact h3
   ·rw [A3 0 (Nat.le_of_not_lt hlt)] at h3;simp at h3
  | succ k =>
   refine HR j os _ k o (by simpa using h) ?_
   rw [List.length_append,List.length_singleton,show acc.length+1+k=acc.length+(k+1) by omega]
   exact hb
theorem Cj:∀ (os:List Oper) (i:Nat),D0 i os=true→∀ (k:Nat) (o:Oper),os[k]? = some o→∀ e∈o.after.toList,Region.binds .any e=true→e.on<i+k
 | [],i,h,k,o,ho=>by simp at ho
 | x::os,i,h,k,o,ho=>by
  simp only [D0,Bool.and_eq_true] at h
  cases k with
  | zero =>
   simp at ho;subst ho
   intro e he hb
   have:=List.all_eq_true.1 h.1 e he
   simpa [hb] using this
  | succ k =>
   intro e he hb
   have:=Cj os (i+1) h.2 k o (by simpa using ho) e he hb
   omega
theorem HY {ops:Array Oper} (hE:D0 0 ops.toList=true) {A:Nat→Prop} (hA:∀ i o,A i→ops[i]? = some o→∀ e∈o.after.toList,Region.binds .any e=true→A e.on) (hn:∀ i,A i→i<ops.size) :
  ∀ (i:Nat),A i→∀ j,(nth 0 (Es ops.toList []) i).testBit j=true→A j:=by
 intro i
 induction i using Nat.strongRecOn with
 | _ i ih =>
  intro hi j hj
  have hlt:=hn i hi
  have ho:ops.toList[i]? = some ops[i]:=by simp [hlt]
  obtain ⟨e,h1,h2,h3⟩:=HR j ops.toList [] i ops[i] ho (by simpa using hj)
  have hon:=Cj ops.toList 0 hE i ops[i] ho e h1 h2
  have hAe:=hA i ops[i] hi (by simp [hlt]) e h1 h2
  rcases h3 with h3 | h3
  ·rw [← h3];exact hAe
  ·exact ih e.on (by omega) hAe j h3
theorem Iy {ops:Array Oper} (hE:D0 0 ops.toList=true) {A:Nat→Prop} (hA:∀ i o,A i→ops[i]? = some o→∀ e∈o.after.toList,Region.binds .any e=true→A e.on) (hn:∀ i,A i→i<ops.size)
  {i:Nat} {o:Oper} (ho:ops[i]? = some o) (hi:∀ e∈o.after.toList,Region.binds .any e=true→A e.on) (j:Nat) (hj:(nth 0 (Es ops.toList []) i).testBit j=true):A j:=by
 have ho':ops.toList[i]? = some o:=by simpa using ho
 obtain ⟨e,h1,h2,h3⟩:=HR j ops.toList [] i o ho' (by simpa using hj)
 rcases h3 with h3 | h3
 ·rw [← h3];exact hi e h1 h2
 ·exact HY hE hA hn e.on (hi e h1 h2) j h3
section
variable {P:Program} {E:Cq} {s:St} {W:Wd} {a:Act} {cx:Cx} {g:Rg} {bs:List Nat} {Q:Exit→Act→World→Prop}
theorem I1 {tm:Array Value} (h:AW E s tm W) {ops:Array Oper} {o:Oper} {b:Bool} (hg:Bt ops o s b):Region.wanted o (yielded ops tm)=b:=by
 unfold Bt at hg
 unfold Region.wanted
 cases hq:o.guard with
 | none=>rw [hq] at hg;exact hg.symm
 | some p =>
  obtain ⟨j,want⟩:=p
  rw [hq] at hg
  dsimp only at hg ⊢
  obtain ⟨t,ht,hs⟩:=hg
  have hsl:=h.AP t
  unfold yielded
  rw [ht]
  dsimp only [Option.bind_some]
  rcases hs with ⟨hs,rfl⟩ | ⟨c,hs,rfl⟩
  ·rw [hs] at hsl
   have hsl:tm.getD t Go.undef=Go.undef:=hsl
   cases hx:tm[t]? with
   | none=>rfl
   | some x =>
    have:x=Go.undef:=by rw [← hsl];simp [Array.getD_eq_getD_getElem?,hx]
    subst this;rfl
  ·rw [hs] at hsl
   have hsl:tm.getD t Go.undef = .bool c:=hsl.1
   cases hx:tm[t]? with
   | none=>rw [Array.getD_eq_getD_getElem?,hx] at hsl;cases hsl
   | some x =>
    have:x = .bool c:=by rw [← hsl];simp [Array.getD_eq_getD_getElem?,hx]
    subst this
    cases c <;> cases want <;> rfl
theorem Kp (hc:Dg P cx) (henv:DD P E cx.env) (h:AW E s a.tmps W) {i:Nat} {o:Oper} {ws:List Wr} (hv:Ae s (g.v0+i)) (hd:∀ d,o.dst=some d→d<a.tmps.size) (hdoes:K5 cx g bs i o s ws)
  {K:Act→World→Prop} (hK:∀ a' W',a'.defers=a.defers→AW E (s.app ws) a'.tmps W'→K a' W'.w) (ho:g.ops[i]? = some o):wpOp P g.ops Q i K a W.w:=by
 unfold wpOp
 rw [ho]
 dsimp only
 rcases hdoes with ⟨hg,hl,_⟩ | ⟨hg,rfl⟩
 ·rw [I1 h hg,if_pos rfl]
  exact .inl (MY hc henv h hv hd hl K Q fun a' W' h1 h2=>hK a' W' h1 h2)
 ·rw [I1 h hg,if_neg (by simp)]
  cases hds:o.dst with
  | none=>exact hK a W rfl (by simp only [Cp,hds];exact h)
  | some d =>
   refine hK _ W rfl ?_
   simp only [Cp,hds]
   exact h.slot d (show BY s W (one .undef) Go.undef from rfl)
def pA (v0:Nat) (A:Nat→Prop) (n:Nat):Prop:=n<v0∨∃ j,A j∧n=v0+j
theorem IZ {i:Nat} {o:Oper} {ws:List Wr} (hdoes:K5 cx g bs i o s ws) {A:Nat→Prop} (hA:∀ j,(nth 0 bs i).testBit j=true→A j):∀ w∈ws,∀ n∈w.AH,pA g.v0 (fun j=>A j∨j=i) n:=by
 intro w hw n hn
 rcases hdoes with ⟨_,_,hok⟩ | ⟨_,rfl⟩
 ·have h1:=List.all_eq_true.1 hok w hw
  rw [Bool.and_eq_true] at h1
  have h2:=List.all_eq_true.1 h1.2 n hn
  simp only [Bool.or_eq_true,decide_eq_true_eq,beq_iff_eq,Bool.and_eq_true] at h2
  rcases h2 with (h2 | h2) | ⟨h2,h3⟩
  ·exact .inl h2
  ·exact .inr ⟨i, .inr rfl,h2⟩
  ·exact .inr ⟨n - g.v0, .inl (hA _ h3),by omega⟩
 ·cases hds:o.dst with
  | none=>rw [hds] at hw;cases hw
  | some d =>
   rw [hds] at hw
   have:w = .slot d (one .undef):=by simpa [Cp] using hw
   subst this
   simp [Wr.AH,one,AV.AH,LA.AH] at hn
theorem Mk (hc:Dg P cx) (henv:DD P E cx.env) (h1:1<g.v0) (hb:∀ i j,i<g.ops.size→(nth 0 bs i).testBit j=true→j<i):∀ (r:List Oper) (i:Nat) (lg:List (Nat×Nat)) (s:St) (tr:List (Nat×List Wr)) (a:Act) (W:Wd),Trace cx g bs i r lg s tr →
  (∀ (k:Nat) (o:Oper),r[k]? = some o→g.ops[i+k]? = some o)→AW E s a.tmps W→BU s (pA g.v0 (· < i))→(∀ o∈r,∀ d,o.dst=some d→d<s.sl.length) →
  (∀ a' W',a'.defers=a.defers→AW E (AL (fun _=>true) i tr s) a'.tmps W'→BU (AL (fun _=>true) i tr s) (pA g.v0 (· < i+r.length))→Q .normal a' W'.w)→wpOps P g.ops Q (List.range' i r.length) a W.w
 | [],i,lg,s,[],a,W,ht,hr,hrep,hver,hd,hK=>hK a W rfl hrep hver
 | [],i,lg,s,_::_,a,W,ht,hr,hrep,hver,hd,hK=>ht.elim
 | _::_,i,lg,s,[],a,W,ht,hr,hrep,hver,hd,hK=>ht.elim
 | o::r,i,lg,s,(rm,ws)::tr,a,W,ht,hr,hrep,hver,hd,hK=>by
  obtain ⟨hrm,_,hdoes,ht⟩:=ht
  have ho:g.ops[i]? = some o:=by have:=hr 0 o rfl;simpa using this
  have hlt:i<g.ops.size:=(Array.getElem?_eq_some_iff.1 ho).1
  rw [List.length_cons,List.range'_succ,wpOps_cons]
  have hnv:Ae s (g.v0+i):=hver.Hy (by rintro (hh | ⟨j,hj,e⟩) <;> omega) (by omega)
  refine Kp hc henv hrep hnv (fun d hds=>by rw [← hrep.DB];exact hd o (by simp) d hds) hdoes (fun a' W' hdef hrep' => ?_) ho
  refine Mk hc henv h1 hb r (i+1) _ _ tr a' W' ht (fun k o hk=>by rw [show i+1+k=i+(k+1) by omega];exact hr (k+1) o (by simpa using hk)) hrep' ?_ ?_ ?_
  ·refine (hver.mono ?_).app (fun w hw n hn => ?_)
   ·rintro n (hn | ⟨j,hj,e⟩)
    ·exact .inl hn
    ·exact .inr ⟨j,by omega,e⟩
   ·rcases IZ hdoes (A:=(· < i)) (fun j hj=>hb i j hlt hj) w hw n hn with hn | ⟨j,hj,e⟩
    ·exact .inl hn
    ·exact .inr ⟨j,by omega,e⟩
  ·intro o' ho' d hds
   rw [(CB ws s).1];exact hd o' (List.mem_cons_of_mem _ ho') d hds
  ·intro a2 W2 hdef2 hrep2 hver2
   refine hK a2 W2 (hdef2.trans hdef) hrep2 (hver2.mono ?_)
   rintro n (hn | ⟨j,hj,e⟩)
   ·exact .inl hn
   ·exact .inr ⟨j,by simp;omega,e⟩
end
end Go.Ev
namespace Go.Ev
set_option linter.unusedVariables false
set_option linter.unusedSimpArgs false
theorem F7 (b rm wm:Nat):∀ (lg:List (Nat×Nat)) (j:Nat),indep b rm wm j lg=true→∀ (k:Nat) (r w:Nat),lg[k]? = some (r,w)→b.testBit (j+k)=true∨(CE w (Nat.lor rm wm)∧CE r wm)
 | [],j,h,k,r,w,hk=>by simp at hk
 | (r0,w0)::lg,j,h,k,r,w,hk=>by
  simp only [indep,Bool.and_eq_true,Bool.or_eq_true] at h
  cases k with
  | zero =>
   simp at hk;obtain ⟨rfl,rfl⟩:=hk
   exact h.1.imp id fun hh=>⟨HJ hh.1,HJ hh.2⟩
  | succ k =>
   have:=F7 b rm wm lg (j+1) h.2 k r w (by simpa using hk)
   rwa [show j+1+k=j+(k+1) by omega] at this
section
variable {cx:Cx} {g:Rg} {bs:List Nat}
theorem II:∀ (r:List Oper) (i:Nat) (lg:List (Nat×Nat)) (s:St) (tr:List (Nat×List Wr)),Trace cx g bs i r lg s tr→∀ (k:Nat) (o:Oper) (rm:Nat) (ws:List Wr),r[k]? = some o→tr[k]? = some (rm,ws) →
  rm=A8 g.ops o (AL (fun j=>decide (j<i+k)) i tr s)∧K5 cx g bs (i+k) o (AL (fun j=>decide (j<i+k)) i tr s) ws∧(g.draw=true→indep (nth 0 bs (i+k)) rm (AE ws) 0 (lg++(tr.take k).map fun x=>(x.1,AE x.2))=true)
 | [],i,lg,s,tr,ht,k,o,rm,ws,h1,h2=>by simp at h1
 | o0::r,i,lg,s,[],ht,k,o,rm,ws,h1,h2=>by simp at h2
 | o0::r,i,lg,s,(rm0,ws0)::tr,ht,k,o,rm,ws,h1,h2=>by
  obtain ⟨hrm,hin,hdoes,ht⟩:=ht
  have none:∀ (tr:List (Nat×List Wr)) (i j:Nat) (s:St),j≤i→AL (fun q=>decide (q<j)) i tr s=s:=by
   intro tr
   induction tr with
   | nil=>intro i j s h;rfl
   | cons x tr ih =>
    intro i j s h
    simp only [AL]
    rw [show decide (i<j)=false by simp;omega]
    exact ih (i+1) j s (by omega)
  cases k with
  | zero =>
   simp at h1 h2
   obtain ⟨rfl,rfl⟩:=h2
   subst h1
   rw [Nat.add_zero,none _ _ _ _ (Nat.le_refl _)]
   exact ⟨hrm,hdoes,fun hd=>by simpa using hin hd⟩
  | succ k =>
   obtain ⟨q1,q2,q3⟩:=II r (i+1) _ _ tr ht k o rm ws (by simpa using h1) (by simpa using h2)
   have e:AL (fun j=>decide (j<i+(k+1))) i ((rm0,ws0)::tr) s=AL (fun j=>decide (j<i+1+k)) (i+1) tr (s.app ws0):=by
    simp only [AL]
    rw [show decide (i<i+(k+1))=true from decide_eq_true (by omega),show i+(k+1)=i+1+k by omega]
    rfl
   rw [e,show i+(k+1)=i+1+k by omega]
   refine ⟨q1,q2,fun hd => ?_⟩
   have:=q3 hd
   simpa using this
theorem HN (A:Nat→Bool):∀ (tr:List (Nat×List Wr)) (i:Nat) (s:St),(AL A i tr s).sl.length=s.sl.length∧(AL A i tr s).ro.length=s.ro.length
 | [],i,s=>⟨rfl,rfl⟩
 | x::tr,i,s=>by
  simp only [AL]
  obtain ⟨h1,h2⟩:=HN A tr (i+1) (bif A i then s.app x.2 else s)
  cases hA:A i with
  | true=>rw [hA] at h1 h2;exact ⟨h1.trans (CB _ _).1,h2.trans (CB _ _).2⟩
  | false=>rw [hA] at h1 h2;exact ⟨h1,h2⟩
theorem GR {A B:Nat→Bool} {t:Nat}:∀ (tr:List (Nat×List Wr)) (i:Nat) (s s':St),s'.sl.length=s.sl.length→s'.slot t=s.slot t→(∀ k x,tr[k]? = some x→(AE x.2).testBit (2 * t)=true→B (i+k)=A (i+k)) →
  (AL B i tr s').slot t=(AL A i tr s).slot t
 | [],i,s,s',hl,h,hA=>h
 | x::tr,i,s,s',hl,h,hA=>by
  simp only [AL]
  refine GR tr (i+1) _ _ ?_ ?_ fun k y hk hy=>by rw [show i+1+k=i+(k+1) by omega];exact hA (k+1) y (by simpa using hk) hy
  ·cases A i <;> cases B i <;> simp [CB,hl]
  ·by_cases hm:(AE x.2).testBit (2 * t)=true
   ·have:=hA 0 x rfl hm
    rw [Nat.add_zero] at this
    rw [this]
    cases A i with
    | true=>exact E1 hl h
    | false=>exact h
   ·have hm:(AE x.2).testBit (2 * t)=false:=by simpa using hm
    have e1:∀ b:Bool,(bif b then s'.app x.2 else s').slot t=s'.slot t:=fun b=>by cases b;rfl;exact DV hm
    have e2:∀ b:Bool,(bif b then s.app x.2 else s).slot t=s.slot t:=fun b=>by cases b;rfl;exact DV hm
    rw [e1,e2];exact h
theorem GQ {A B:Nat→Bool} {t:Nat}:∀ (tr:List (Nat×List Wr)) (i:Nat) (s s':St),s'.ro.length=s.ro.length→s'.root t=s.root t→(∀ k x,tr[k]? = some x→(AE x.2).testBit (4 * t+3)=true→B (i+k)=A (i+k)) →
  (AL B i tr s').root t=(AL A i tr s).root t
 | [],i,s,s',hl,h,hA=>h
 | x::tr,i,s,s',hl,h,hA=>by
  simp only [AL]
  refine GQ tr (i+1) _ _ ?_ ?_ fun k y hk hy=>by rw [show i+1+k=i+(k+1) by omega];exact hA (k+1) y (by simpa using hk) hy
  ·cases A i <;> cases B i <;> simp [CB,hl]
  ·by_cases hm:(AE x.2).testBit (4 * t+3)=true
   ·have:=hA 0 x rfl hm
    rw [Nat.add_zero] at this
    rw [this]
    cases A i with
    | true=>exact E0 hl h
    | false=>exact h
   ·have hm:(AE x.2).testBit (4 * t+3)=false:=by simpa using hm
    have e1:∀ b:Bool,(bif b then s'.app x.2 else s').root t=s'.root t:=fun b=>by cases b;rfl;exact DU hm
    have e2:∀ b:Bool,(bif b then s.app x.2 else s).root t=s.root t:=fun b=>by cases b;rfl;exact DU hm
    rw [e1,e2];exact h
theorem LV (a:LA) (v:Nat):(a.Cd v).norm=a.norm:=by
 cases a with
 | arr AA gen t e xs d=>cases d <;> rfl
 | _=>rfl
theorem Hz (x:Bo) (j:Nat) (a:LA):({ x with ls:=CV x.ls j a }:Bo).norm={ x.norm with ls:=x.norm.ls.set j a.norm }:=by
 unfold Bo.norm
 simp only [Bk,List.map_set]
theorem GA (x:Bo) (j:Nat) (v:Nat):({ x with ls:=CV x.ls j ((nth .bad x.ls j).Cd v) }:Bo).norm=x.norm:=by
 rw [Hz]
 have:x.norm.ls.set j ((nth .bad x.ls j).Cd v).norm=x.norm.ls:=by
  rw [LV]
  apply List.ext_getElem?
  intro i
  rw [List.getElem?_set]
  by_cases e:j=i
  ·subst e
   rw [if_pos rfl]
   by_cases hl:j<x.norm.ls.length
   ·rw [if_pos hl]
    have hl2:j<x.ls.length:=by simpa [Bo.norm] using hl
    have hn:nth .bad x.ls j=x.ls[j]:=by
     have:∀ (l:List LA) (j:Nat) (h:j<l.length),nth .bad l j=l[j]:=by
      intro l
      induction l with
      | nil=>intro j h;simp at h
      | cons y l ih =>
       intro j h
       cases j with
       | zero=>rfl
       | succ j=>exact ih j (by simpa using h)
     exact this _ _ hl2
    rw [hn,List.getElem?_eq_getElem hl]
    simp [Bo.norm]
   ·rw [if_neg hl,List.getElem?_eq_none (by omega)]
  ·rw [if_neg e]
 rw [this]
theorem HK {s:St} {w:Wr} {r:Nat} (h:w.mask.testBit (4 * r+1)=false):((s.AG w).root r).norm=(s.root r).norm:=by
 cases w with
 | slot u a=>rfl
 | root q x =>
  simp only [Wr.mask,AK,Gr,EA,Bool.or_eq_false_iff,decide_eq_false_iff_not] at h
  rw [Av,if_neg (fun hh=>h.1 (by rw [hh.1]))]
 | leaf q j a =>
  simp only [Wr.mask,AK,Gr,EA,Bool.or_eq_false_iff,decide_eq_false_iff_not] at h
  have e:(s.AG (.leaf q j a)).root r=s.root r:=by
   show nth dead (CV s.ro q _) r=_
   rw [Ay,if_neg (fun hh=>h.1 (by rw [hh.1]))];rfl
  rw [e]
 | half q j v =>
  have e:(s.AG (.half q j v)).root r=if q=r∧q<s.ro.length then { s.root q with ls:=CV (s.root q).ls j ((s.leaf q j).Cd v) } else s.root r:=Ay _ _ _ _ _
  rw [e]
  split
  ·rename_i hq;obtain ⟨rfl,_⟩:=hq;exact GA _ _ _
  ·rfl
theorem DT {r:Nat}:∀ {ws:List Wr} {s:St},(AE ws).testBit (4 * r+1)=false→((s.app ws).root r).norm=(s.root r).norm
 | [],s,h=>rfl
 | w::ws,s,h=>by
  rw [BS,Bool.or_eq_false_iff] at h
  exact (DT h.2).trans (HK h.1)
theorem Ez {r:Nat}:∀ {ws:List Wr} {s s':St},s'.ro.length=s.ro.length→(s'.root r).norm=(s.root r).norm→((s'.app ws).root r).norm=((s.app ws).root r).norm
 | [],s,s',hl,h=>h
 | w::ws,s,s',hl,h=>by
  show (((s'.AG w).app ws).root r).norm=(((s.AG w).app ws).root r).norm
  refine Ez ((B5 s' w).2.trans (hl.trans (B5 s w).2.symm)) ?_
  cases w with
  | slot u a=>exact h
  | root q x =>
   rw [Av,Av,hl]
   split
   ·rfl
   ·exact h
  | leaf q j a =>
   have e:∀ s:St,(s.AG (.leaf q j a)).root r=if q=r∧q<s.ro.length then { s.root q with ls:=CV (s.root q).ls j a } else s.root r:=fun s=>Ay _ _ _ _ _
   rw [e,e,hl]
   split
   ·rename_i hq;obtain ⟨rfl,_⟩:=hq;rw [Hz,Hz,h]
   ·exact h
  | half q j v =>
   have e:∀ s:St,(s.AG (.half q j v)).root r=if q=r∧q<s.ro.length then { s.root q with ls:=CV (s.root q).ls j ((s.leaf q j).Cd v) } else s.root r:=fun s=>Ay _ _ _ _ _
   rw [e,e,hl]
   split
   ·rename_i hq;obtain ⟨rfl,_⟩:=hq
    exact (GA _ _ _).trans (h.trans (GA _ _ _).symm)
   ·exact h
theorem GO {A B:Nat→Bool} {t:Nat}:∀ (tr:List (Nat×List Wr)) (i:Nat) (s s':St),s'.ro.length=s.ro.length→(s'.root t).norm=(s.root t).norm→(∀ k x,tr[k]? = some x→(AE x.2).testBit (4 * t+1)=true→B (i+k)=A (i+k)) →
  ((AL B i tr s').root t).norm=((AL A i tr s).root t).norm
 | [],i,s,s',hl,h,hA=>h
 | x::tr,i,s,s',hl,h,hA=>by
  simp only [AL]
  refine GO tr (i+1) _ _ ?_ ?_ fun k y hk hy=>by rw [show i+1+k=i+(k+1) by omega];exact hA (k+1) y (by simpa using hk) hy
  ·cases A i <;> cases B i <;> simp [CB,hl]
  ·by_cases hm:(AE x.2).testBit (4 * t+1)=true
   ·have:=hA 0 x rfl hm
    rw [Nat.add_zero] at this
    rw [this]
    cases A i with
    | true=>exact Ez hl h
    | false=>exact h
   ·have hm:(AE x.2).testBit (4 * t+1)=false:=by simpa using hm
    have e1:∀ b:Bool,((bif b then s'.app x.2 else s').root t).norm=(s'.root t).norm:=fun b=>by cases b;rfl;exact DT hm
    have e2:∀ b:Bool,((bif b then s.app x.2 else s).root t).norm=(s.root t).norm:=fun b=>by cases b;rfl;exact DT hm
    rw [e1,e2];exact h
theorem GP {A:Nat→Bool} {ws:List Wr}:∀ (tr:List (Nat×List Wr)) (i:Nat) (s:St),(∀ k x,tr[k]? = some x→A (i+k)=true→CE (AE ws) (AE x.2))→AL A i tr (s.app ws)=(AL A i tr s).app ws
 | [],i,s,h=>rfl
 | x::tr,i,s,h=>by
  simp only [AL]
  have ih:∀ s,AL A (i+1) tr (s.app ws)=(AL A (i+1) tr s).app ws:=fun s=>GP tr (i+1) s fun k y hk hy=>h (k+1) y (by simpa using hk) (by rw [show i+(k+1)=i+1+k by omega];exact hy)
  cases hA:A i with
  | false=>exact ih s
  | true =>
   dsimp only [cond_true]
   rw [← ih,Jd (h 0 x rfl (by simpa using hA))]
theorem Dv {A B:Nat→Bool}:∀ (tr:List (Nat×List Wr)) (i:Nat) (s:St),(∀ k,k<tr.length→A (i+k)=B (i+k))→AL A i tr s=AL B i tr s
 | [],i,s,h=>rfl
 | x::tr,i,s,h=>by
  simp only [AL]
  have h0:=h 0 (by simp)
  rw [Nat.add_zero] at h0
  rw [h0]
  exact Dv tr (i+1) _ fun k hk=>by rw [show i+1+k=i+(k+1) by omega];exact h (k+1) (by simp;omega)
theorem GN {A B:Nat→Bool} {n:Nat} {rm:Nat} {ws:List Wr}:∀ (tr:List (Nat×List Wr)) (i:Nat) (s:St),tr[n]? = some (rm,ws)→A (i+n)=false→B (i+n)=true→(∀ k,k≠n→B (i+k)=A (i+k)) →
  (∀ k x,n<k→tr[k]? = some x→A (i+k)=true→CE (AE ws) (AE x.2))→AL B i tr s=(AL A i tr s).app ws
 | [],i,s,hn,hA,hB,hsame,hap=>by simp at hn
 | x::tr,i,s,hn,hA,hB,hsame,hap=>by
  simp only [AL]
  cases n with
  | zero =>
   simp at hn;subst hn
   rw [Nat.add_zero] at hA hB
   rw [hA,hB]
   dsimp only [cond_true,cond_false]
   rw [Dv (A:=B) (B:=A) tr (i+1) _ fun k hk=>by rw [show i+1+k=i+(k+1) by omega];exact hsame (k+1) (by omega)]
   exact GP tr (i+1) s fun k y hk hy=>hap (k+1) y (by omega) (by simpa using hk) (by rw [show i+(k+1)=i+1+k by omega];exact hy)
  | succ n =>
   have h0:=hsame 0 (by omega)
   rw [Nat.add_zero] at h0
   rw [h0]
   exact GN tr (i+1) _ (by simpa using hn) (by rw [show i+1+n=i+(n+1) by omega];exact hA) (by rw [show i+1+n=i+(n+1) by omega];exact hB)
    (fun k hk=>by rw [show i+1+k=i+(k+1) by omega];exact hsame (k+1) (by omega)) (fun k y hk hy hA=>hap (k+1) y (by omega) (by simpa using hy) (by rw [show i+(k+1)=i+1+k by omega];exact hA))
end
section
variable {P:Program} {E:Cq} {cx:Cx} {g:Rg} {Q:Exit→Act→World→Prop}
theorem Hn {ops:Array Oper} {o:Oper} {s s':St} {b:Bool} (h:∀ j want t,o.guard=some (j,want)→(ops[j]?).bind (·.dst)=some t→s'.slot t=s.slot t) (hg:Bt ops o s b):Bt ops o s' b:=by
 unfold Bt at hg ⊢
 cases hq:o.guard with
 | none=>rw [hq] at hg;exact hg
 | some p =>
  obtain ⟨j,want⟩:=p
  rw [hq] at hg
  dsimp only at hg ⊢
  obtain ⟨t,ht,hs⟩:=hg
  exact ⟨t,ht,by rw [h j want t hq ht];exact hs⟩
theorem Nk (hc:Dg P cx) (henv:DD P E cx.env) (h1:1<g.v0) (hE:D0 0 g.ops.toList=true) (hdraw:g.draw=true) {s:St} {tr:List (Nat×List Wr)} (ht:Trace cx g (Es g.ops.toList []) 0 g.ops.toList [] s tr) (hlen:tr.length=g.ops.size)
  (hver:BU s (· < g.v0)) (hd:∀ o∈g.ops.toList,∀ d,o.dst=some d→d<s.sl.length) {df:List Deferred}
  (hK:∀ a' W',a'.defers=df→AW E (AL (fun _=>true) 0 tr s) a'.tmps W'→BU (AL (fun _=>true) 0 tr s) (pA g.v0 (· < g.ops.size))→Q .normal a' W'.w) :
  ∀ (fuel:Nat) (listed:Array Bool) (a:Act) (W:Wd),listed.size=g.ops.size→listed.toList.count false=fuel→a.defers=df→AW E (AL (fun i=>listed.getD i false) 0 tr s) a.tmps W →
   BU (AL (fun i=>listed.getD i false) 0 tr s) (pA g.v0 fun i=>listed.getD i false=true) →
   (∀ i o,listed.getD i false=true→g.ops[i]? = some o→∀ e∈o.after.toList,Region.binds .any e=true→listed.getD e.on false=true)→wpAny P .any g.ops Q fuel listed a W.w:=by
 intro fuel
 have hall:∀ (listed:Array Bool),listed.size=g.ops.size→(∀ i,i<g.ops.size→listed.getD i false=true)→AL (fun i=>listed.getD i false) 0 tr s=AL (fun _=>true) 0 tr s:=fun listed hs h =>
  Dv tr 0 s fun k hk=>by rw [Nat.zero_add];exact h k (by omega)
 have hrdy:∀ (listed:Array Bool) (i:Nat),i∈Region.ready .any g.ops listed→listed.size=g.ops.size→i<g.ops.size∧listed.getD i false=false∧∃ o,g.ops[i]? = some o∧∀ e∈o.after.toList,Region.binds .any e=true→listed.getD e.on false=true:=by
  intro listed i hi hs
  obtain ⟨hi1,hi2⟩:=List.mem_filter.1 hi
  have hlt:i<g.ops.size:=List.mem_range.1 hi1
  rw [Bool.and_eq_true] at hi2
  refine ⟨hlt, ?_,g.ops[i],by simp [hlt], ?_⟩
  ·have h2:=hi2.1
   have hl:i<listed.size:=by omega
   simp only [Array.getD_eq_getD_getElem?,Array.getElem?_eq_getElem hl,Option.getD_some] at h2 ⊢
   simpa using h2
  ·intro e he hb
   have h2:=hi2.2
   rw [Array.getElem?_eq_getElem hlt] at h2
   simp only [Option.map_some,Option.getD_some] at h2
   have h3:=Array.all_eq_true'.1 h2 e (by simpa using he)
   rw [hb] at h3
   simpa using h3
 induction fuel with
 | zero =>
  intro listed a W hs hcount hdf hrep hv hcl
  have hno:∀ i,i<g.ops.size→listed.getD i false=true:=by
   intro i hi
   have hl:i<listed.size:=by omega
   have hne:false∉listed.toList:=List.count_eq_zero.1 hcount
   rw [Array.getD_eq_getD_getElem?,Array.getElem?_eq_getElem hl,Option.getD_some]
   cases hq:listed[i] with
   | true=>rfl
   | false=>exact absurd (by rw [← hq];exact Array.getElem_mem_toList hl) hne
  refine ⟨?_, ?_⟩
  ·rw [List.eq_nil_iff_forall_not_mem]
   intro i hi
   obtain ⟨q1,q2,_⟩:=hrdy listed i hi hs
   rw [hno i q1] at q2;cases q2
  ·rw [hall listed hs hno] at hrep hv
   refine hK a W hdf hrep (hv.mono ?_)
   rintro n (hn | ⟨j,hj,e⟩)
   ·exact .inl hn
   ·refine .inr ⟨j, ?_,e⟩
    rw [← hs]
    rcases Nat.lt_or_ge j listed.size with h | h
    ·exact h
    ·rw [Array.getD_eq_getD_getElem?,Array.getElem?_eq_none h] at hj;cases hj
 | succ fuel ih =>
  intro listed a W hs hcount hdf hrep hv hcl
  have hAn:∀ i,listed.getD i false=true→i<g.ops.size:=by
   intro i hi
   rw [← hs]
   rcases Nat.lt_or_ge i listed.size with h | h
   ·exact h
   ·rw [Array.getD_eq_getD_getElem?,Array.getElem?_eq_none h] at hi;cases hi
  refine ⟨fun hemp => ?_,fun i hi => ?_⟩
  ·exfalso
   have hex:∃ i,i<g.ops.size∧listed.getD i false=false:=by
    have:false∈listed.toList:=by
     refine Classical.byContradiction fun hn => ?_
     rw [List.count_eq_zero.2 hn] at hcount;cases hcount
    obtain ⟨i,hi,he⟩:=List.mem_iff_getElem.1 this
    have hi':i<listed.size:=by simpa using hi
    refine ⟨i,by omega, ?_⟩
    rw [Array.getD_eq_getD_getElem?,Array.getElem?_eq_getElem hi',Option.getD_some]
    simpa using he
   have hmin:∀ n i,i≤n→i<g.ops.size→listed.getD i false=false→∃ j,j∈Region.ready .any g.ops listed:=by
    intro n
    induction n using Nat.strongRecOn with
    | _ n ihn =>
     intro i hin hi hli
     by_cases hp:∀ e∈(g.ops[i]).after.toList,Region.binds .any e=true→listed.getD e.on false=true
     ·refine ⟨i,List.mem_filter.2 ⟨List.mem_range.2 hi, ?_⟩⟩
      have hl:i<listed.size:=by omega
      rw [Bool.and_eq_true]
      refine ⟨?_, ?_⟩
      ·simp only [Array.getD_eq_getD_getElem?,Array.getElem?_eq_getElem hl,Option.getD_some] at hli ⊢
       simp [hli]
      ·rw [Array.getElem?_eq_getElem hi]
       simp only [Option.map_some,Option.getD_some]
       refine Array.all_eq_true'.2 fun e he => ?_
       cases hb:Region.binds .any e with
       | false=>rfl
       | true=>simpa using hp e (by simpa using he) hb
     ·have:∃ e∈(g.ops[i]).after.toList,Region.binds .any e=true∧listed.getD e.on false=false:=by
       refine Classical.byContradiction fun hn=>hp fun e he hb => ?_
       cases hq:listed.getD e.on false with
       | true=>rfl
       | false=>exact absurd ⟨e,he,hb,hq⟩ hn
      obtain ⟨e,he,hb,hle⟩:=this
      have hon:=Cj g.ops.toList 0 hE i g.ops[i] (by simp [hi]) e he hb
      exact ihn e.on (by omega) e.on (Nat.le_refl _) (by omega) hle
   obtain ⟨i,hi,hli⟩:=hex
   obtain ⟨j,hj⟩:=hmin i i (Nat.le_refl _) hi hli
   rw [hemp] at hj;cases hj
  ·obtain ⟨hlt,hnl,o,ho,hpre⟩:=hrdy listed i hi hs
   have hol:g.ops.toList[i]? = some o:=by simpa using ho
   obtain ⟨⟨rm,ws⟩,htr⟩:∃ x,tr[i]? = some x:=⟨tr[i]'(by omega),List.getElem?_eq_getElem (by omega)⟩
   obtain ⟨t1,t2,t3⟩:=II g.ops.toList 0 [] s tr ht i o rm ws hol htr
   simp only [Nat.zero_add,List.nil_append] at t1 t2 t3
   have t3:=t3 hdraw
   have EA:∀ j,(nth 0 (Es g.ops.toList []) i).testBit j=true→listed.getD j false=true:=Iy hE hcl hAn ho hpre
   have hlater:∀ k x,i<k→tr[k]? = some x→listed.getD k false=true→CE (AE ws) (Nat.lor x.1 (AE x.2))∧CE rm (AE x.2):=by
    intro k x hk hx hlk
    obtain ⟨ok,hok⟩:∃ o,g.ops.toList[k]? = some o:=⟨_,List.getElem?_eq_getElem (by have:=hAn k hlk;simpa using this)⟩
    obtain ⟨rmk,wsk⟩:=x
    obtain ⟨_,_,k3⟩:=II g.ops.toList 0 [] s tr ht k ok rmk wsk hok hx
    simp only [Nat.zero_add,List.nil_append] at k3
    have:=F7 _ _ _ _ 0 (k3 hdraw) i rm (AE ws) (by rw [List.getElem?_map,List.getElem?_take_of_lt hk,htr];rfl)
    rw [Nat.zero_add] at this
    refine this.resolve_left fun hb => ?_
    have:=HY hE (A:=fun i=>listed.getD i false=true) hcl hAn k hlk i hb
    rw [hnl] at this;cases this
   have hearly:∀ k x,k<i→tr[k]? = some x→listed.getD k false=false→CE (AE x.2) (Nat.lor rm (AE ws)):=by
    intro k x hk hx hlk
    have:=F7 _ _ _ _ 0 t3 k x.1 (AE x.2) (by rw [List.getElem?_map,List.getElem?_take_of_lt hk,hx];rfl)
    rw [Nat.zero_add] at this
    rcases this with hb | hb
    ·rw [EA k hb] at hlk;cases hlk
    ·exact hb.1
   have hag:NZ rm (AL (fun j=>decide (j<i)) 0 tr s) (AL (fun i=>listed.getD i false) 0 tr s):=by
    have key:∀ (b:Nat),rm.testBit b=true→∀ k x,tr[k]? = some x→(AE x.2).testBit b=true→listed.getD (0+k) false=decide (0+k<i):=by
     intro b hb k x hx hw
     rw [Nat.zero_add]
     rcases Nat.lt_trichotomy k i with hk | hk | hk
     ·cases hl:listed.getD k false with
      | true=>simp [hk]
      | false =>
       have:=hearly k x hk hx hl b hw
       rw [AK,hb] at this;simp at this
     ·subst hk;rw [hnl];simp
     ·cases hl:listed.getD k false with
      | false=>simp;omega
      | true =>
       have:=(hlater k x hk hx hl).2 b hb
       rw [hw] at this;cases this
    exact ⟨fun t hb=>GR tr 0 s s rfl rfl fun k x hx hw=>key _ hb k x hx hw,fun t _ hb=>GQ tr 0 s s rfl rfl fun k x hx hw=>key _ hb k x hx hw,fun t hb=>GO tr 0 s s rfl rfl fun k x hx hw=>key _ hb k x hx hw⟩
   have hfoot:=NC (cx:=cx) (v:=g.v0+i) (ops:=g.ops) (o:=o) (s:=AL (fun j=>decide (j<i)) 0 tr s) (s':=AL (fun i=>listed.getD i false) 0 tr s) (by rw [← t1];exact hag)
   have hdoes:K5 cx g (Es g.ops.toList []) i o (AL (fun i=>listed.getD i false) 0 tr s) ws:=by
    rcases t2 with ⟨g1,g2,g3⟩ | ⟨g1,g2⟩
    ·exact .inl ⟨Hn hfoot.2 g1,by rw [hfoot.1];exact g2,g3⟩
    ·exact .inr ⟨Hn hfoot.2 g1,g2⟩
   have hnv:Ae (AL (fun i=>listed.getD i false) 0 tr s) (g.v0+i):=hv.Hy (by
    rintro (hh | ⟨j,hj,e⟩)
    ·omega
    ·have:j=i:=by omega
     subst this;rw [hnl] at hj;cases hj) (by omega)
   have hset:∀ k,(listed.setIfInBounds i true).getD k false=(if i=k then true else listed.getD k false):=by
    intro k
    simp only [Array.getD_eq_getD_getElem?,Array.getElem?_setIfInBounds]
    by_cases hk:i=k
    ·subst hk;simp [show i<listed.size by omega]
    ·simp [hk]
   have hmore:AL (fun k=>(listed.setIfInBounds i true).getD k false) 0 tr s=(AL (fun i=>listed.getD i false) 0 tr s).app ws:=by
    refine GN tr 0 s htr (by rw [Nat.zero_add];exact hnl) (by rw [Nat.zero_add,hset];simp) (fun k hk=>by rw [Nat.zero_add,hset,if_neg (fun e=>hk e.symm)]) fun k x hk hx hl => ?_
    rw [Nat.zero_add] at hl
    intro b hb
    have:=(hlater k x hk hx hl).1 b hb
    rw [AK,Bool.or_eq_false_iff] at this
    exact this.2
   refine Kp hc henv hrep hnv (fun d hds=>by rw [← hrep.DB,(HN _ tr 0 s).1];exact hd o (List.mem_of_getElem? hol) d hds) hdoes (fun a' W' hdef hrep' => ?_) ho
   refine ih (listed.setIfInBounds i true) a' W' (by simp [hs]) ?_ (hdef.trans hdf) (by rw [hmore];exact hrep') ?_ ?_
   ·have hi':i<listed.toList.length:=by simp;omega
    have hfalse:listed.toList[i]=false:=by
     have hl:i<listed.size:=by omega
     rw [Array.getD_eq_getD_getElem?,Array.getElem?_eq_getElem hl,Option.getD_some] at hnl
     simpa using hnl
    rw [Array.toList_setIfInBounds,List.count_set hi',hfalse,hcount]
    simp
   ·rw [hmore]
    refine (hv.mono ?_).app (fun w hw n hn => ?_)
    ·rintro n (hn | ⟨j,hj,e⟩)
     ·exact .inl hn
     ·exact .inr ⟨j,by show (listed.setIfInBounds i true).getD j false=true;rw [hset];split;rfl;exact hj,e⟩
    ·rcases IZ hdoes (A:=fun j=>listed.getD j false=true) EA w hw n hn with hn | ⟨j,hj,e⟩
     ·exact .inl hn
     ·refine .inr ⟨j, ?_,e⟩
      show (listed.setIfInBounds i true).getD j false=true
      rw [hset]
      rcases hj with hj | hj
      ·split
       ·rfl
       ·exact hj
      ·rw [if_pos hj.symm]
   ·intro k o' hk ho' e he hb
    rw [hset] at hk ⊢
    split
    ·rfl
    ·by_cases hki:i=k
     ·subst hki
      rw [ho] at ho';injection ho' with ho';subst ho'
      exact hpre e he hb
     ·rw [if_neg hki] at hk
      exact hcl k o' hk ho' e he hb
end
end Go.Ev
namespace Go.Ev
set_option linter.unusedVariables false
set_option linter.unusedSimpArgs false
def Hb (cx:Cx) (a:LA):Prop:=match a with
 | .ref c=>cx.lock c.r=false
 | .D7 c _ _=>cx.lock c.r=false
 | .Bm c=>cx.lock c.r=false
 | .ptr r _ _=>cx.E6 r=false
 | .JB _ c=>cx.lock c.r=false
 | .EB _ ps _=>∃ p∈ps,cx.E6 p.1=false
 | _=>False
def E9 (cx:Cx) (a a':LA):Prop:=a'=a∨(a' = .bad∧Hb cx a)
inductive Cz (cx:Cx):AV→AV→Prop
 | same (v):Cz cx v v
 | v (g as as') (h:as'.length=as.length) (hl:∀ (j:Nat) (a:LA),as[j]? = some a→∃ a',as'[j]? = some a'∧E9 cx a a'):Cz cx (.v g as) (.v g as')
 | De (vs):Cz cx (.De vs) (one .bad)
 | bx (as):Cz cx (.bx as) (one .bad)
theorem E9.trans {cx:Cx} {a b c:LA} (h1:E9 cx a b) (h2:E9 cx b c):E9 cx a c:=by
 rcases h1 with rfl | ⟨rfl,hd⟩
 ·exact h2
 ·rcases h2 with rfl | ⟨rfl,_⟩ <;> exact .inr ⟨rfl,hd⟩
theorem Cz.trans {cx:Cx} {a b c:AV} (h1:Cz cx a b) (h2:Cz cx b c):Cz cx a c:=by
 cases h1 with
 | same=>exact h2
 | v g as as' h hl =>
  cases h2 with
  | same=>exact .v g as as' h hl
  | v _ _ as2 h' hl' =>
   refine .v g as as2 (h'.trans h) fun j a hj => ?_
   obtain ⟨a',h3,h4⟩:=hl j a hj
   obtain ⟨a2,h5,h6⟩:=hl' j a' h3
   exact ⟨a2,h5,h4.trans h6⟩
 | De vs =>
  cases h2 with
  | same=>exact .De vs
  | v _ _ as2 h' hl' =>
   obtain ⟨a2,h5,h6⟩:=hl' 0 .bad rfl
   have:as2=[.bad]:=by
    match as2,h' with
    | [x],_ =>
     simp at h5;subst h5
     rcases h6 with rfl | ⟨rfl,_⟩ <;> rfl
   subst this
   exact .De vs
 | bx as =>
  cases h2 with
  | same=>exact .bx as
  | v _ _ as2 h' hl' =>
   obtain ⟨a2,h5,h6⟩:=hl' 0 .bad rfl
   have:as2=[.bad]:=by
    match as2,h' with
    | [x],_ =>
     simp at h5;subst h5
     rcases h6 with rfl | ⟨rfl,_⟩ <;> rfl
   subst this
   exact .bx as
structure Ar (cx:Cx) (s s':St):Prop where
 AP:∀ t,cx.E6 t=true→Cz cx (s.slot t) (s'.slot t)
 roots:∀ r,cx.lock r=true→s'.root r=s.root r
 box:∀ r,cx.E6 r=true→(s'.root r).box=(s.root r).box∧(s'.root r).AA=(s.root r).AA∧(s'.root r).ls.length=(s.root r).ls.length
 l1:s'.sl.length=s.sl.length
 l2:s'.ro.length=s.ro.length
 Bv:s.Bv≤s'.Bv
theorem Ar.refl (cx:Cx) (s:St):Ar cx s s:=⟨fun t _ => .same _,fun _ _=>rfl,fun _ _=>⟨rfl,rfl,rfl⟩,rfl,rfl,Nat.le_refl _⟩
theorem Ar.trans {cx:Cx} {s s1 s2:St} (h1:Ar cx s s1) (h2:Ar cx s1 s2):Ar cx s s2 where
 AP t ht:=(h1.AP t ht).trans (h2.AP t ht)
 roots r hr:=(h2.roots r hr).trans (h1.roots r hr)
 box r hr:=let ⟨a,b,c⟩:=h1.box r hr;let ⟨a',b',c'⟩:=h2.box r hr;⟨a'.trans a,b'.trans b,c'.trans c⟩
 l1:=h2.l1.trans h1.l1
 l2:=h2.l2.trans h1.l2
 Bv:=Nat.le_trans h1.Bv h2.Bv
def Bg (s:St):Prop:=∀ r,∀ a∈(s.root r).ls,a.Ca=true
structure Inv (N:Nat) (s:St):Prop where
 AH:BU s (· < s.Bv)
 two:2≤s.Bv
 len:s.sl.length=N
 Bx:s.ro.length=N
 Lc:Bg s
theorem KU {cx:Cx} {s:St} {dst:Option Nat} {w:Wr} (hd:∀ d,dst=some d→cx.E6 d=false) (hw:w.ok cx dst=true):Ar cx s (s.AG w) where
 AP t ht:=by
  cases w with
  | slot u a =>
   rw [BR,if_neg]
   ·exact .same _
   ·rintro ⟨rfl,_⟩
    simp only [Wr.ok] at hw
    cases hq:dst with
    | none=>rw [hq] at hw;cases hw
    | some d =>
     rw [hq] at hw
     have:u=d:=by simpa using hw
     subst this
     rw [hd u hq] at ht;cases ht
  | root r x=>exact .same _
  | leaf r j a=>exact .same _
  | half r j v=>exact .same _
 roots r hr:=by
  cases w with
  | slot u a=>rfl
  | root q x =>
   simp only [Wr.ok,Bool.and_eq_true,Bool.not_eq_true'] at hw
   rw [Av,if_neg]
   rintro ⟨rfl,_⟩
   rw [hr] at hw;exact absurd hw.1.1 (by simp)
  | leaf q j a =>
   simp only [Wr.ok,Bool.and_eq_true,Bool.not_eq_true'] at hw
   have hne:q≠r:=fun e=>by subst e;rw [hr] at hw;exact absurd hw.1 (by simp)
   refine Bd ?_
   simp only [Wr.mask,AK,Gr,EA,Bool.or_eq_false_iff,decide_eq_false_iff_not]
   omega
  | half q j v =>
   simp only [Wr.ok,Bool.not_eq_true'] at hw
   have hne:q≠r:=fun e=>by subst e;rw [hr] at hw;cases hw
   refine Bd ?_
   simp only [Wr.mask,EA,decide_eq_false_iff_not]
   omega
 box r hr:=by
  cases w with
  | slot u a=>exact ⟨rfl,rfl,rfl⟩
  | root q x =>
   simp only [Wr.ok,Bool.and_eq_true] at hw
   rw [Av,if_neg]
   ·exact ⟨rfl,rfl,rfl⟩
   ·rintro ⟨rfl,_⟩
    cases hq:dst with
    | none=>rw [hq] at hw;exact absurd hw.2 (by simp)
    | some d =>
     rw [hq] at hw
     have:q=d:=by simpa using hw.2
     subst this
     rw [hd q hq] at hr;cases hr
  | leaf q j a=>exact (BH s q j a).box r
  | half q j v=>exact (BH s q j _).box r
 l1:=(B5 s w).1
 l2:=(B5 s w).2
 Bv:=by cases w <;> exact Nat.le_refl _
theorem Ik {cx:Cx} {dst:Option Nat} (hd:∀ d,dst=some d→cx.E6 d=false):∀ {ws:List Wr} {s:St},(∀ w∈ws,w.ok cx dst=true)→Ar cx s (s.app ws)
 | [],s,h=>Ar.refl cx s
 | w::ws,s,h=>(KU hd (h w (by simp))).trans (Ik (ws:=ws) (s:=s.AG w) hd fun x hx=>h x (List.mem_cons_of_mem _ hx))
theorem Mg {cx:Cx} {s:St} {dst:Option Nat} {w:Wr} (h:Bg s) (hw:w.ok cx dst=true):Bg (s.AG w):=by
 intro r a ha
 cases w with
 | slot u b=>exact h r a ha
 | root q x =>
  simp only [Wr.ok,Bool.and_eq_true] at hw
  rw [Av] at ha
  split at ha
  ·exact List.all_eq_true.1 hw.1.2 a ha
  ·exact h r a ha
 | leaf q j b =>
  simp only [Wr.ok,Bool.and_eq_true] at hw
  have hroot:(s.AG (.leaf q j b)).root r=if q=r∧q<s.ro.length then { s.root q with ls:=CV (s.root q).ls j b } else s.root r:=Ay _ _ _ _ _
  rw [hroot] at ha
  split at ha
  ·have ha:a∈CV (s.root q).ls j b:=ha
   rw [Bk] at ha
   rcases List.mem_or_eq_of_mem_set ha with ha | ha
   ·exact h q a ha
   ·rw [ha];exact hw.2
  ·exact h r a ha
 | half q j v =>
  have hroot:(s.AG (.half q j v)).root r=if q=r∧q<s.ro.length then { s.root q with ls:=CV (s.root q).ls j ((s.leaf q j).Cd v) } else s.root r:=Ay _ _ _ _ _
  rw [hroot] at ha
  split at ha
  ·have ha:a∈CV (s.root q).ls j ((s.leaf q j).Cd v):=ha
   by_cases hj:j<(s.root q).ls.length
   ·rw [Bk] at ha
    rcases List.mem_or_eq_of_mem_set ha with ha | ha
    ·exact h q a ha
    ·have hb:(s.leaf q j).Ca=true:=h q _ (G0 hj)
     rw [ha]
     cases hl:s.leaf q j with
     | arr AA gen t e xs d=>cases d <;> rfl
     | _=>rw [hl] at hb;exact hb
   ·rw [Bk,List.set_eq_of_length_le (by omega)] at ha
    exact h q a ha
  ·exact h r a ha
theorem Kw {cx:Cx} {dst:Option Nat}:∀ {ws:List Wr} {s:St},Bg s→(∀ w∈ws,w.ok cx dst=true)→Bg (s.app ws)
 | [],s,h,hw=>h
 | w::ws,s,h,hw=>Kw (ws:=ws) (s:=s.AG w) (Mg h (hw w (by simp))) fun x hx=>hw x (List.mem_cons_of_mem _ hx)
theorem NA {cx:Cx} {g:Rg} {bs:List Nat} {i:Nat} {o:Oper} {s:St} {ws:List Wr} (h:K5 cx g bs i o s ws):∀ w∈ws,w.ok cx o.dst=true:=by
 intro w hw
 rcases h with ⟨_,_,h⟩ | ⟨_,rfl⟩
 ·have:=List.all_eq_true.1 h w hw
  rw [Bool.and_eq_true] at this;exact this.1
 ·cases hd:o.dst with
  | none=>rw [hd] at hw;cases hw
  | some d =>
   rw [hd] at hw
   have:w = .slot d (one .undef):=by simpa [Cp] using hw
   subst this;simp [Wr.ok]
theorem Ga {cx:Cx} {g:Rg} {bs:List Nat}:∀ (r:List Oper) (i:Nat) (lg:List (Nat×Nat)) (s:St) (tr:List (Nat×List Wr)),Trace cx g bs i r lg s tr→(∀ o∈r,∀ d,o.dst=some d→cx.E6 d=false)→Bg s →
  Ar cx s (AL (fun _=>true) i tr s)∧Bg (AL (fun _=>true) i tr s)
 | [],i,lg,s,[],ht,hd,hr=>⟨Ar.refl cx s,hr⟩
 | [],i,lg,s,_::_,ht,hd,hr=>ht.elim
 | _::_,i,lg,s,[],ht,hd,hr=>ht.elim
 | o::r,i,lg,s,(rm,ws)::tr,ht,hd,hr=>by
  obtain ⟨_,_,hdoes,ht⟩:=ht
  have hok:=NA hdoes
  obtain ⟨h1,h2⟩:=Ga r (i+1) _ (s.app ws) tr ht (fun o ho=>hd o (List.mem_cons_of_mem _ ho)) (Kw hr hok)
  exact ⟨(Ik (hd o (by simp)) hok).trans h1,h2⟩
end Go.Ev
namespace Go.Ev
set_option linter.unusedVariables false
set_option linter.unusedSimpArgs false
section
variable {E:Cq} {s:St} {W:Wd} {tm:Array Value} {β:Type} {t:β}
theorem N2 {a:AV} {v:Value} (h:BY s W a v):AR s W a.one? v:=by
 cases a with
 | De vs=>trivial
 | bx as=>trivial
 | v g as =>
  cases g with
  | true=>trivial
  | false=>cases as with
   | nil=>trivial
   | cons b bs=>cases bs with
    | nil=>exact h
    | cons=>trivial
theorem GX (h:AW E s tm W) {r j AA gen:Nat} {t0:TypeId} {e:Ls} {xs:List e.D} (hl:s.leaf r j = .arr AA gen t0 e xs 0):W.om (.lf r j)=[]:=by
 obtain ⟨u,_,hr⟩:=(h.roots r).row hl
 exact AD.zero hr
theorem KG (h:AW E s tm W) {l:L} {la:LA} {v:Value} (hv:AR s W la v) (hs:s.still l la=true) {k:l.D→Step β} (hl:(s.Aw l la k).leads t):∃ x,(k x).leads t∧l.rd 0 W.w W.fz v x []:=by
 cases l with
 | int kk=>obtain ⟨x,hl,hr⟩:=Bl h hv hl;exact ⟨x,hl,(L.AZ _ rfl hr).1⟩
 | bool=>obtain ⟨x,hl,hr⟩:=Bl h hv hl;exact ⟨x,hl,(L.AZ _ rfl hr).1⟩
 | str=>obtain ⟨x,hl,hr⟩:=Bl h hv hl;exact ⟨x,hl,(L.AZ _ rfl hr).1⟩
 | sl t0 e =>
  unfold St.Aw at hl
  cases la with
  | sc m x =>
   simp only at hl
   split at hl
   ·rename_i y hy
    obtain ⟨q1,q2⟩:=L.AI hy
    subst q1
    have q2:x=y:=q2
    subst q2
    exact ⟨x,hl,hv⟩
   ·exact hl.elim
  | DC=>exact ⟨_,hl,by rw [show v = .slice none 0 0 from hv];exact Bz⟩
  | ref c =>
   simp only [St.still] at hs
   split at hs
   ·rename_i AA gen t1 e1 xs hq
    obtain ⟨t',e',ys,d',o',hl,hr,ho⟩:=DG h hv hl
    split at hl
    ·rename_i y hy
     obtain ⟨q1,q2⟩:=L.AI hy
     cases q1
     have q2:ys=y:=q2
     subst q2
     exact ⟨ys,hl,hr.freeze fun b hb=>hb.elim id fun hb=>by have:=ho b hb;rw [GX h hq] at this;cases this⟩
    ·exact hl.elim
   ·cases hs
  | D7 c lo hi =>
   simp only [St.still] at hs
   split at hs
   ·rename_i AA gen t1 e1 xs hq
    obtain ⟨t',e',ys,d',o',hl,hr,ho⟩:=EN h hv hl
    split at hl
    ·rename_i y hy
     obtain ⟨q1,q2⟩:=L.AI hy
     cases q1
     have q2:sub ys lo hi=y:=q2
     subst q2
     exact ⟨_,hl,hr.freeze fun b hb=>hb.elim id fun hb=>by have:=ho b hb;rw [GX h hq] at this;cases this⟩
    ·exact hl.elim
   ·cases hs
  | _=>exact hl.elim
def Told (s:St) (W:Wd) (tm:Array Value) (fz:Nat→Prop) (p:VP) (vs:List Lv):Prop:=match p with
 | .slot t l=>t<s.sl.length∧∃ x,vs=[⟨l,x⟩]∧l.rd 0 W.w W.fz (tm.getD t Go.undef) x []
 | .own t ty e d k=>t<s.sl.length∧∃ xs:List e.D,vs=[⟨.sl ty e,xs⟩]∧(s.root t).box=false∧W.cv t 0=some (tm.getD t Go.undef)∧AD e d W.w W.fz (tm.getD t Go.undef) xs (W.om (.lf t 0))∧(k=true→∃ gen t' e' xs' d',s.leaf t 0 = .arr 1 gen t' e' xs' d')
 | .box r ls=>(s.root r).box=true∧ls.length=(s.root r).ls.length∧vs.length=(ls.filterMap id).length∧∀ (v j:Nat) (y:Value),W.cv r j=some y→match nth .bad (AQ v ls vs) j with
  | .arr AA gen t e xs d=>AA=v∧gen=v∧AD e d W.w W.fz y xs (W.om (.lf r j))
  | .sc l x=>l.rd 0 W.w fz y x []
  | .bad=>True
  | _=>False
theorem H3 (h:AW E s tm W) {fz:Nat→Prop} (r:Nat) (hfz:∀ b,W.fz b→fz b):∀ (ls:List (Option (L×Nat))) (as:List LA) (j:Nat) {k:List Lv→Step β},(∀ i b,as[i]? = some b→s.leaf r (j+i)=b)→(∀ a∈as,a.Ca=true) →
  (∀ (i:Nat) (l:L),ls[i]? = some (some (l,0))→∀ b∈W.om (.lf r (j+i)),fz b)→(Dm s ls as k).leads t →
  ∃ vs,(k vs).leads t∧ls.length=as.length∧vs.length=(ls.filterMap id).length∧∀ (v i:Nat) (y:Value),W.cv r (j+i)=some y→match nth .bad (AQ v ls vs) i with
   | .arr AA gen t e xs d=>AA=v∧gen=v∧AD e d W.w W.fz y xs (W.om (.lf r (j+i)))
   | .sc l x=>l.rd 0 W.w fz y x []
   | .bad=>True
   | _=>False
 | [],[],j,k,hg,hin,hz,hl=>⟨[],hl,rfl,rfl,fun v i y hy=>by simp [AQ,nth]⟩
 | [],_::_,j,k,hg,hin,hz,hl=>hl.elim
 | none::ls,[],j,k,hg,hin,hz,hl=>hl.elim
 | some _::ls,[],j,k,hg,hin,hz,hl=>hl.elim
 | none::ls,a::as,j,k,hg,hin,hz,hl=>by
  simp only [Dm] at hl
  obtain ⟨vs,hl,h1,h2,h3⟩:=H3 h r hfz ls as (j+1) (fun i b hi=>by have:=hg (i+1) b (by simpa using hi);rw [show j+1+i=j+(i+1) by omega];exact this) (fun a ha=>hin a (List.mem_cons_of_mem _ ha))
   (fun i l hi b hb=>hz (i+1) l (by simpa using hi) b (by rw [show j+(i+1)=j+1+i by omega];exact hb)) hl
  refine ⟨vs,hl,by simp [h1],by simpa using h2,fun v i y hy => ?_⟩
  cases i with
  | zero=>simp [AQ,nth]
  | succ i =>
   have:=h3 v i y (by rw [show j+1+i=j+(i+1) by omega];exact hy)
   rw [show j+1+i=j+(i+1) by omega] at this
   exact this
 | some (l,d)::ls,a::as,j,k,hg,hin,hz,hl=>by
  have hleaf:s.leaf r j=a:=hg 0 a rfl
  obtain ⟨hlo,_⟩:=h.roots r
  have hlo:Aa s W (s.leaf r j) (W.cv r j) (W.om (.lf r j)):=hlo j
  rw [hleaf] at hlo
  have fin:∀ (x:l.D),(Dm s ls as fun vs=>k (⟨l,x⟩::vs)).leads t→(∀ (v:Nat) (y:Value),W.cv r j=some y→match BT v d ⟨l,x⟩ with
     | .arr AA gen t e xs d=>AA=v∧gen=v∧AD e d W.w W.fz y xs (W.om (.lf r j))
     | .sc l x=>l.rd 0 W.w fz y x []
     | .bad=>True
     | _=>False) →
    ∃ vs,(k vs).leads t∧(some (l,d)::ls).length=(a::as).length∧vs.length=((some (l,d)::ls).filterMap id).length∧∀ (v i:Nat) (y:Value),W.cv r (j+i)=some y→match nth .bad (AQ v (some (l,d)::ls) vs) i with
     | .arr AA gen t e xs d=>AA=v∧gen=v∧AD e d W.w W.fz y xs (W.om (.lf r (j+i)))
     | .sc l x=>l.rd 0 W.w fz y x []
     | .bad=>True
     | _=>False:=by
   intro x hl hx
   obtain ⟨vs,hl,h1,h2,h3⟩:=H3 h r hfz ls as (j+1) (fun i b hi=>by have:=hg (i+1) b (by simpa using hi);rw [show j+1+i=j+(i+1) by omega];exact this) (fun a ha=>hin a (List.mem_cons_of_mem _ ha))
    (fun i l hi b hb=>hz (i+1) l (by simpa using hi) b (by rw [show j+(i+1)=j+1+i by omega];exact hb)) hl
   refine ⟨⟨l,x⟩::vs,hl,by simp [h1],by simp [h2],fun v i y hy => ?_⟩
   cases i with
   | zero=>exact hx v y (by simpa using hy)
   | succ i =>
    have:=h3 v i y (by rw [show j+1+i=j+(i+1) by omega];exact hy)
    rw [show j+1+i=j+(i+1) by omega] at this
    exact this
  have hflat:∀ (x:l.D),Bw l=false→(∀ y,W.cv r j=some y→l.rd 0 W.w W.fz y x [])→∀ (v:Nat) (y:Value),W.cv r j=some y→match BT v d ⟨l,x⟩ with
     | .arr AA gen t e xs d=>AA=v∧gen=v∧AD e d W.w W.fz y xs (W.om (.lf r j))
     | .sc l x=>l.rd 0 W.w fz y x []
     | .bad=>True
     | _=>False:=by
   intro x hns hx v y hy
   have:=(L.AZ l hns (hx y hy) (d':=0) (w':=W.w) (fz':=fz)).1
   cases l with
   | sl t e=>simp [Bw] at hns
   | _=>exact this
  cases a with
  | arr AA gen t0 e0 xs d0 =>
   simp only [Dm] at hl
   split at hl
   ·rename_i hd
    simp only [Bool.or_eq_true,beq_iff_eq] at hd
    split at hl
    ·rename_i y hy
     obtain ⟨q1,q2⟩:=L.AI hy
     subst q1
     have q2:xs=y:=q2
     subst q2
     refine fin xs hl fun v y hy => ?_
     obtain ⟨u,hu,hr⟩:=hlo
     rw [hy] at hu;injection hu with hu;subst hu
     cases d with
     | zero =>
      show (L.sl t0 e0).rd 0 W.w fz y xs []
      exact hr.freeze fun b hb=>hb.elim (hfz b) fun hb=>hz 0 (.sl t0 e0) rfl b (by simpa using hb)
     | succ d =>
      have:d0=d+1:=by omega
      subst this
      exact ⟨rfl,rfl,hr⟩
    ·exact hl.elim
   ·exact hl.elim
  | sc m x =>
   have hrd:∀ y,W.cv r j=some y→m.rd 0 W.w W.fz y x []:=hlo.2
   cases d with
   | zero =>
    have hl:(s.Aw l (.sc m x) fun y=>Dm s ls as fun vs=>k (⟨l,y⟩::vs)).leads t:=hl
    simp only [St.Aw] at hl
    split at hl
    ·rename_i y hy
     obtain ⟨q1,q2⟩:=L.AI hy
     subst q1
     have q2:x=y:=q2
     subst q2
     refine fin x hl fun v y hy => ?_
     have hr:=L.AJ m (hrd y hy) (fun _ _=>rfl) hfz
     cases m <;> exact hr
    ·exact hl.elim
   | succ d =>
    cases hl0:l with
    | sl t1 e1=>subst hl0;exact hl.elim
    | int kk =>
     subst hl0
     have hl:(s.Aw (.int kk) (.sc m x) fun y=>Dm s ls as fun vs=>k (⟨.int kk,y⟩::vs)).leads t:=hl
     simp only [St.Aw] at hl
     split at hl
     ·rename_i y hy
      obtain ⟨q1,q2⟩:=L.AI hy
      subst q1
      have q2:x=y:=q2
      subst q2
      exact fin x hl (hflat x rfl hrd)
     ·exact hl.elim
    | bool =>
     subst hl0
     have hl:(s.Aw .bool (.sc m x) fun y=>Dm s ls as fun vs=>k (⟨.bool,y⟩::vs)).leads t:=hl
     simp only [St.Aw] at hl
     split at hl
     ·rename_i y hy
      obtain ⟨q1,q2⟩:=L.AI hy
      subst q1
      have q2:x=y:=q2
      subst q2
      exact fin x hl (hflat x rfl hrd)
     ·exact hl.elim
    | str =>
     subst hl0
     have hl:(s.Aw .str (.sc m x) fun y=>Dm s ls as fun vs=>k (⟨.str,y⟩::vs)).leads t:=hl
     simp only [St.Aw] at hl
     split at hl
     ·rename_i y hy
      obtain ⟨q1,q2⟩:=L.AI hy
      subst q1
      have q2:x=y:=q2
      subst q2
      exact fin x hl (hflat x rfl hrd)
     ·exact hl.elim
  | DC =>
   cases d with
   | zero =>
    cases l with
    | sl t1 e1 =>
     refine fin ([]:List e1.D) hl fun v y hy => ?_
     show (L.sl t1 e1).rd 0 W.w fz y ([]:List e1.D) []
     rw [show y = .slice none 0 0 from hlo.2 y hy];exact Bz
    | _=>exact hl.elim
   | succ d=>cases l <;> exact hl.elim
  | ref c=>have:=hin (.ref c) (by simp);cases this
  | D7 c lo hi=>have:=hin (.D7 c lo hi) (by simp);cases this
  | _=>cases d with
   | zero=>exact hl.elim
   | succ d=>cases l <;> exact hl.elim
def Ob (ps:List VP) (r j:Nat):Prop:=∃ ls l,VP.box r ls∈ps∧ls[j]? = some (some (l,0))
theorem Md (h:AW E s tm W) (hin:Bg s) {fz:Nat→Prop} (hfz:∀ b,W.fz b→fz b) {p:VP} (hz:∀ r j,Ob [p] r j→∀ b∈W.om (.lf r j),fz b) {k:List Lv→Step β} (hl:(KA s p k).leads t) :
  ∃ vs,(k vs).leads t∧Told s W tm fz p vs:=by
 cases p with
 | slot u l =>
  simp only [KA] at hl
  split at hl
  ·rename_i hs
   have hlt:u<s.sl.length:=by
    rcases Nat.lt_or_ge u s.sl.length with hlt | hge
    ·exact hlt
    ·have:s.slot u = .v false [.bad]:=A3 _ hge
     rw [this] at hl;exact hl.elim
   obtain ⟨x,hl,hr⟩:=KG h (N2 (h.AP u)) hs hl
   exact ⟨_,hl,hlt,x,rfl,hr⟩
  ·exact hl.elim
 | own u ty e d k0 =>
  simp only [KA] at hl
  split at hl
  ·rename_i c vv AA gen t' e' xs d' hsl hro
   split at hl
   ·rename_i hc
    simp only [Bool.and_eq_true,beq_iff_eq] at hc
    obtain ⟨⟨⟨⟨⟨hcr,hcj⟩,hp⟩,hver⟩,hd⟩,hk0⟩:=hc
    have hp:c.p=[]:=by cases hq:c.p <;> simp_all [isNil]
    subst hd
    split at hl
    ·rename_i y hy
     obtain ⟨q1,q2⟩:=L.AI hy
     cases q1
     have q2:xs=y:=q2
     subst q2
     have hleaf:s.leaf c.r c.j = .arr c.AA gen ty e xs d:=by
      unfold St.leaf;rw [hcr,hcj,hro,hver];rfl
     have hval:AR s W (.ref c) (tm.getD u Go.undef):=by have:=h.AP u;rw [hsl] at this;exact this
     obtain ⟨h',e2,hcv,hn⟩:=hval gen _ _ _ _ hleaf (.inl hp)
     rw [hp] at hn
     obtain ⟨rfl,rfl⟩:=hn
     obtain ⟨u',hu',hrd⟩:=(h.roots c.r).row hleaf
     rw [hcv] at hu';injection hu' with hu';rw [← hu'] at hrd
     rw [hcr,hcj] at hrd hcv
     have hlt:u<s.sl.length:=by
      rcases Nat.lt_or_ge u s.sl.length with hlt | hge
      ·exact hlt
      ·have:s.slot u = .v false [.bad]:=A3 _ hge
       rw [this] at hsl;cases hsl
     refine ⟨_,hl,hlt,xs,rfl,by rw [hro],hcv,hrd,fun hk => ?_⟩
     rw [hcr,hcj] at hleaf
     rw [hk] at hk0
     have h1:c.AA=1:=by simpa [hver] using hk0
     rw [h1] at hleaf
     exact ⟨_,_,_,_,_,hleaf⟩
    ·exact hl.elim
   ·exact hl.elim
  ·exact hl.elim
 | box r ls =>
  simp only [KA] at hl
  split at hl
  ·rename_i hb
   obtain ⟨vs,hl,h1,h2,h3⟩:=H3 h (fz:=fz) r hfz ls (s.root r).ls 0 (fun i b hi=>by unfold St.leaf;rw [Nat.zero_add,Ah,hi];rfl) (hin r)
    (fun i l hi b hb=>hz r i ⟨ls,l,by simp,hi⟩ b (by simpa using hb)) hl
   exact ⟨vs,hl,hb,h1,h2,fun v j y hy=>by have:=h3 v j y (by simpa using hy);simpa using this⟩
  ·exact hl.elim
theorem KB (h:AW E s tm W) (hin:Bg s) {fz:Nat→Prop} (hfz:∀ b,W.fz b→fz b):∀ {ps:List VP} {k:List Lv→Step β},(∀ r j,Ob ps r j→∀ b∈W.om (.lf r j),fz b)→(Kt s ps k).leads t →
  ∃ vss:List (List Lv),(k vss.flatten).leads t∧vss.length=ps.length∧∀ (i:Nat) (p:VP) (vs:List Lv),ps[i]? = some p→vss[i]? = some vs→Told s W tm fz p vs
 | [],k,hz,hl=>⟨[],hl,rfl,fun i p vs hp=>by simp at hp⟩
 | p::ps,k,hz,hl=>by
  simp only [Kt] at hl
  obtain ⟨vs,hl,hv⟩:=Md h hin hfz (fun r j ⟨ls,l,hm,hj⟩=>hz r j ⟨ls,l,by simp at hm;simp [hm],hj⟩) hl
  obtain ⟨vss,hl,h1,h2⟩:=KB h hin hfz (fun r j ⟨ls,l,hm,hj⟩=>hz r j ⟨ls,l,List.mem_cons_of_mem _ hm,hj⟩) hl
  refine ⟨vs::vss,by simpa using hl,by simp [h1],fun i q us hq hu => ?_⟩
  cases i with
  | zero=>simp at hq hu;subst hq;subst hu;exact hv
  | succ i=>exact h2 i q us (by simpa using hq) (by simpa using hu)
end
end Go.Ev
