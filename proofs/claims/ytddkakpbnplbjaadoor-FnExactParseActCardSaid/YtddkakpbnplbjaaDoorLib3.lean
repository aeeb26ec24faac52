/- A plain evaluator for Go's loaded code,and that it is sound;part 3. Conditions: none. -/
import Derived.Test.YtddkakpbnplbjaaDoorLib2
import Derived.Orders
set_option linter.all false
namespace Go.Ev
abbrev IL:=List PT
theorem Tg.Ib(a b:Tg):Tg.Db a b=Tg.Db b a:=by obtain⟨r,m⟩:=a;obtain⟨r',m'⟩:=b;unfold Tg.Db;grind
theorem Er{T:IL}(hn:(T.flatMap PT.D8).Pairwise NH){i i':Nat}{p p':PT}(h:T[i]?=some p)(h':T[i']?=some p')(Tf:i≠i'){x y:Tg}(hx:x∈p.D8)(hy:y∈p'.D8):Tg.Db x y=false:=by
 have hp:=(List.pairwise_flatMap.1 hn).2;rw[ic]at hp;obtain⟨hi,rfl⟩:=gM.1 h;obtain⟨U3,rfl⟩:=gM.1 h';rcases iZ Tf with Tc|Tc
 ·have:=hp i i' hi U3 Tc x hx y hy;rw[Tg.Ib];exact this
 ·exact hp i' i U3 hi Tc y hy x hx
theorem H8{l:List (Option (Loc×List Nat))}{j:Nat}{c:Loc}{o:List Nat}(h:l[j]?=some (some (c,o))):(c.r,some c.j)∈(PT.row l).D8:=List.mem_filterMap.2 ⟨_,gP h,rfl⟩
theorem Ll{T:IL}(hn:(T.flatMap PT.D8).Pairwise NH){i j j':Nat}{l:List (Option (Loc×List Nat))}{c c':Loc}{o o':List Nat}(h:T[i]?=some (.row l))(hj:l[j]?=some (some (c,o)))(ZX:l[j']?=some (some (c',o')))(Tf:j≠j'):¬(c.r=c'.r∧c.j=c'.j):=by
 have hp:=(List.pairwise_flatMap.1 hn).1 _ (gP h);have hp:l.Pairwise fun a b=>∀x,(a.map fun p=>((p.1.r,some p.1.j):Tg))=some x→∀y,(b.map fun p=>((p.1.r,some p.1.j):Tg))=some y→NH x y:=List.pairwise_filterMap.1 hp;rw[ic]at hp;obtain⟨hi,e1⟩:=gM.1 hj;obtain⟨U3,e2⟩:=gM.1 ZX
 rintro ⟨q1,q2⟩
 have hh:Tg.Db (c.r,some c.j) (c'.r,some c'.j)=true:=by simp[Tg.Db,q1,q2]
 rcases iZ Tf with Tc|Tc
 ·have:=hp j j' hi U3 Tc (c.r,some c.j) (by rw[e1];rfl) (c'.r,some c'.j) (by rw[e2];rfl);rw[Tg.Ib,show Tg.Db (c'.r,some c'.j) (c.r,some c.j)=false from this]at hh;cases hh
 ·have:=hp j' j U3 hi Tc (c'.r,some c'.j) (by rw[e2];rfl) (c.r,some c.j) (by rw[e1];rfl);rw[show Tg.Db (c.r,some c.j) (c'.r,some c'.j)=false from this]at hh;cases hh
def AT(T:IL):Key→Option Key
 | .AS i=>match T[i]? with
  |some (.box r)=>some (.AS r)
  |_=>none
 | .lf i j=>match T[i]? with
  |some (.box r)=>some (.lf r j)
  |some (.row l)=>match l[j]? with
   |some (some p)=>some (.lf p.1.r p.1.j)
   |_=>none
  |_=>none
 | .fl _=>none
theorem BK{T:IL}{i:Nat}{a:Key}(h:AT T (.AS i)=some a):∃r,a=.AS r∧T[i]?=some (.box r):=by simp only[AT]at h;grind
theorem BH{T:IL}{i j:Nat}{a:Key}(h:AT T (.lf i j)=some a):(∃r,a=.lf r j∧T[i]?=some (.box r))∨∃l c o,a=.lf c.r c.j∧T[i]?=some (.row l)∧l[j]?=some (some (c,o)):=by simp only[AT]at h;grind
theorem BX{T:IL}(hn:(T.flatMap PT.D8).Pairwise NH){k k' a:Key}(h:AT T k=some a)(h':AT T k'=some a):k=k':=by
 have hbb:∀ {i i' r:Nat},T[i]?=some (.box r)→T[i']?=some (.box r)→i=i':=by intro i i' r h h';refine gz fun Tf=>?_;have:=Er hn h h' Tf (x:=(r,none)) (y:=(r,none)) (by simp[PT.D8]) (by simp[PT.D8]);simp[Tg.Db]at this
 cases k with
 |fl k=>cases h
 |AS i=>
  obtain⟨r,rfl,hT⟩:=BK h;cases k' with
  |fl k=>cases h'
  |AS i'=>
   obtain⟨r',e,UL⟩:=BK h';grind
  |lf i' j'=>rcases BH h' with⟨r',e,_⟩|⟨l,c,o,e,_⟩<;>cases e
 |lf i j=>
  cases k' with
  |fl k=>cases h'
  |AS i'=>
   obtain⟨r',e,UL⟩:=BK h';subst e;rcases BH h with⟨r',e,_⟩|⟨l,c,o,e,_⟩<;>cases e
  |lf i' j'=>
   rcases BH h with⟨r,rfl,hT⟩|⟨l,c,o,rfl,hT,hl⟩
   ·rcases BH h' with⟨r',e,UL⟩|⟨l',c',o',e,UL,Ue⟩
    ·grind
    ·injection e with e1 e2
     by_cases hi:i=i'
     ·grind
     ·have:=Er hn hT UL hi (x:=(r,none)) (y:=(c'.r,some c'.j)) (by simp[PT.D8]) (H8 Ue);simp[Tg.Db,e1]at this
   ·rcases BH h' with⟨r',e,UL⟩|⟨l',c',o',e,UL,Ue⟩
    ·injection e with e1 e2
     by_cases hi:i=i'
     ·grind
     ·have:=Er hn hT UL hi (x:=(c.r,some c.j)) (y:=(r',none)) (H8 hl) (by simp[PT.D8]);simp[Tg.Db,e1]at this
    ·injection e with e1 e2
     by_cases hi:i=i'
     ·subst hi;rw[hT]at UL;injection UL with UL;injection UL with UL;subst UL
      by_cases hj:j=j'
      ·rw[hj]
      ·exact absurd ⟨e1,e2⟩ (Ll hn hT hl Ue hj)
     ·have:=Er hn hT UL hi (x:=(c.r,some c.j)) (y:=(c'.r,some c'.j)) (H8 hl) (H8 Ue);simp[Tg.Db,e1,e2]at this
theorem Bh(v:Nat):∀(ls:List (L×Nat)) (vs:List Lv),vs.length=ls.length→(AY v ls vs).length=ls.length
 | [],_,_=>by simp[AY]
 |_::_,[],h=>by simp at h
 |(_,m)::ls,x::xs,h=>by simp[AY,Bh v ls xs (by simpa using h)]
theorem B3(v:Nat):∀(ls:List (L×Nat)) (vs:List Lv) (j:Nat) (p:L×Nat) (lv:Lv),ls[j]?=some p→vs[j]?=some lv→(AY v ls vs)[j]?=some (BP v p.2 lv)
 | [],_,j,p,lv,h,_=>by simp at h
 |_::_,[],j,p,lv,_,h=>by simp at h
 |(l,m)::ls,x::xs,0,p,lv,h1,h2=>by simp at h1 h2;subst h1;subst h2;simp[AY]
 |(l,m)::ls,x::xs,j+1,p,lv,h1,h2=>by simp[AY];exact B3 v ls xs j p lv (by grind) (by grind)
theorem DC(v:Nat):∀(ls:List (L×Nat)) (vs ws:List Lv),vs.length=ls.length→AY v ls (vs++ws)=AY v ls vs
 | [],vs,ws,h=>by cases vs<;>simp[AY]
 |_::_,[],_,h=>by simp at h
 |(l,m)::ls,x::xs,ws,h=>by simp[AY,DC v ls xs ws (by simpa using h)]
theorem C8(s:St)(r v:Nat):∀(k:Nat) (ls:List (L×Nat)) (vs:List Lv),vs.length=ls.length→(AX s r v k ls vs).length=ls.length
 |_,[],_,_=>by simp[AX]
 |_,_::_,[],h=>by simp at h
 |k,(_,m)::ls,x::xs,h=>by simp[AX,C8 s r v (k+1) ls xs (by simpa using h)]
theorem CK(s:St)(r v:Nat):∀(k:Nat) (ls:List (L×Nat)) (vs:List Lv) (j:Nat) (p:L×Nat) (lv:Lv),ls[j]?=some p→vs[j]?=some lv→(AX s r v k ls vs)[j]?=some (Cl (s.leaf r (k+j)) v p.2 lv)
 |_,[],_,j,p,lv,h,_=>by simp at h
 |_,_::_,[],j,p,lv,_,h=>by simp at h
 |k,(l,m)::ls,x::xs,0,p,lv,h1,h2=>by simp at h1 h2;subst h1;subst h2;simp[AX]
 |k,(l,m)::ls,x::xs,j+1,p,lv,h1,h2=>by simp only[AX,iI];rw[CK s r v (k+1) ls xs j p lv (by grind) (by grind),Nat.add_right_comm];rfl
theorem D6(s:St)(r v:Nat):∀(k:Nat) (ls:List (L×Nat)) (vs ws:List Lv),vs.length=ls.length→AX s r v k ls (vs++ws)=AX s r v k ls vs
 |_,[],vs,ws,h=>by cases vs<;>simp[AX]
 |_,_::_,[],_,h=>by simp at h
 |k,(l,m)::ls,x::xs,ws,h=>by simp[AX,D6 s r v (k+1) ls xs ws (by simpa using h)]
theorem C7(a:LA)(v m:Nat)(x:Lv):Cl a v m x=BP v m x∨∃(AA gen:Nat) (t:TypeId) (e:Ls) (xs y:List e.D),m=3∧a=.arr AA gen t e xs 2∧x=⟨.sl t e,y⟩∧Cl a v m x=.arr AA v t e y 2:=by
 by_cases hm:m=3
 ·subst hm;cases a with
  |arr AA gen t e xs d=>
   by_cases hd:d=2
   ·subst hd;cases hq:L.cast (.sl t e) (a:=x.l) x.x with
    |none=>left;simp[Cl,hq]
    |some y=>
     right;refine⟨AA,gen,t,e,xs,y,rfl,rfl,?_,by simp[Cl,hq]⟩;obtain⟨l,x⟩:=x;obtain⟨q1,q2⟩:=L.AH hq;dsimp only at q1 q2;subst q1;have q2:x=y:=q2;rw[q2]
   ·left;have:(d==2)=false:=by simpa using hd
    simp[Cl,this]
  |_=>left;rfl
 ·left;have:(m==3)=false:=by simpa using hm
  simp[Cl,this]
section
variable {P:Program}{E:Cr}{s:St}{W:Wd}{v:Nat}{tm:Array Value}{cx:Cx}
theorem FP{s':St}{W':Wd}{m:Nat}{lv:Lv}{y:Value}{o:List Nat}(h:lv.l.rd m W'.w W'.fz y lv.x o):Aa s' W' (BP v m lv) (some y) o:=by
 obtain⟨l,x⟩:=lv;cases l with
 |sl t e=>
  cases m with
  |zero=>exact⟨AD.zero h,fun u hu=>by injection hu with hu;subst hu;have:=AD.zero h;subst this;exact h⟩
  |succ m=>exact⟨y,rfl,h⟩
 |int k=>
  obtain⟨h1,h2⟩:=L.AZ (.int k) rfl h (d':=0) (w':=W'.w) (TZ:=W'.fz);subst h2;exact⟨rfl,fun u hu=>by injection hu with hu;subst hu;exact h1⟩
 |bool=>
  obtain⟨h1,h2⟩:=L.AZ .bool rfl h (d':=0) (w':=W'.w) (TZ:=W'.fz);subst h2;exact⟨rfl,fun u hu=>by injection hu with hu;subst hu;exact h1⟩
 |str=>
  obtain⟨h1,h2⟩:=L.AZ .str rfl h (d':=0) (w':=W'.w) (TZ:=W'.fz);subst h2;exact⟨rfl,fun u hu=>by injection hu with hu;subst hu;exact h1⟩
theorem J4{m:Nat}{lv:Lv}{AA gen:Nat}{t:TypeId}{e:Ls}{xs:List e.D}{d:Nat}(h:BP v m lv=.arr AA gen t e xs d):AA=v∧gen=v:=by
 obtain⟨l,x⟩:=lv;cases l with
 |sl t0 e0=>cases m with
  |zero=>cases h
  |succ m=>
   have h:LA.arr v v t0 e0 x (m+1)=_:=h;grind
 |_=>cases h
def Ex(s:St)(v:Nat)(ls:List (L×Nat))(as:List LA)(vs:List Lv)(j:Nat)(u:Up):Prop:=
 ∃(p:L×Nat) (c:Loc) (lv:Lv) (AA gen:Nat) (t0:TypeId) (e0:Ls) (xs0:List e0.D) (d0:Nat) (F:List e0.D→List e0.D),ls[j]?=some p∧Bp p.1=true∧as[j]?=some (.ref c)∧vs[j]?=some lv∧s.leaf c.r c.j=.arr AA gen t0 e0 xs0 d0∧Hk (ON lv) c.p t0 e0=some F∧
  u=⟨c.r,c.j,[.arr AA v t0 e0 (F xs0) d0]⟩
theorem Ex.uniq{ls:List (L×Nat)}{as:List LA}{vs:List Lv}{j:Nat}{u u':Up}(h:Ex s v ls as vs j u)(h':Ex s v ls as vs j u'):u=u':=by
 obtain⟨p,c,lv,AA,gen,t0,e0,xs0,d0,F,h1,h2,h3,h4,h5,h6,rfl⟩:=h;obtain⟨p',c',lv',X0,Uo,t0',e0',xs0',d0',F',g1,g2,g3,g4,g5,g6,rfl⟩:=h';rw[h3]at g3;injection g3 with g3;injection g3 with g3;subst g3
 rw[h4]at g4;injection g4 with g4;subst g4
 rw[h5]at g5;injection g5 with a1 a2 a3 a4 a5 a6
 subst a1;subst a3;subst a4;grind
def KN(s:St)(v:Nat)(ls:List (L×Nat))(as:List LA)(vs:List Lv)(us:List Up):Prop:=
 (∀u∈us,∃j,Ex s v ls as vs j u)∧∀(j:Nat)(p:L×Nat),ls[j]?=some p→Bp p.1=true→p.2≠4→∃u∈us,Ex s v ls as vs j u
theorem Ex.succ{p:L×Nat}{a:LA}{lv:Lv}{ls:List (L×Nat)}{as:List LA}{vs:List Lv}{j:Nat}{u:Up}(h:Ex s v ls as vs j u):Ex s v (p::ls) (a::as) (lv::vs) (j+1) u:=by obtain⟨p,c,lv,AA,gen,t0,e0,xs0,d0,F,h1,h2,h3,h4,h5,h6,rfl⟩:=h;exact⟨p,c,lv,AA,gen,t0,e0,xs0,d0,F,by grind,h2,by grind,by grind,h5,h6,rfl⟩
theorem Ip:∀(ls:List (L×Nat)) (as:List LA) (vs rest:List Lv) {ws:List Wr},vs.length=ls.length→putRow s v ls as (vs++rest)=some ws→∃us,ws=Ed us∧KN s v ls as vs us
 | [],[],vs,rest,ws,hlen,h=>by simp only[putRow,Option.some.injEq]at h;subst h;exact⟨[],rfl,⟨fun u hu=>(by cases hu),fun j p hp=>(by simp at hp)⟩⟩
 | [],_::_,vs,rest,ws,hlen,h=>by simp[putRow]at h
 |_::_,[],vs,rest,ws,hlen,h=>by simp[putRow]at h
 |_::_,_::_,[],rest,ws,hlen,h=>by simp at hlen
 |(l,d)::ls,a::as,x::vs,rest,ws,hlen,h=>by
  simp only[iK,putRow]at h;split at h
  ·rename_i VH WD;obtain⟨us,rfl,h1,h2⟩:=Ip ls as vs rest (by grind) WD
   have plain:(Bp l=false∨d=4)→some (Ed us)=some ws→∃us,ws=Ed us∧KN s v ((l,d)::ls) (a::as) (x::vs) us:=by
    intro hs h;injection h with h
    refine⟨us,h.symm,fun u hu=>?_,fun j p hp U7 aL=>?_⟩
    ·obtain⟨j,hj⟩:=h1 u hu;exact⟨j+1,hj.succ⟩
    ·cases j with
     |zero=>grind
     |succ j=>
      obtain⟨u,hu,hr⟩:=h2 j p (by grind) U7 aL;exact⟨u,hu,hr.succ⟩
   cases l with
   |int i=>exact plain (.inl rfl) h
   |bool=>exact plain (.inl rfl) h
   |str=>exact plain (.inl rfl) h
   |sl t e=>
    by_cases Yb:d=4
    ·dsimp only at h;rw[gS (gV.2 Yb)]at h;exact plain (.inr Yb) h
    dsimp only at h;rw[gT (fun q=>Yb (gV.1 q))]at h;cases a with
    |ref c=>
     dsimp only at h;split at h
     ·rename_i AA gen t0 e0 xs0 d0 hq;split at h
      ·rename_i F hF;injection h with h
       have hu:Ex s v ((.sl t e,d)::ls) (.ref c::as) (x::vs) 0 ⟨c.r,c.j,[.arr AA v t0 e0 (F xs0) d0]⟩:=⟨_,c,x,AA,gen,t0,e0,xs0,d0,F,rfl,rfl,rfl,rfl,hq,hF,rfl⟩;refine⟨⟨c.r,c.j,[.arr AA v t0 e0 (F xs0) d0]⟩::us,?_,fun u Tj=>?_,fun j p hp U7 aL=>?_⟩
       ·rw[←h];simp[Ed,BA]
       ·rcases gj.1 Tj with rfl|Tj
        ·grind
        ·obtain⟨j,hj⟩:=h1 u Tj;exact⟨j+1,hj.succ⟩
       ·cases j with
        |zero=>grind
        |succ j=>
         obtain⟨u,hu,hr⟩:=h2 j p (by grind) U7 aL;exact⟨u,gO _ hu,hr.succ⟩
      ·cases h
     ·cases h
    |_=>cases h
  ·cases h
def M5(s:St)(v:Nat)(pm:PM)(av:AV)(vs:List Lv)(uo:List Up):Prop:=match pm with
 | .box ls=>∃r AA,av=.v false [.ptr r 0 AA]∧uo=[⟨r,0,AX s r v 0 ls vs⟩]
 | .row _ ls=>∃g as,av=.v g as∧KN s v ls as vs uo
 |_=>uo=[]
theorem Gj:∀(ps:List PM)(Tz:List AV) (TX:List (List Lv)) {ws:List Wr},TX.length=ps.length→(∀(i:Nat)(pm:PM)(vs:List Lv),ps[i]?=some pm→TX[i]?=some vs→vs.length=pm.outs.length)→AW s v ps Tz TX.flatten=some ws→
  ∃U:List (List Up),ws=Ed U.flatten∧U.length=ps.length∧∀(i:Nat)(pm:PM)(av:AV)(vs:List Lv)(uo:List Up),ps[i]?=some pm→Tz[i]?=some av→TX[i]?=some vs→U[i]?=some uo→M5 s v pm av vs uo
 | [],Tz,[],ws,hlen,hv,h=>by
  cases Tz with
  |nil=>simp[AW]at h;subst h;exact⟨[],rfl,rfl,fun i pm av vs uo h1=>by simp at h1⟩
  |cons a as=>simp[AW]at h
 | [],Tz,_::_,ws,hlen,hv,h=>by simp at hlen
 |_::_,Tz,[],ws,hlen,hv,h=>by simp at hlen
 |pm::ps,Tz,vs::TX,ws,hlen,hv,h=>by
  have UC:TX.length=ps.length:=by simpa using hlen
  have Um:∀(i:Nat)(pm:PM)(vs:List Lv),ps[i]?=some pm→TX[i]?=some vs→vs.length=pm.outs.length:=fun i W7 WI h1 h2=>hv (i+1) W7 WI (by grind) (by grind);have h0:=hv 0 pm vs rfl rfl;cases Tz with
  |nil=>cases pm<;>simp[AW]at h
  |cons av Tz=>
   have fin:∀(uo:List Up) {VH:List Wr},AW s v ps Tz TX.flatten=some VH→ws=Ed uo++VH→M5 s v pm av vs uo→
     ∃U:List (List Up),ws=Ed U.flatten∧U.length=(pm::ps).length∧∀(i:Nat)(W7:PM)(Yq:AV)(WI:List Lv)(uo:List Up),(pm::ps)[i]?=some W7→(av::Tz)[i]?=some Yq→(vs::TX)[i]?=some WI→U[i]?=some uo→M5 s v W7 Yq WI uo:=by
    intro uo VH hp hw UD;obtain⟨U,h1,h2,h3⟩:=Gj ps Tz TX UC Um hp;refine⟨uo::U,?_,by simp[h2],?_⟩
    ·rw[hw,h1];simp[Ed]
    ·grind
   cases pm with
   |val g ls=>
    have VF:vs=[]:=gQ (by simpa[PM.outs]using h0);subst VF;simp only[AW,gn,hY]at h;exact fin [] h rfl rfl
   |fn f=>
    have VF:vs=[]:=gQ (by simpa[PM.outs]using h0);subst VF;simp only[AW,gn,hY]at h;exact fin [] h rfl rfl
   |box ls=>
    have UK:vs.length=ls.length:=by simpa[PM.outs]using h0
    simp only[gn]at h;unfold AW at h;split at h<;>try cases h
    ·rename_i e1 _;cases e1
    ·rename_i e1 _;cases e1
    ·rename_i e1 _;cases e1
    ·rename_i XH YA r AA avs' e1 e2;injection e1 with e1 Zk;injection e1 with e1;subst e1;subst Zk
     injection e2 with e2 ZR;subst e2;subst ZR
     split at h
     ·rename_i VH WD;injection h with h;subst h
      rw[←UK,iJ]at WD;refine fin [⟨r,0,AX s r v 0 ls vs⟩] WD ?_ ⟨r,AA,rfl,rfl⟩;rw[D6 s r v 0 ls vs _ UK];simp[Ed]
     ·cases h
    grind
   |row g ls=>
    have UK:vs.length=ls.length:=by simpa[PM.outs]using h0
    simp only[gn]at h;cases av with
    |Di bs=>simp[AW]at h
    |bx bs=>simp[AW]at h
    |v g' as=>
     simp only[AW]at h;split at h
     ·rename_i us VH Yn WD;injection h with h;subst h
      rw[←UK,iJ]at WD;obtain⟨uo,rfl,hr⟩:=Ip ls as vs _ UK Yn;exact fin uo WD rfl ⟨g',as,rfl,hr⟩
     ·cases h
theorem Jn(r j:Nat):∀(us:List Up)(a:LA),(∀u∈us,¬(r=u.r∧u.lo≤j∧j<u.lo+u.news.length))→us.foldl (fun a u=>if r=u.r∧u.lo≤j∧j<u.lo+u.news.length then nth .bad u.news (j-u.lo)else a) a=a
 | [],_,_=>rfl
 |u::us,a,h=>by rw[List.foldl_cons,gT (h u (by simp))];exact Jn r j us a fun x hx=>h x (gO _ hx)
theorem I4(r j:Nat){x:LA}:∀(us:List Up)(a:LA),(∀u∈us,r=u.r∧u.lo≤j∧j<u.lo+u.news.length→nth .bad u.news (j-u.lo)=x)→(a=x∨∃u∈us,r=u.r∧u.lo≤j∧j<u.lo+u.news.length)→
  us.foldl (fun a u=>if r=u.r∧u.lo≤j∧j<u.lo+u.news.length then nth .bad u.news (j-u.lo)else a) a=x
 | [],a,h,he=>by grind
 |u::us,a,h,he=>by rw[List.foldl_cons];refine I4 r j us _ (fun y hy=>h y (gO _ hy)) ?_;grind
def FW(w:World)(fz:Nat→Prop)(v:Nat)(b:LA)(y:Value)(o:List Nat):Prop:=match b with
 | .arr AA gen t e xs m=>AA=v∧gen=v∧AD e m w fz y xs o
 | .bad=>o=[]
 |_=>False
theorem Jd{w:World}{fz:Nat→Prop}{d:Nat}{om:Nat→List Nat}:∀(ls:List (L×Nat)) (vs rest:List Lv) (off:Nat) (G:Nat→Option Value) {as rs:List LA} {left:List Lv},vs.length=ls.length→(∀(j:Nat)(p:L×Nat)(lv:Lv),ls[j]?=some p→vs[j]?=some lv→∃y,G j=some y∧lv.l.rd p.2 w fz y lv.x (om (off+j)))→
  Jc d v ls (vs++rest) off=some (as,rs,left)→left=rest∧as.length=ls.length∧∃ys:List Value,ys.length=ls.length∧rs.length=ls.length∧(∀k,k<ls.length→ys[k]?=G k)∧(∀(k:Nat)(b:LA),rs[k]?=some b→∃y,ys[k]?=some y∧FW w fz v b y (om (off+k)))∧
   ∀(s':St)(W':Wd),W'.w=w→W'.fz=fz→(∀k,k<ls.length→s'.leaf d (off+k)=nth .bad rs k∧W'.cv d (off+k)=ys[k]?)→∀(k:Nat)(b:LA),as[k]?=some b→∃y,ys[k]?=some y∧AP s' W' b y
 | [],vs,rest,off,G,as,rs,left,hlen,hv,h=>by have:vs=[]:=gQ hlen;subst this;simp only[Jc,hY,Option.some.injEq,Prod.mk.injEq]at h;obtain⟨rfl,rfl,rfl⟩:=h;exact⟨rfl,rfl,[],rfl,rfl,(fun k hk=>by simp at hk),(fun k b hb=>by simp at hb),fun s' W' _ _ _ k b hb=>by simp at hb⟩
 |_::_,[],rest,off,G,as,rs,left,hlen,hv,h=>by simp at hlen
 |(l,m)::ls,lv::vs,rest,off,G,as,rs,left,hlen,hv,h=>by
  obtain⟨l',x⟩:=lv;simp only[iK,Jc]at h;split at h
  ·rename_i Wm bH Yo hb
   obtain⟨h1,h2,ys,h3,h4,h5,h6,h7⟩:=Jd ls vs rest (off+1) (fun j=>G (j+1)) (by grind) (fun j p lv hp Ur=>by
    have:=hv (j+1) p lv (by grind) (by grind);rwa[show off+(j+1)=off+1+j by omega]at this) hb
   obtain⟨y,hy,hr⟩:=hv 0 (l,m) ⟨l',x⟩ rfl rfl;dsimp only[Nat.add_zero]at hr
   have fin:∀(a b:LA),(some (a::Wm,b::bH,Yo)=some (as,rs,left))→FW w fz v b y (om off)→(∀(s':St)(W':Wd),W'.w=w→W'.fz=fz→s'.leaf d off=b→W'.cv d off=some y→AP s' W' a y)→
     left=rest∧as.length=((l,m)::ls).length∧∃ys:List Value,ys.length=((l,m)::ls).length∧rs.length=((l,m)::ls).length∧(∀k,k<((l,m)::ls).length→ys[k]?=G k)∧(∀(k:Nat)(b:LA),rs[k]?=some b→∃y,ys[k]?=some y∧FW w fz v b y (om (off+k)))∧
      ∀(s':St)(W':Wd),W'.w=w→W'.fz=fz→(∀k,k<((l,m)::ls).length→s'.leaf d (off+k)=nth .bad rs k∧W'.cv d (off+k)=ys[k]?)→∀(k:Nat)(b:LA),as[k]?=some b→∃y,ys[k]?=some y∧AP s' W' b y:=by
    intro a b he WB XM;injection he with he;injection he with e1 he;injection he with e2 e3
    subst e1;subst e2;subst e3;refine⟨h1,by simp[h2],y::ys,by simp[h3],by simp[h4],?_,?_,?_⟩
    ·grind
    ·grind
    ·intro s' W' hw hz hs k b' Tk;cases k with
     |zero=>
      simp at Tk;subst Tk;obtain⟨q1,q2⟩:=hs 0 (by simp);exact⟨y,rfl,XM s' W' hw hz q1 q2⟩
     |succ k=>
      obtain⟨y',Vq,ho⟩:=h7 s' W' hw hz (fun k hk=>by
       have:=hs (k+1) (by simp;omega);rw[show off+1+k=off+(k+1) by omega];exact⟨this.1.trans rfl,this.2.trans (by simp)⟩) k b' (by simpa using Tk)
      grind
   cases l' with
   |sl t e=>
    cases m with
    |zero=>
     refine fin _ _ h (AD.zero hr) fun s' W' hw hz _ _=>?_;have:=AD.zero hr;rw[this]at hr;show(L.sl t e).rd 0 W'.w W'.fz y x [];grind
    |succ m=>
     refine fin _ _ h ⟨rfl,rfl,hr⟩ fun s' W' hw hz hl hc=>?_;intro gen t' e' UJ d' Ue hp;exact⟨y,e',hc,rfl,rfl⟩
   |int k=>
    obtain⟨q1,q2⟩:=L.AZ (.int k) rfl hr (d':=0) (w':=w) (TZ:=fz);rw[q2]at q1;exact fin _ _ h q2 fun s' W' hw hz _ _=>by show(L.int k).rd 0 W'.w W'.fz y x [];grind
   |bool=>
    obtain⟨q1,q2⟩:=L.AZ .bool rfl hr (d':=0) (w':=w) (TZ:=fz);rw[q2]at q1;exact fin _ _ h q2 fun s' W' hw hz _ _=>by show L.bool.rd 0 W'.w W'.fz y x [];grind
   |str=>
    obtain⟨q1,q2⟩:=L.AZ .str rfl hr (d':=0) (w':=w) (TZ:=fz);rw[q2]at q1;exact fin _ _ h q2 fun s' W' hw hz _ _=>by show L.str.rd 0 W'.w W'.fz y x [];grind
  ·cases h
theorem Mw{s':St}{W':Wd}{g:Bool}{ls:List (L×Nat)}{u:Value}{as:List LA}(hlen:as.length=ls.length)(hg:match g with
  |true=>∃cs:Array Value,u=.agg cs∧cs.size=ls.length
  |false=>ls.length=1) (h:∀(k:Nat)(b:LA),as[k]?=some b→∃y,Av g u k=some y∧AP s' W' b y):Ey s' W' g as u:=by
 cases g with
 |true=>
  obtain⟨cs,rfl,Tt⟩:=hg;exact⟨cs,rfl,by rw[Tt,hlen],h⟩
 |false=>
  match as,hlen with
  | [],h0=>dsimp only at hg;simp at h0;omega
  | [b],_=>
   obtain⟨y,hy,UD⟩:=h 0 b rfl;simp[Av]at hy;subst hy;exact UD
  |_::_::_,h0=>dsimp only at hg;simp at h0;omega
theorem HJ{w:World}{fz:Nat→Prop}{d:Nat}{om:Nat→List Nat}:∀(rs:List (Bool×List (L×Nat))) (rv:List Value) (vsR:List (List Lv)) (rest:List Lv) (off:Nat) {bs:List (Bool×List LA)} {own:List LA} {left:List Lv},EA w fz om rs rv vsR off→
  Dv d v rs (vsR.flatten++rest) off=some (bs,own,left)→left=rest∧bs.length=rv.length∧∃ys:List Value,ys.length=own.length∧(∀(k:Nat)(b:LA),own[k]?=some b→∃y,ys[k]?=some y∧FW w fz v b y (om (off+k)))∧
   ∀(s':St)(W':Wd),W'.w=w→W'.fz=fz→(∀k,k<own.length→s'.leaf d (off+k)=nth .bad own k∧W'.cv d (off+k)=ys[k]?)→∀(i:Nat)(p:Bool×List LA)(u:Value),bs[i]?=some p→rv[i]?=some u→Ey s' W' p.1 p.2 u
 | [],[],[],rest,off,bs,own,left,hr,h=>by simp only[Dv,List.flatten_nil,hY,Option.some.injEq,Prod.mk.injEq]at h;grind
 | [],[],_::_,rest,off,bs,own,left,hr,h=>hr.elim
 | [],_::_,_,rest,off,bs,own,left,hr,h=>by simp[EA]at hr
 |_::_,[],_,rest,off,bs,own,left,hr,h=>by simp[EA]at hr
 |_::_,_::_,[],rest,off,bs,own,left,hr,h=>by simp[EA]at hr
 |(g,ls)::rs,u::rv,vs::vsR,rest,off,bs,own,left,hr,h=>by
  obtain⟨⟨hm,hg,VF⟩,hr⟩:=hr;have UK:vs.length=ls.length:=by have:=congrArg List.length hm;simpa using this
  simp only[Dv,gn,List.append_assoc]at h;split at h
  ·rename_i as own1 vs1 hb;obtain⟨h1,h2,ys,h3,h4,h5,h6,h7⟩:=Jd ls vs (vsR.flatten++rest) off (Av g u) UK VF hb;subst h1;split at h
   ·rename_i Zi own2 Yo Tk;injection h with h;injection h with e1 h;injection h with e2 e3
    subst e1;subst e2;subst e3;obtain⟨q1,q2,zs,q3,q4,q5⟩:=HJ rs rv vsR rest (off+ls.length) hr Tk;refine⟨q1,by simp[q2],ys++zs,by grind,?_,?_⟩
    ·grind
    ·intro s' W' hw hz hs i p u' hi Tj;cases i with
     |zero=>
      simp at hi Tj;subst hi;subst Tj;refine Mw h2 hg fun k b hk=>?_;have Tc:k<ls.length:=by rw[←h2];exact(gM.1 hk).1
      obtain⟨y,hy,UD⟩:=h7 s' W' hw hz (fun k hk=>by
       obtain⟨a1,a2⟩:=hs k (by simp;omega);rw[a1,a2];refine⟨?_,?_⟩
       ·rw[Af,Af,iQ (by omega)]
       ·rw[iQ (by omega)]) k b hk
      grind
     |succ i=>
      refine q5 s' W' hw hz (fun k hk=>?_) i p u' (by simpa using hi) (by simpa using Tj);obtain⟨a1,a2⟩:=hs (ls.length+k) (by simp;omega);rw[show off+ls.length+k=off+(ls.length+k) by omega,a1,a2];refine⟨?_,?_⟩
      ·rw[Af,Af,ia (by omega)];congr 2;omega
      grind
   ·cases h
  ·cases h
end
end Go.Ev
namespace Go.Ev
def Al(T:IL)(om:Key→List Nat):Key→List Nat
 | .AS i=>match T[i]? with
  |some (.box r)=>om (.AS r)
  |_=>[]
 | .lf i j=>match T[i]? with
  |some (.box r)=>om (.lf r j)
  |some (.row l)=>match l[j]? with
   |some (some p)=>p.2
   |_=>[]
  |_=>[]
 | .fl _=>[]
def Fa(T:IL)(bk:Nat→Nat)(i:Nat):Nat:=match T[i]? with
 |some (.box r)=>bk r
 |_=>0
theorem F3:∀(ps:List PM)(Tz:List AV)(i:Nat)(g:Bool)(ls:List L)(av:AV),ps[i]?=some (.val g ls)→Tz[i]?=some av→∀r∈av.roots,r∈Ah ps Tz
 | [],_,i,g,ls,av,h,_,r,hr=>by simp at h
 |_::_,[],i,g,ls,av,_,h,r,hr=>by simp at h
 |pm::ps,a::Tz,0,g,ls,av,h1,h2,r,hr=>by simp at h1 h2;subst h1;subst h2;exact gX _ hr
 |pm::ps,a::Tz,i+1,g,ls,av,h1,h2,r,hr=>by
  have:=F3 ps Tz i g ls av (by grind) (by grind) r hr;cases pm with
  |val g' XH=>exact gU _ this
  |_=>exact this
section
variable {P:Program}{E:Cr}{s:St}{W:Wd}{v:Nat}{tm:Array Value}{cx:Cx}
structure Handed(s:St)(W:Wd)(ps:List PM)(Tz:List AV)(us:List Value)(TX:List (List Lv))(T:IL):Prop where
 l1:Tz.length=ps.length
 l2:us.length=ps.length
 l3:TX.length=ps.length
 l4:T.length=ps.length
 nodup:(T.flatMap PT.D8).Pairwise NH
 each:∀(i:Nat)(pm:PM)(av:AV)(u:Value)(vs:List Lv)(tg:PT),ps[i]?=some pm→Tz[i]?=some av→us[i]?=some u→TX[i]?=some vs→T[i]?=some tg→G8 s W pm av tg u vs
 apart:∀r∈Ah ps Tz,∀(i:Nat)(p:PT),T[i]?=some p→∀x∈p.D8,x.1≠r
theorem A7{α:Type}{l:List α}{i n:Nat}(h:l.length=n)(hi:i<n):∃x,l[i]?=some x:=⟨l[i]'(by omega),gK (by omega)⟩
theorem Handed.all{ps:List PM}{Tz:List AV}{us:List Value}{TX:List (List Lv)}{T:IL}(hh:Handed s W ps Tz us TX T){i:Nat}{pm:PM}(hp:ps[i]?=some pm):
  ∃av u vs tg,Tz[i]?=some av∧us[i]?=some u∧TX[i]?=some vs∧T[i]?=some tg∧G8 s W pm av tg u vs:=by
 have hi:i<ps.length:=(gM.1 hp).1;obtain⟨av,h1⟩:=A7 hh.l1 hi;obtain⟨u,h2⟩:=A7 hh.l2 hi;obtain⟨vs,h3⟩:=A7 hh.l3 hi;obtain⟨tg,h4⟩:=A7 hh.l4 hi;exact⟨av,u,vs,tg,h1,h2,h3,h4,hh.each i pm av u vs tg hp h1 h2 h3 h4⟩
theorem Handed.PL{ps:List PM}{Tz:List AV}{us:List Value}{TX:List (List Lv)}{T:IL}(hh:Handed s W ps Tz us TX T){i:Nat}{m:PT}(hT:T[i]?=some m):
  ∃pm av u vs,ps[i]?=some pm∧Tz[i]?=some av∧us[i]?=some u∧TX[i]?=some vs∧G8 s W pm av m u vs:=by
 have hi:i<ps.length:=by rw[←hh.l4];exact(gM.1 hT).1
 obtain⟨pm,hp⟩:=A7 rfl hi;obtain⟨av,u,vs,tg,h1,h2,h3,h4,h5⟩:=hh.all hp;grind
theorem Handed.OO{ps:List PM}{Tz:List AV}{us:List Value}{TX:List (List Lv)}{T:IL}(hh:Handed s W ps Tz us TX T){i j:Nat}{l:List (Option (Loc×List Nat))}{c:Loc}{o:List Nat}(hT:T[i]?=some (.row l))(hj:l[j]?=some (some (c,o))):
  ∃g ls as u vs p lv y,ps[i]?=some (.row g ls)∧Tz[i]?=some (.v g as)∧us[i]?=some u∧TX[i]?=some vs∧ls[j]?=some p∧as[j]?=some (.ref c)∧vs[j]?=some lv∧Bp p.1=true∧vs.map (·.l)=ls.map (·.1)∧Av g u j=some y∧FY s W p.2 (.ref c) (some (c,o)) lv y:=by
 obtain⟨pm,av,u,vs,e1,e2,e3,e4,e5⟩:=hh.PL hT;cases pm with
 |val g ls=>cases e5.1
 |fn f=>cases e5.1
 |box ls=>obtain⟨r,AA,_,q,_⟩:=e5;cases q
 |row g ls=>
  obtain⟨as,l',rfl,q2,q3,q4,q5,q6,q7⟩:=e5;injection q2 with q2;subst q2
  have Tc:j<ls.length:=by rw[←q4];exact(gM.1 hj).1
  have UK:vs.length=ls.length:=by have:=congrArg List.length q5;simpa using this
  obtain⟨p,hp⟩:=A7 rfl Tc;obtain⟨a,ha⟩:=A7 q3 Tc;obtain⟨lv,Ur⟩:=A7 UK Tc;obtain⟨y,hy,hr⟩:=q7 j p a lv _ hp ha Ur hj
  have hl:lv.l=p.1:=by have:=congrArg (·[j]?) q5;simp only[ga,hp,Ur,iF,Option.some.injEq]at this;exact this
  have UI:=hr;rcases hr with⟨_,h0,_⟩|⟨_,_,h0,_⟩|⟨c',o',gen,t,e,xs,h,t',e',ys,rfl,h2,_,_,_,_,_,h3,_⟩
  ·cases h0
  ·cases h0
  ·injection h2 with h2;injection h2 with h2 Vs;subst h2
   exact⟨g,ls,as,u,vs,p,lv,y,e1,e2,e3,e4,hp,ha,Ur,by rw[←hl,h3];rfl,q5,hy,UI⟩
theorem CX{ps:List PM}{Tz:List AV}{us:List Value}{TX:List (List Lv)}{T:IL}(hh:Handed s W ps Tz us TX T){k:Key}{b:Nat}(h:b∈Al T W.om k):∃a,AT T k=some a∧b∈W.om a:=by
 cases k with
 |fl k=>cases h
 |AS i=>
  simp only[Al]at h;split at h
  ·rename_i r hT;exact⟨.AS r,by simp[AT,hT],h⟩
  ·cases h
 |lf i j=>
  simp only[Al]at h;split at h
  ·rename_i r hT;exact⟨.lf r j,by simp[AT,hT],h⟩
  ·rename_i l hT;split at h
   ·rename_i p hp;obtain⟨c,o⟩:=p;obtain⟨g,ls,as,u,vs,p,lv,y,_,_,_,_,_,_,_,_,_,_,hr⟩:=hh.OO hT hp;refine⟨.lf c.r c.j,by simp[AT,hT,hp],?_⟩;rcases hr with⟨_,h0,_⟩|⟨_,_,h0,_⟩|⟨c',o',gen,t,e,xs,h',t',e',ys,_,h2,_,_,_,_,_,_,_,h4,_⟩
    all_goals grind
   ·cases h
  ·cases h
theorem Jb(h:AU E s tm W){ps:List PM}{Tz:List AV}{us:List Value}{TX:List (List Lv)}{T:IL}(hh:Handed s W ps Tz us TX T)(k:Key):(Al T W.om k).Nodup:=by
 cases k with
 |fl k=>exact gR
 |AS i=>
  simp only[Al];split
  ·exact h.sep.nodup _
  grind
 |lf i j=>
  simp only[Al];split
  ·exact h.sep.nodup _
  ·rename_i l hT;split
   ·rename_i p hp;obtain⟨c,o⟩:=p;obtain⟨g,ls,as,u,vs,p,lv,y,_,_,_,_,_,_,_,_,_,_,hr⟩:=hh.OO hT hp;rcases hr with⟨_,h0,_⟩|⟨_,_,h0,_⟩|⟨c',o',gen,t,e,xs,h',t',e',ys,_,h2,_,_,_,_,_,_,_,h4,h5⟩
    ·cases h0
    ·cases h0
    ·injection h2 with h2;injection h2 with h2 Vs;subst h2;subst Vs
     exact h5
   ·exact gR
  grind
theorem Handed.root{ps:List PM}{Tz:List AV}{us:List Value}{TX:List (List Lv)}{T:IL}(hh:Handed s W ps Tz us TX T){k:Key}{r j:Nat}(h:AT T k=some (.lf r j)):r∉Ah ps Tz:=by
 cases k with
 |fl k=>cases h
 |AS i=>obtain⟨r',e,_⟩:=BK h;cases e
 |lf i j'=>
  rcases BH h with⟨r',e,hT⟩|⟨l,c,o,e,hT,hl⟩
  ·injection e with e1 e2;subst e1
   exact fun hr=>hh.apart r hr i _ hT (r,none) (by simp[PT.D8]) rfl
  ·injection e with e1 e2
   exact fun hr=>hh.apart r hr i _ hT _ (H8 hl) e1.symm
theorem Ny(h:AU E s tm W){r j:Nat}(hj:(s.root r).ls.length≤j):W.om (.lf r j)=[]:=by obtain⟨h1,_⟩:=h.roots r;have:=h1 j;rw[A3 LA.bad hj]at this;exact this.1
theorem F8(h:AU E s tm W){ps:List PM}{Tz:List AV}{us:List Value}{TX:List (List Lv)}{T:IL}(hh:Handed s W ps Tz us TX T):
  CW ps W.w (Seen W (Ah ps Tz)) us TX (Fa T W.bk) (Al T W.om) where
 len:=hh.l2
 BW:=hh.l3
 each i pm u vs hp hu VF:=by
  obtain⟨av,u',WI,tg,h1,h2,h3,h4,h5⟩:=hh.all hp;rw[hu]at h2;injection h2 with h2;subst h2
  rw[VF]at h3;injection h3 with h3;subst h3
  cases pm with
  |val g ls=>
   obtain⟨_,q1,q2,q3⟩:=h5;refine⟨q1,q2,fun j p lv hj Ur=>?_⟩;obtain⟨y,hy,hr⟩:=q3 j p lv hj Ur;exact⟨y,hy,L.AI lv.l hr (fun _ _=>rfl) fun b hb=>hb.imp id fun⟨r,hr,x⟩=>⟨r,F3 ps Tz i g ls av hp h1 r hr,x⟩⟩
  |box ls=>
   obtain⟨r,AA,_,rfl,hb,hlen,Tj,W6,Tp⟩:=h5;obtain⟨_,UB⟩:=h.roots r;rw[gS hb]at UB;obtain⟨_,arr,T',fr,az,Tl,Tt,T3⟩:=UB;have e1:Fa T W.bk i=W.bk r:=by simp[Fa,h4]
   show My _ _ _ _ _ _ _;rw[e1];refine⟨Tj,W6,arr,T',fr,az,Tl,by omega,fun j p lv hj Ur=>?_⟩;have Tc:j<arr.size:=by rw[Tt,hlen];exact(gM.1 hj).1
   refine⟨arr[j],gp Tc,?_⟩;have e2:Al T W.om (.lf i j)=W.om (.lf r j):=by simp[Al,h4]
   show lv.l.rd p.2 _ _ _ _ (Al T W.om (.lf i j));rw[e2];exact L.AI lv.l (Tp j p lv arr[j] hj Ur (by grind)) (fun _ _=>rfl) fun b hb=>.inl hb
  |row g ls=>
   obtain⟨as,l,rfl,rfl,q3,q4,q5,q6,q7⟩:=h5;have UK:vs.length=ls.length:=by have:=congrArg List.length q5;simpa using this
   refine⟨⟨by simpa using q5,q6,fun j p lv hj Ur=>?_⟩,fun j p hj U7 aL=>?_⟩
   rotate_left
   ·have Tc:j<ls.length:=(gM.1 hj).1;obtain⟨a,ha⟩:=A7 q3 Tc;obtain⟨o,ho⟩:=A7 q4 Tc;obtain⟨lv,Ur⟩:=A7 UK Tc;obtain⟨y,hy,hr⟩:=q7 j p a lv o hj ha Ur ho
    have hl:lv.l=p.1:=by have:=congrArg (·[j]?) q5;simp only[ga,hj,Ur,iF,Option.some.injEq]at this;exact this
    rcases hr with⟨hs,_⟩|⟨_,_,_,rfl,_⟩|⟨_,_,_,_,_,_,_,_,_,_,_,_,_,Tf,_⟩
    ·rw[hl,U7]at hs;cases hs
    ·exact hy
    ·exact(Tf aL).elim
   have Tc:j<ls.length:=(gM.1 hj).1;obtain⟨a,ha⟩:=A7 q3 Tc;obtain⟨o,ho⟩:=A7 q4 Tc;obtain⟨y,hy,hr⟩:=q7 j p a lv o hj ha Ur ho;refine⟨y,hy,?_⟩;rcases hr with⟨hs,rfl,hr⟩|⟨Yb,_,rfl,rfl,t',e',rfl⟩|⟨c,o',gen,t,e,xs,h',t',e',ys,_,rfl,_,_,_,_,_,rfl,hr,_⟩
   ·have e2:Al T W.om (.lf i j)=[]:=by simp[Al,h4,ho]
    show lv.l.rd p.2 _ _ _ _ (Al T W.om (.lf i j));rw[e2];exact(L.AZ lv.l hs hr).1
   ·have e2:Al T W.om (.lf i j)=[]:=by simp[Al,h4,ho]
    show AD e' p.2 _ _ _ _ (Al T W.om (.lf i j));rw[e2];exact Bj
   ·have e2:Al T W.om (.lf i j)=o':=by simp[Al,h4,ho]
    show AD e' p.2 _ _ _ _ (Al T W.om (.lf i j));rw[e2];exact hr.frame (fun _ _=>rfl) fun b hb=>.inl hb
  |fn f=>exact h5.2
 AS i:=by
  cases hp:ps[i]? with
  |none=>
   have:T[i]?=none:=List.getElem?_eq_none (by have:=List.getElem?_eq_none_iff.1 hp;rw[hh.l4];exact this);simp[Al,this]
  |some pm=>
   obtain⟨av,u',WI,tg,h1,h2,h3,h4,h5⟩:=hh.all hp;cases pm with
   |val g ls=>obtain⟨rfl,_⟩:=h5;simp[Al,h4]
   |fn f=>obtain⟨rfl,_⟩:=h5;simp[Al,h4]
   |row g ls=>obtain⟨as,l,_,rfl,_⟩:=h5;simp[Al,h4]
   |box ls=>
    obtain⟨r,AA,_,rfl,hb,_⟩:=h5;obtain⟨_,UB⟩:=h.roots r;rw[gS hb]at UB;simp[Al,Fa,h4,UB.1]
 none i dD Wu j:=by
  cases hp:ps[i]? with
  |none=>
   have:T[i]?=none:=List.getElem?_eq_none (by have:=List.getElem?_eq_none_iff.1 hp;rw[hh.l4];exact this);simp[Al,this]
  |some pm=>
   obtain⟨av,u',WI,tg,h1,h2,h3,h4,h5⟩:=hh.all hp;cases pm with
   |val g ls=>obtain⟨rfl,_⟩:=h5;simp[Al,h4]
   |fn f=>obtain⟨rfl,_⟩:=h5;simp[Al,h4]
   |row g ls=>grind
   |box ls=>grind
 box i ls hp j hj:=by
  obtain⟨av,u',WI,tg,h1,h2,h3,h4,h5⟩:=hh.all hp;obtain⟨r,AA,_,rfl,hb,hlen,_⟩:=h5;have e2:Al T W.om (.lf i j)=W.om (.lf r j):=by simp[Al,h4]
  rw[e2];exact Ny h (by omega)
 row i g ls hp j hj:=by obtain⟨av,u',WI,tg,h1,h2,h3,h4,h5⟩:=hh.all hp;obtain⟨as,l,_,rfl,_,hl,_⟩:=h5;have:l[j]?=none:=List.getElem?_eq_none (by omega);simp[Al,h4,this]
 fl k:=rfl
 nodup k:=Jb h hh k
 Ar k k' Tf b hb Tk:=by obtain⟨a,ha,hb⟩:=CX hh hb;obtain⟨a',YY,Tk⟩:=CX hh Tk;refine h.sep.Ar a a' (fun e=>Tf ?_) b hb Tk;subst e;exact BX hh.nodup ha YY
 own k b hb:=by
  obtain⟨a,ha,hb⟩:=CX hh hb;obtain⟨q1,q2,q3⟩:=h.sep.own a b hb;refine⟨?_,q2⟩
  rintro (hz|⟨r,hr,j,hz⟩)
  ·exact q1 hz
  ·have YF:a=.lf r j:=gz fun Tf=>h.sep.Ar a _ Tf b hb hz;subst YF;exact hh.root ha hr
 fz b hb:=by
  rcases hb with hz|⟨r,hr,j,hz⟩
  ·exact(h.sep.fz b hz).1
  ·exact(h.sep.own _ b hz).2.1
end
end Go.Ev
namespace Go.Ev
mutual
theorem L.FR:∀(l:L) {w:World} {fz TZ:Nat→Prop} {v:Value} {x:l.D} {o:List Nat},l.rd 2 w fz v x o→l.rd 2 w TZ v x o
 | .int _,_,_,_,_,_,_,h=>h
 | .bool,_,_,_,_,_,_,h=>h
 | .str,_,_,_,_,_,_,h=>h
 | .sl _ e,w,fz,TZ,v,x,o,h=>by
  obtain⟨A,c,hv,hc,h⟩:=h;refine⟨A,c,hv,hc,?_⟩;cases A with
  |none=>exact h
  |some a=>
   rcases h with h|⟨g,os,Tb,Tr,ho⟩
   ·exact .inl h
   ·exact .inr ⟨g,os,Tb,fun i hi=>Ls.FR e (Tr i hi),ho⟩
theorem Ls.FR:∀(ls:Ls) {w:World} {fz TZ:Nat→Prop} {g:Nat→Option Value} {x:ls.D} {o:List Nat},ls.rd 2 w fz g x o→ls.rd 2 w TZ g x o
 | .nil,_,_,_,_,_,_,h=>h
 | .one l,_,_,_,_,_,_,h=>by simp only[Ls.rd]at h ⊢;obtain⟨v,hg,h⟩:=h;exact⟨v,hg,L.FR l h⟩
 | .cons l ls,_,_,_,_,_,_,h=>by simp only[Ls.rd]at h ⊢;obtain⟨v,o1,o2,hg,h1,h2,rfl⟩:=h;exact⟨v,o1,o2,hg,L.FR l h1,Ls.FR ls h2,rfl⟩
end
def Conv(ls:List (L×Nat))(w:World)(fz TZ:Nat→Prop):Prop:=∀p∈ls,∀(l:L)(x:l.D)(y:Value)(o:List Nat),l=p.1→l.rd p.2 w fz y x o→l.rd p.2 w TZ y x o
theorem Conv.mono{ls:List (L×Nat)}{w:World}{fz TZ:Nat→Prop}(h:∀b,fz b→TZ b):Conv ls w fz TZ:=fun p _ l x y o _ hr=>L.AI l hr (fun _ _=>rfl) h
theorem Conv.fresh{ls:List (L×Nat)}(hf:fresh ls=true)(w:World)(fz TZ:Nat→Prop):Conv ls w fz TZ:=by
 intro p hp l x y o hl hr;have:=gY.1 hf p hp;simp only[gl,gW,gV,gL]at this;obtain⟨l',m⟩:=p;dsimp only at hl this hr ⊢;subst hl;rcases this with((h1|h1)|h1)|⟨h1,h2⟩
 ·exact(L.AZ l h1 hr).1
 ·subst h1;exact L.FR l hr
 ·subst h1;exact(L.CQ l).2 (L.FR l ((L.CQ l).1 hr))
 ·subst h1;cases l with
  |sl t e=>
   obtain⟨A,c,hv,hc,h⟩:=hr;refine⟨A,c,hv,hc,?_⟩;cases A with
   |none=>exact h
   |some a=>
    rcases h with h|⟨g,os,Tb,Tr,ho⟩
    ·exact .inl h
    ·exact .inr ⟨g,os,Tb,fun i hi=>(Ls.AZ e h2 (Tr i hi)).1,ho⟩
  |int k=>exact hr
  |bool=>exact hr
  |str=>exact hr
theorem FX.conv{w:World}{fz TZ:Nat→Prop}{g:Bool}{ls:List (L×Nat)}{u:Value}{vs:List Lv}{own:Nat→List Nat}(h:FX w fz g ls u vs own)(hc:Conv ls w fz TZ):FX w TZ g ls u vs own:=by
 obtain⟨h1,h2,h3⟩:=h;refine⟨h1,h2,fun j p lv hp Ur=>?_⟩;obtain⟨y,hy,hr⟩:=h3 j p lv hp Ur
 have hl:lv.l=p.1:=by have:=congrArg (·[j]?) h1;simp only[ga,hp,Ur,iF,Option.some.injEq]at this;exact this
 exact⟨y,hy,hc p (gP hp) lv.l lv.x y _ hl hr⟩
theorem EA.conv{w:World}{fz TZ:Nat→Prop}{om:Nat→List Nat}:∀ {rs:List (Bool×List (L×Nat))} {rv:List Value} {TX:List (List Lv)} {off:Nat},EA w fz om rs rv TX off→Conv (rs.flatMap (·.2)) w fz TZ→EA w TZ om rs rv TX off
 | [],[],[],_,h,hc=>h
 | [],[],_::_,_,h,hc=>h.elim
 | [],_::_,_,_,h,hc=>by simp[EA]at h
 |_::_,[],_,_,h,hc=>by simp[EA]at h
 |_::_,_::_,[],_,h,hc=>by simp[EA]at h
 |(g,ls)::rs,u::us,vs::TX,off,h,hc=>
  ⟨FX.conv h.1 fun p hp=>hc p (by simp[hp]),EA.conv h.2 fun p hp=>hc p (by
   grind)⟩
theorem JW.conv{w:World}{fz TZ:Nat→Prop}{pm:PM}{u:Value}{vs:List Lv}{AS:Nat}{own:Nat→List Nat}(h:JW w fz pm u vs AS own)(hc:Conv pm.outs w fz TZ):JW w TZ pm u vs AS own:=by
 cases pm with
 |val g ls=>exact h
 |fn f=>exact h
 |box ls=>
  obtain⟨h1,h2,arr,T,fr,q1,q2,q3,h3⟩:=h;refine⟨h1,h2,arr,T,fr,q1,q2,q3,fun j p lv hp Ur=>?_⟩;obtain⟨y,hy,hr⟩:=h3 j p lv hp Ur
  have hl:lv.l=p.1:=by have:=congrArg (·[j]?) h2;simp only[ga,hp,Ur,iF,Option.some.injEq]at this;exact this
  exact⟨y,hy,hc p (gP hp) lv.l lv.x y _ hl hr⟩
 |row g ls=>exact FX.conv h hc
theorem JW.len{w:World}{fz:Nat→Prop}{pm:PM}{u:Value}{vs:List Lv}{AS:Nat}{own:Nat→List Nat}(h:JW w fz pm u vs AS own):vs.length=pm.outs.length:=by
 cases pm with
 |val g ls=>rw[show vs=[]from h];rfl
 |fn f=>rw[show vs=[]from h];rfl
 |box ls=>have:=congrArg List.length h.2.1;simpa[PM.outs]using this
 |row g ls=>have:=congrArg List.length h.1;simpa[PM.outs]using this
open Classical in
noncomputable def K2 (T:IL) (om qf:Key→List Nat) (fl:Nat→List Nat):Key→List Nat
 | .fl n=>fl n
 | .AS r=>if h:∃c,AT T c=some (.AS r)then qf h.choose else om (.AS r)
 | .lf r j=>if h:∃c,AT T c=some (.lf r j)then qf h.choose else om (.lf r j)
theorem LI{T:IL}{c:Key}{n:Nat}:AT T c≠some (.fl n):=by
 intro h;cases c with
 |fl c=>cases h
 |AS i=>obtain⟨r,e,_⟩:=BK h;cases e
 |lf i j=>rcases BH h with⟨r,e,_⟩|⟨l,c,o,e,_⟩<;>cases e
open Classical in
theorem Mt{T:IL}(hn:(T.flatMap PT.D8).Pairwise NH){om qf:Key→List Nat}{fl:Nat→List Nat}{c k:Key}(h:AT T c=some k):K2 T om qf fl k=qf c:=by
 have hex:∃c,AT T c=some k:=⟨c,h⟩;have hc:hex.choose=c:=BX hn hex.choose_spec h;cases k with
 |fl n=>exact absurd h LI
 |AS r=>
  show(if h:∃c,AT T c=some (.AS r)then qf h.choose else om (.AS r))=_;grind
 |lf r j=>
  show(if h:∃c,AT T c=some (.lf r j)then qf h.choose else om (.lf r j))=_;grind
theorem Ms{T:IL}{om qf:Key→List Nat}{fl:Nat→List Nat}{k:Key}(h:∀c,AT T c≠some k)(hk:∀n,k≠.fl n):K2 T om qf fl k=om k:=by
 have hex:¬ ∃c,AT T c=some k:=fun⟨c,hc⟩=>h c hc;cases k with
 |fl n=>grind
 |AS r=>exact dif_neg hex
 |lf r j=>exact dif_neg hex
section
variable {P:Program}{E:Cr}{s:St}{W:Wd}{v:Nat}{tm:Array Value}{cx:Cx}
theorem Jo(h:AU E s tm W)(hv:Ac s v){ks:List (L×Nat)}{rs:List Nat}{fs:List Wr}{w':World}{TZ:Nat→Prop}(hf:(if fresh ks then some []else Aw cx s rs)=some fs):
  ∃W1 fzB,AU E (s.app fs) tm W1∧JV s (s.app fs) W W1 rs∧(∀b,W1.fz b→fzB b)∧(∀b,fzB b→W1.fz b∨(TZ b∧(Seen W rs b→W1.fz b)))∧Conv ks w' TZ fzB:=by
 split at hf
 ·rename_i UQ;injection hf with hf;subst hf
  exact⟨W,W.fz,h,⟨⟨rfl,rfl,fun _=>⟨rfl,rfl,rfl⟩⟩,rfl,rfl,rfl,fun _ _ _=>rfl,fun _ _=>.inl rfl,fun _ _ _=>rfl,fun _=>rfl,fun _ _ hb=>hb,fun _ hb=>hb,fun _ hb=>.inl hb⟩,fun _ hb=>hb,fun _ hb=>.inl hb,Conv.fresh UQ _ _ _⟩
 ·obtain⟨W1,h1,h2,h3⟩:=Em h hv hf;exact⟨W1,fun b=>W1.fz b∨TZ b,h1,h2,fun b hb=>.inl hb,fun b hb=>hb.imp id fun hb=>⟨hb,h3 b⟩,Conv.mono fun b hb=>.inr hb⟩
theorem M7(h:AU E s tm W)(hv:Ac s v){d:Nat}(hd:d<tm.size){g:Sm}{Tz:List AV}{us:List Value}{TX:List (List Lv)}{T:IL}(hh:Handed s W g.ps Tz us TX T)
  {z:g.outs.D} {r:Value} {w':World} {TZ:Nat→Prop} {UE:Key→List Nat} {rv:List Value} {vsR vsP:List (List Lv)} (co:Ee g W.w (Seen W (Ah g.ps Tz)) us (Fa T W.bk) (Al T W.om) z r w' TZ UE rv vsR vsP)
  {fs pw:List Wr} {bs:List (Bool×List LA)} {own left:_} (hf:(if fresh g.Gr then some []else Aw cx s (Ah g.ps Tz))=some fs) (hb:Dv d v g.rs (unpack g.outs z) 0=some (bs,own,left)) (hp:AW s v g.ps Tz left=some pw):
  ∃W',W'.w=w'∧AU E (s.app (fs++pw++[.root d ⟨false,v,own⟩,.slot d (Kh bs)])) (tm.setIfInBounds d r) W':=by
 have TW:=F8 h hh;obtain⟨W1,fzB,h1,UQ,Vg,Xd,Ya⟩:=Jo (cx:=cx) (w':=w') (TZ:=TZ) h hv hf;have XW:=UQ.Hp hv;have W5:=EA.conv co.H3 (TZ:=fzB) fun p hp=>Ya p (gX _ hp)
 have Vu:∀(i:Nat)(pm:PM)(u:Value)(vs:List Lv),g.ps[i]?=some pm→us[i]?=some u→vsP[i]?=some vs→JW w' fzB pm u vs (Fa T W.bk i) fun j=>UE (.lf i j):=fun i pm u vs e1 e2 e3=>
  (co.each i pm u vs e1 e2 e3).conv fun p hp=>Ya p (gU _ (gN.2 ⟨pm,gP e1,hp⟩))
 rw[co.outs]at hb;obtain⟨rfl,X1,ys,dP,WB,cY⟩:=HJ g.rs rv vsR vsP.flatten 0 W5 hb
 obtain⟨U,rfl,cq,hU⟩:=Gj (s:=s) (v:=v) g.ps Tz vsP co.len (fun i pm vs e1 e2=>by
  obtain⟨av,u,_,_,_,q2,_⟩:=hh.all e1;exact(Vu i pm u vs e1 q2 e2).len) hp
 have cT:∀ {i:Nat} {m:PT},T[i]?=some m→∃pm av u vs vo uo,g.ps[i]?=some pm∧Tz[i]?=some av∧us[i]?=some u∧vsP[i]?=some vo∧U[i]?=some uo∧G8 s W pm av m u vs∧M5 s v pm av vo uo∧JW w' fzB pm u vo (Fa T W.bk i) (fun j=>UE (.lf i j)):=by intro i m hT;obtain⟨pm,av,u,vs,e1,e2,e3,e4,e5⟩:=hh.PL hT;have hi:i<g.ps.length:=(gM.1 e1).1;obtain⟨vo,e6⟩:=A7 co.len hi;obtain⟨uo,e7⟩:=A7 cq hi;exact⟨pm,av,u,vs,vo,uo,e1,e2,e3,e6,e7,e5,hU i pm av vo uo e1 e2 e6 e7,Vu i pm u vo e1 e3 e6⟩
 have YI:∀u∈U.flatten,(∃(i:Nat) (ls:List (L×Nat)) (vo:List Lv),T[i]?=some (.box u.r)∧U[i]?=some [u]∧u=⟨u.r,0,AX s u.r v 0 ls vo⟩∧vo.length=ls.length∧(s.root u.r).box=true∧(s.root u.r).ls.length=ls.length) ∨
   (∃(i:Nat) (l:List (Option (Loc×List Nat))) (j:Nat) (c:Loc) (o:List Nat) (g':Bool) (ls:List (L×Nat)) (as:List LA) (vo:List Lv),T[i]?=some (.row l)∧l[j]?=some (some (c,o))∧g.ps[i]?=some (.row g' ls)∧Tz[i]?=some (.v g' as)∧vsP[i]?=some vo∧Ex s v ls as vo j u∧u.r=c.r∧u.lo=c.j∧u.news.length=1∧c.r<s.ro.length∧c.j<(s.root c.r).ls.length):=by
  intro u hu;obtain⟨uo,hm,hu⟩:=List.mem_flatten.1 hu;obtain⟨i,hi⟩:=hM hm;have Tc:i<g.ps.length:=by rw[←cq];exact(gM.1 hi).1
  obtain⟨m,hT⟩:=A7 hh.l4 Tc;obtain⟨pm,av,u',vs,vo,uo',e1,e2,e3,e4,e5,e6,e7,e8⟩:=cT hT;rw[hi]at e5;injection e5 with e5;subst e5
  cases pm with
  |val g' ls=>rw[show uo=[]from e7]at hu;cases hu
  |fn f=>rw[show uo=[]from e7]at hu;cases hu
  |box ls=>
   obtain⟨r,AA,q1,q2⟩:=e7;obtain⟨r',X0,q3,rfl,q4,q5,_⟩:=e6;rw[q1]at q3;injection q3 with _ q3;injection q3 with q3;injection q3 with q3
   subst q3;subst q2;have:=hJ.1 hu;subst this;exact .inl ⟨i,ls,vo,hT,hi,rfl,by simpa[PM.outs]using e8.len,q4,q5⟩
  |row g' ls=>
   obtain⟨as,l,rfl,rfl,q3,q4,q5,q6,q7⟩:=e6;obtain⟨g2,as2,q8,q9⟩:=e7;injection q8 with q8 cd;subst q8;subst cd
   obtain⟨j,hj⟩:=q9.1 u hu;have ZX:=hj;obtain⟨p,c,lv2,AA,gen,t0,e0,xs0,d0,F,h1,h2,h3,h4,h5,h6,rfl⟩:=hj;have Y5:j<ls.length:=(gM.1 h1).1;have UK:vs.length=ls.length:=by have:=congrArg List.length q5;simpa using this
   obtain⟨lv,Ur⟩:=A7 UK Y5;obtain⟨o,ho⟩:=A7 q4 Y5;obtain⟨y,hy,hr⟩:=q7 j p _ lv o h1 h3 Ur ho
   have hl:lv.l=p.1:=by have:=congrArg (·[j]?) q5;simp only[ga,h1,Ur,iF,Option.some.injEq]at this;exact this
   obtain⟨a1,a2⟩:=G2 h5;rcases hr with⟨hs,_⟩|⟨_,k0,_⟩|⟨c',o',_,_,_,_,_,_,_,_,k1,k2,_⟩
   ·rw[hl,h2]at hs;cases hs
   ·cases k0
   ·injection k1 with k1;subst k1;subst k2
    exact .inr ⟨i,l,j,c,o',_,ls,as,vo,hT,ho,e1,e2,e4,ZX,rfl,rfl,rfl,a1,a2⟩
 have T5:∀u∈U.flatten,(u.news=[]∨u.r<(s.app fs).ro.length)∧u.lo+u.news.length≤((s.app fs).root u.r).ls.length:=by
  intro u hu;rw[UQ.same.len,(UQ.same.box u.r).2.2];rcases YI u hu with⟨i,ls,vo,hT,YC,he,UK,hb,hl⟩|⟨i,l,j,c,o,g',ls,as,vo,hT,hl,e1,e2,e3,hr,q1,q2,q3,q4,q5⟩
  ·refine⟨.inr (JN hb),?_⟩;rw[hl,he];simp[C8 s u.r v 0 ls vo UK]
  ·rw[q1,q2,q3];exact⟨.inr q4,q5⟩
 obtain⟨UA,T9⟩:=II U.flatten (s.app fs) T5;rw[BC,BC];generalize s.app fs=s1 at h1 UQ T5 UA T9 XW;generalize s1.app (Ed U.flatten)=s2 at UA T9
 have bR:∀u∈U.flatten,∀r j,r=u.r∧u.lo≤j∧j<u.lo+u.news.length→∃c,AT T c=some (.lf r j):=by
  intro u hu r j hc;rcases YI u hu with⟨i,ls,vo,hT,YC,he,UK,hb,hl⟩|⟨i,l,jj,c,o,g',ls,as,vo,hT,hl,e1,e2,e3,hr,q1,q2,q3,q4,q5⟩
  ·exact⟨.lf i j,by rw[hc.1];simp[AT,hT]⟩
  ·have:j=c.j:=by omega
   subst this;exact⟨.lf i jj,by rw[hc.1,q1];simp[AT,hT,hl]⟩
 have dO:∀(r j:Nat),(∀c,AT T c≠some (.lf r j))→s2.leaf r j=s1.leaf r j:=by
  intro r j hn;rw[T9]
  exact Jn r j _ _ fun u hu hc=>by obtain⟨c,hk⟩:=bR u hu r j hc;exact hn c hk
 have Wh:∀k,∀b∈Al T W.om k,∃a,AT T k=some a∧b∈W.om a:=fun k b hb=>CX hh hb;have Z3:∀b,W1.fz b→b<W.w.heap.size∧∀k,b∉Al T W.om k:=fun b hb=>⟨TW.fz b (UQ.fz b hb),fun k hk=>(TW.own k b hk).1 (UQ.fz b hb)⟩
 have Y2:∀k,(∀c,AT T c≠some k)→∀b∈W1.om k,b<W.w.heap.size∧∀c,b∉Al T W.om c:=by intro k hk b hb;have W9:=UQ.sub k b hb;refine⟨(h.sep.own k b W9).2.1,fun c hc=>?_⟩;obtain⟨a,ha,U9⟩:=Wh c b hc;exact h.sep.Ar k a (fun e=>hk c (e▸ha)) b W9 U9
 have XA:∀ {i r:Nat},T[i]?=some (.box r)→∃(ls:List (L×Nat)) (vo:List Lv) (arr:Array Value) (T':TypeId) (fr:Nat×Nat),(s.root r).ls.length=ls.length∧vo.length=ls.length∧w'.heap[W1.bk r]?=some (.cells arr T' fr)∧(∀j,j<arr.size→¬(fr.1≤j∧j<fr.2))∧arr.size=ls.length∧
   (∀(j:Nat)(p:L×Nat)(lv:Lv),ls[j]?=some p→vo[j]?=some lv→∃y,arr[j]?=some y∧lv.l.rd p.2 w' fzB y lv.x (UE (.lf i j)))∧(∀j,s2.leaf r j=if j<ls.length then nth .bad (AX s r v 0 ls vo) j else .bad)∧∀(j:Nat)(p:L×Nat),ls[j]?=some p→p.2=3→arr[j]?=W.cv r j:=by
  intro i r hT;obtain⟨pm,av,u',vs,vo,uo,e1,e2,e3,e4,e5,e6,e7,e8⟩:=cT hT;cases pm with
  |val g' ls=>cases e6.1
  |fn f=>cases e6.1
  |row g' ls=>obtain⟨_,_,_,q,_⟩:=e6;cases q
  |box ls=>
   obtain⟨r',X0,q3,q4,Vt,hlen,_⟩:=e6;injection q4 with q4;subst q4
   obtain⟨r2,ver2,q5,q6⟩:=e7;rw[q5]at q3;injection q3 with _ q3;injection q3 with q3;injection q3 with q3
   subst q3;subst q6;have UK:vo.length=ls.length:=by simpa[PM.outs]using e8.len
   obtain⟨b1,b2,arr,T',fr,b3,b4,b5,b6⟩:=e8;have XS:Fa T W.bk i=W1.bk r2:=by rw[UQ.bk];simp[Fa,hT]
   rw[XS]at b3
   have bo:∀(j:Nat)(p:L×Nat),ls[j]?=some p→p.2=3→arr[j]?=W.cv r2 j:=by intro j p hj hp;have hq:=co.kept i ls j p e1 hj hp;obtain⟨_,q2⟩:=h.roots r2;rw[gS Vt]at q2;obtain⟨_,arr0,T0,fr0,k1,_,_,k2⟩:=q2;rw[k2];rw[XS]at hq;have cu:=b3;rw[UQ.bk]at hq cu;simpa[World.cell?,cu,k1]using hq
   refine⟨ls,vo,arr,T',fr,hlen,UK,b3,b4,b5,b6,fun j=>?_,bo⟩;have U6:=C8 s r2 v 0 ls vo UK;split
   ·rename_i hj;rw[T9];refine I4 r2 j U.flatten _ (fun u hu hc=>?_) (.inr ⟨⟨r2,0,AX s r2 v 0 ls vo⟩,List.mem_flatten.2 ⟨_,gP e5,List.mem_singleton_self _⟩,rfl,Nat.zero_le _,by rw[U6];omega⟩);rcases YI u hu with⟨i',XH,cg,UL,YC,he,_⟩|⟨i',l,jj,c,o,g',XH,as,cg,UL,hl,_,_,_,hr,q1,q2,q3,_⟩
    ·have V5:Key.AS i'=.AS i:=BX hh.nodup (a:=.AS r2) (by rw[hc.1];simp[AT,UL]) (by simp[AT,hT]);injection V5 with V5;subst V5
     rw[e5]at YC;injection YC with YC;injection YC with YC;subst YC
     simp
    ·have:j=c.j:=by omega
     subst this;have V5:Key.lf i' jj=.lf i c.j:=BX hh.nodup (a:=.lf r2 c.j) (by rw[hc.1,q1];simp[AT,UL,hl]) (by simp[AT,hT]);injection V5 with V5;subst V5
     rw[hT]at UL;cases UL
   ·rename_i hj;unfold St.leaf;rw[A3];rw[(UA.box r2).2.2,(UQ.same.box r2).2.2,hlen];omega
 have Xv:∀ {i jj:Nat} {l:List (Option (Loc×List Nat))} {c:Loc} {o:List Nat},T[i]?=some (.row l)→l[jj]?=some (some (c,o))→∃(q:List Nat) (AA gen:Nat) (t t0:TypeId) (e:Ls) (xs UJ:List e.D) (d0:Nat) (u:Value),s.leaf c.r c.j=.arr AA gen t e xs d0∧s2.leaf c.r c.j=.arr AA v t0 e UJ d0∧W1.cv c.r c.j=some u∧AD e d0 w' fzB u UJ q∧Nu (W.om (.lf c.r c.j)) o (UE (.lf i jj)) q:=by
  intro i jj l c o hT hl;obtain⟨pm,av,u',vs,vo,uo,e1,e2,e3,e4,e5,e6,e7,e8⟩:=cT hT;cases pm with
  |val g' ls=>cases e6.1
  |fn f=>cases e6.1
  |box ls=>obtain⟨_,_,_,q,_⟩:=e6;cases q
  |row g' ls=>
   obtain⟨g2,ls2,as,u2,vs2,p,lv,y,f1,f2,f3,f4,f5,f6,f7,f8,f9,f10,hr⟩:=hh.OO hT hl;rw[e1]at f1;injection f1 with f1;injection f1 with f1 dW;subst f1;subst dW
   rw[e2]at f2;injection f2 with f2;subst f2
   rw[e3]at f3;injection f3 with f3;subst f3
   obtain⟨g3,as3,q8,q9⟩:=e7;injection q8 with q8 cd;subst q8;subst cd
   obtain⟨u,hu,dK⟩:=q9.2 jj p f5 f8 (by rcases hr with⟨_,h0,_⟩|⟨_,_,h0,_⟩|⟨_,_,_,_,_,_,_,_,_,_,_,_,_,Tf,_⟩;cases h0;cases h0;exact Tf);have cP:=dK;obtain⟨p',c',lo,AA,gen,t0,e0,xs0,d0,F,VC,Vs,ZS,db,bI,dc,Zd⟩:=dK;rw[f5]at VC;injection VC with VC;subst VC
   rw[f6]at ZS;injection ZS with ZS;injection ZS with ZS;subst ZS
   have hk:AT T (.lf i jj)=some (.lf c.r c.j):=by simp[AT,hT,hl]
   have TV:s2.leaf c.r c.j=.arr AA v t0 e0 (F xs0) d0:=by
    rw[T9];have Yl:nth .bad u.news (c.j-u.lo)=.arr AA v t0 e0 (F xs0) d0:=by rw[Zd];simp[nth]
    refine I4 c.r c.j U.flatten _ (fun u2 Zc hc=>?_) (.inr ⟨u,List.mem_flatten.2 ⟨_,gP e5,hu⟩,by rw[Zd];simp⟩);rcases YI u2 Zc with⟨i',XH,cg,UL,YC,he,_⟩|⟨i',l',j',c',o',g',XH,Wm,cg,UL,Ue,g1,g2,g3,UI,q1,q2,q3,_⟩
    ·have V5:Key.lf i' c.j=.lf i jj:=BX hh.nodup (a:=.lf c.r c.j) (by rw[hc.1];simp[AT,UL]) hk;injection V5 with V5;subst V5
     rw[hT]at UL;cases UL
    ·have ax:c.j=c'.j:=by omega
     have V5:Key.lf i' j'=.lf i jj:=BX hh.nodup (a:=.lf c.r c.j) (by rw[hc.1,q1,ax];simp[AT,UL,Ue]) hk;injection V5 with V5 a7;subst V5;subst a7
     rw[e1]at g1;injection g1 with g1;injection g1 with g1 dY;subst g1;subst dY
     rw[e2]at g2;injection g2 with g2;injection g2 with g2 dZ;subst dZ
     rw[e4]at g3;injection g3 with g3;subst g3
     rw[←UI.uniq cP]at Yl;exact Yl
   obtain⟨m1,m2,m3⟩:=(show FX w' fzB _ ls u' vo (fun j=>UE (.lf i j))from e8);obtain⟨y',Vq,Uy⟩:=m3 jj p lo f5 db;rw[f10]at Vq;injection Vq with Vq;subst Vq
   rcases hr with⟨_,k0,_⟩|⟨_,k0,_⟩|⟨c2,o2,gen2,t2,ZR,xs2,bh,t',e',ys,k1,k2,k3,_,k4,k5,k6,k7,k8,k9,k10⟩
   ·cases k0
   ·cases k0
   ·injection k1 with k1;subst k1
    injection k2 with k2;injection k2 with k2 eZ;subst eZ
    rw[bI]at k3;injection k3 with a1 a2 a3 a4 a5 a6
    subst a1;subst a2;subst a3;subst a4;have a5:=eq_of_heq a5;subst a5;obtain⟨uu,bE,Th⟩:=(h.roots c.r).row bI;rw[k5]at bE;injection bE with bE;subst bE
    rw[a6]at Th;obtain⟨t3,fn,zs,po,n1,n2,n3,n4,n5⟩:=OB c.p dc Th k6 k4 (h.sep.nodup _);obtain⟨z1,z2⟩:=n2.uniq k8;subst z1;subst z2
    have U2:lo.l=.sl t3 e'∧∃ck,HEq lo.x ck∧fn zs=ck:=by
     unfold ON at n1;split at n1
     ·rename_i yy eX;obtain⟨b1,b2⟩:=L.AH eX;injection n1 with n1
      refine⟨b1,yy,?_,by rw[←n1]⟩;obtain⟨ll,xx⟩:=lo;dsimp only at b1 b2 ⊢;subst b1;exact heq_of_eq b2
     ·cases n1
    obtain⟨aA,ck,aB,bt⟩:=U2
    have ZI:AD e' p.2 w' fzB y (fn zs) (UE (.lf i jj)):=by obtain⟨ll,xx⟩:=lo;dsimp only at aA aB Uy;subst aA;have:=eq_of_heq aB;subst this;rw[bt];exact Uy
    obtain⟨q,aO,aP⟩:=n5 w' fzB (UE (.lf i jj)) ZI {
     nd:=co.nodup _
     new:=fun b hb cw=>by
      rcases(co.own _ b hb).2.2 with US|⟨k0,XU⟩
      ·have:=(h.sep.own _ b cw).2.1;omega
      ·obtain⟨a,ha,Zp⟩:=Wh k0 b XU;have:a=.lf c.r c.j:=gz fun Tf=>h.sep.Ar a _ Tf b Zp cw;subst this;have:=BX hh.nodup ha hk;subst this;have e9:Al T W.om (.lf i jj)=po:=by simp[Al,hT,hl]
       rw[←e9];exact XU
     rest:=fun b hb=>by
      refine co.frame b ?_ fun k0 XU=>?_
      ·rcases hb with hb|hb
       ·exact(h.sep.own _ b hb.1).2.1
       ·exact(h.sep.fz b hb).1
      ·rcases hb with hb|hb
       ·obtain⟨a,ha,Zp⟩:=Wh k0 b XU;have:a=.lf c.r c.j:=gz fun Tf=>h.sep.Ar a _ Tf b Zp hb.1;subst this;have:=BX hh.nodup ha hk;subst this;have e9:Al T W.om (.lf i jj)=po:=by simp[Al,hT,hl]
        rw[e9]at XU;exact hb.2 XU
       ·exact(TW.own k0 b XU).1 (.inl hb)
     fz:=fun b hb=>Vg b (UQ.up b hb) }
    exact⟨q,_,_,_,t0,e0,xs0,F xs0,d0,bh,bI,TV,by rw[UQ.cv];exact k5,by rw[a6];exact aO,aP⟩
 have eF:∀c,∃q:List Nat,∀k,AT T c=some k→q.Nodup∧(∀b∈q,b∈UE c∨(b∈W1.om k∧b<W.w.heap.size∧∀c',b∉Al T W.om c'))∧(∀r,k=.AS r→q=UE c)∧
   (∀i j r,c=.lf i j→T[i]?=some (.box r)→q=if j<(s.root r).ls.length then UE c else [])∧
   (∀i j l cc o,c=.lf i j→T[i]?=some (.row l)→l[j]?=some (some (cc,o))→∃(AA gen:Nat) (t t0:TypeId) (e:Ls) (xs UJ:List e.D) (d0:Nat) (u:Value),s.leaf cc.r cc.j=.arr AA gen t e xs d0∧s2.leaf cc.r cc.j=.arr AA v t0 e UJ d0∧W1.cv cc.r cc.j=some u∧AD e d0 w' fzB u UJ q):=by
  intro c;cases hk:AT T c with
  |none=>exact⟨[],fun k Ud=>by cases Ud⟩
  |some k=>
   cases c with
   |fl n=>cases hk
   |AS i=>
    obtain⟨r,rfl,hT⟩:=BK hk;refine⟨UE (.AS i),fun k Ud=>?_⟩;injection Ud with Ud;subst Ud
    exact⟨co.nodup _,fun b hb=>.inl hb,fun _ _=>rfl,fun _ _ _ e=>by(cases e),fun _ _ _ _ _ e=>by(cases e)⟩
   |lf i j=>
    rcases BH hk with⟨r,rfl,hT⟩|⟨l,cc,o,rfl,hT,hl⟩
    ·refine⟨if j<(s.root r).ls.length then UE (.lf i j)else [],fun k Ud=>?_⟩;injection Ud with Ud;subst Ud
     refine⟨?_,?_,fun _ e=>by(cases e),?_,?_⟩
     ·split
      ·exact co.nodup _
      ·exact gR
     ·intro b hb;split at hb
      ·exact .inl hb
      ·cases hb
     ·intro i' j' r' e UL;injection e with e1 e2;subst e1;subst e2
      rw[hT]at UL;injection UL with UL;injection UL with UL;subst UL
      rfl
     ·intro i' j' l' dT o' e UL;injection e with e1 e2;subst e1;subst e2
      rw[hT]at UL;cases UL
    ·obtain⟨q,AA,gen,t,t0,e,xs,UJ,d0,u,p1,p2,p3,p4,p5,p6⟩:=Xv hT hl;refine⟨q,fun k Ud=>?_⟩;injection Ud with Ud;subst Ud
     have e9:Al T W.om (.lf i j)=o:=by simp[Al,hT,hl]
     refine⟨p5,fun b hb=>?_,fun _ e=>by(cases e),?_,?_⟩
     ·rcases p6 b hb with hb|⟨U9,VD⟩
      ·exact .inl hb
      ·refine .inr ⟨by rw[UQ.om _ _ (hh.root hk)];exact U9,(h.sep.own _ b U9).2.1,fun c' UF=>?_⟩;obtain⟨a,ha,Zp⟩:=Wh c' b UF;have:a=.lf cc.r cc.j:=gz fun Tf=>h.sep.Ar a _ Tf b Zp U9;subst this;have:=BX hh.nodup ha hk;subst this;rw[e9]at UF;exact VD UF
     ·intro i' j' r' e UL;injection e with e1 e2;subst e1;subst e2
      rw[hT]at UL;cases UL
     ·intro i' j' l' dT o' e UL Ue;injection e with e1 e2;subst e1;subst e2
      rw[hT]at UL;injection UL with UL;injection UL with UL;subst UL
      rw[hl]at Ue;injection Ue with Ue;injection Ue with Ue;injection Ue with q1 q2;subst q1
      exact⟨AA,gen,t,t0,e,xs,UJ,d0,u,p1,p2,p3,p4⟩
 obtain⟨qf,bB⟩:=Classical.axiomOfChoice eF
 let chb:Nat→Prop:=fun r=>∃i:Nat,T[i]?=some (.box r)
 let chk:Nat→Nat→Prop:=fun r j=>∃c,AT T c=some (.lf r j)
 let newcv:Nat→Nat→Option Value:=fun r j=>match w'.heap[W1.bk r]? with
  |some (.cells arr _ _)=>arr[j]?
  |_=>none
 open Classical in
 let W2:Wd:={
  w:=w'
  fz:=fzB
  cv:=fun r j=>if chb r then newcv r j else W1.cv r j
  bk:=W1.bk
  om:=K2 T W1.om qf fun n=>UE (.fl n) }
 have hW2om:∀k,W2.om k=K2 T W1.om qf (fun n=>UE (.fl n)) k:=fun _=>rfl;have Z2:∀k,W2.om (.fl k)=UE (.fl k):=fun k=>rfl;have YE:∀ {c k},AT T c=some k→W2.om k=qf c:=fun hk=>Mt hh.nodup hk;have YD:∀ {k},(∀c,AT T c≠some k)→(∀n,k≠.fl n)→W2.om k=W1.om k:=fun hk hn=>Ms hk hn
 have YU:∀k,∀b∈W2.om k,(∃c,(AT T c=some k∨∃n,k=.fl n∧c=.fl n)∧b∈UE c)∨(b∈W1.om k∧b<W.w.heap.size∧∀c,b∉Al T W.om c):=by
  intro k b hb;by_cases hk:∃c,AT T c=some k
  ·obtain⟨c,hk⟩:=hk;rw[YE hk]at hb;rcases(bB c k hk).2.1 b hb with hb|hb
   ·exact .inl ⟨c,.inl hk,hb⟩
   ·exact .inr hb
  ·have hk:∀c,AT T c≠some k:=fun c hc=>hk ⟨c,hc⟩;by_cases hn:∃n,k=.fl n
   ·obtain⟨n,rfl⟩:=hn;exact .inl ⟨.fl n,.inr ⟨n,rfl,rfl⟩,hb⟩
   ·rw[YD hk fun n e=>hn ⟨n,e⟩]at hb;exact .inr ⟨hb,Y2 k hk b hb⟩
 have b9:∀c,∀b∈UE c,¬fzB b:=by
  intro c b hb hz;obtain⟨q1,q2,q3⟩:=co.own c b hb;rcases Xd b hz with hz|⟨hz,Xw⟩
  ·obtain⟨p1,p2⟩:=Z3 b hz;rcases q3 with q3|⟨k0,q3⟩
   ·omega
   ·exact p2 k0 q3
  ·exact q1 hz
 have Wx:∀b,(b<W.w.heap.size∧∀c,b∉Al T W.om c)→∀c,b∉UE c:=by
  intro b hb c hc;rcases(co.own c b hc).2.2 with q|⟨k0,q⟩
  ·omega
  ·exact hb.2 k0 q
 have VB:Sep E W2:={
  nodup:=by
   intro k;by_cases hk:∃c,AT T c=some k
   ·obtain⟨c,hk⟩:=hk;rw[YE hk];exact(bB c k hk).1
   ·have hk:∀c,AT T c≠some k:=fun c hc=>hk ⟨c,hc⟩;by_cases hn:∃n,k=.fl n
    ·obtain⟨n,rfl⟩:=hn;exact co.nodup _
    ·rw[YD hk fun n e=>hn ⟨n,e⟩];exact h1.sep.nodup _
  Ar:=by
   intro k k' Tf b hb Tk;rcases YU k b hb with⟨c,hc,hb⟩|⟨hb,dq⟩
   ·rcases YU k' b Tk with⟨c',UF,Tk⟩|⟨Tk,Zz⟩
    ·refine co.Ar c c' (fun e=>Tf ?_) b hb Tk;subst e;rcases hc with q|⟨n,q1,q2⟩
     ·rcases UF with q'|⟨n',dS,Zg⟩
      ·rw[q]at q';injection q'
      ·subst Zg;cases q
     ·rcases UF with q'|⟨n',dS,Zg⟩
      ·subst q2;cases q'
      ·rw[q2]at Zg;injection Zg with Zg;rw[q1,dS,Zg]
    ·exact Wx b Zz c hb
   ·rcases YU k' b Tk with⟨c',UF,Tk⟩|⟨Tk,Zz⟩
    ·exact Wx b dq c' Tk
    ·exact h1.sep.Ar k k' Tf b hb Tk
  own:=by
   intro k b hb;rcases YU k b hb with⟨c,hc,hb⟩|⟨hb,p1,p2⟩
   ·obtain⟨q1,q2,q3⟩:=co.own c b hb;refine⟨b9 c b hb,q2,?_⟩;rcases q3 with q3|⟨k0,q3⟩
    ·left;have:=h.sep.size;omega
    ·obtain⟨a,_,ha⟩:=Wh k0 b q3;exact(h.sep.own a b ha).2.2
   ·obtain⟨q1,q2,q3⟩:=h1.sep.own k b hb;refine⟨fun hz=>?_,iC p1 co.size,q3⟩;rcases Xd b hz with hz|⟨hz,Xw⟩
    ·exact q1 hz
    ·rcases(co.fz b hz).2 with h3|h3|⟨k0,h3⟩
     ·exact q1 (Xw h3)
     ·omega
     ·exact p2 k0 h3
  fz:=by
   intro b hb;rcases Xd b hb with hz|⟨hz,Xw⟩
   ·have:=h1.sep.fz b hz;rw[UQ.w]at this;exact⟨iC this.1 co.size,this.2⟩
   ·obtain⟨q1,q2⟩:=co.fz b hz;refine⟨q1,?_⟩;rcases q2 with q2|q2|⟨k0,q2⟩
    ·rcases q2 with q2|⟨r,hr,j,q2⟩
     ·exact(h.sep.fz b q2).2
     ·exact .inr (h.sep.own _ b q2).2.2
    ·right;left;have:=h.sep.size;omega
    ·obtain⟨a,_,ha⟩:=Wh k0 b q2;exact .inr (h.sep.own a b ha).2.2
  frame:=by
   intro b U9 VD;refine(co.frame b (by have:=h.sep.size;omega) fun k hk=>?_).trans (h.sep.frame b U9 VD);obtain⟨a,_,ha⟩:=Wh k b hk;rcases(h.sep.own a b ha).2.2 with q|q
   ·omega
   ·exact VD q
  size:=hZ h.sep.size co.size
  rest:=⟨co.rest.1.trans h.sep.rest.1,co.rest.2.1.trans h.sep.rest.2.1,co.rest.2.2.trans h.sep.rest.2.2⟩ }
 have YT:JY s s2:=⟨UA.sl.trans UQ.same.sl,UA.len.trans UQ.same.len,fun x=>⟨(UA.box x).1.trans (UQ.same.box x).1,(UA.box x).2.1.trans (UQ.same.box x).2.1,(UA.box x).2.2.trans (UQ.same.box x).2.2⟩⟩;have Yx:∀r,¬chb r→∀j,W2.cv r j=W1.cv r j:=fun r hr j=>gT hr;have Yw:∀r,chb r→∀j,W2.cv r j=newcv r j:=fun r hr j=>gS hr
 have XD:∀ {i j r j0:Nat} {l:List (Option (Loc×List Nat))} {c:Loc} {o:List Nat},T[i]?=some (.row l)→l[j]?=some (some (c,o))→¬chb c.r:=by
  rintro i j r j0 l c o hT hl ⟨i',UL⟩
  have V5:Key.lf i' c.j=.lf i j:=BX hh.nodup (a:=.lf c.r c.j) (by simp[AT,UL]) (by simp[AT,hT,hl]);injection V5 with V5;subst V5
  rw[hT]at UL;cases UL
 have Xu:AU E s2 tm W2:=by
  refine h1.MR XW UA chk chb (fun r j hn=>dO r j fun c hc=>hn ⟨c,hc⟩) Yx (fun r j ⟨i,hT⟩=>⟨.lf i j,by simp[AT,hT]⟩) (fun _=>rfl) ?_ ?_ ?_ (fun b hb=>Vg b hb) ?_ VB ?_ ?_
  ·intro r j hn;exact YD (fun c hc=>hn ⟨c,hc⟩) fun n e=>by cases e
  ·intro r;by_cases hk:∃c,AT T c=some (.AS r)
   ·obtain⟨c,hk⟩:=hk;rw[YE hk,(bB c _ hk).2.2.1 r rfl];cases c with
    |fl c=>cases hk
    |lf i j=>rcases BH hk with⟨r',e,_⟩|⟨l,c,o,e,_⟩<;>cases e
    |AS i=>
     obtain⟨r',e,hT⟩:=BK hk;injection e with e;subst e
     rw[co.AS,UQ.PR];simp[Al,hT]
   ·exact YD (fun c hc=>hk ⟨c,hc⟩) fun n e=>by cases e
  ·intro b hb
   have:b<W.w.heap.size∧∀k,b∉Al T W.om k:=by
    rcases hb with hb|⟨r,hr,hb⟩|⟨r,j,hr,hb⟩
    ·exact Z3 b hb
    ·refine Y2 (.AS r) (fun c hc=>?_) b hb;cases c with
     |fl c=>cases hc
     |AS i=>obtain⟨r',e,hT⟩:=BK hc;injection e with e;subst e;exact hr ⟨i,hT⟩
     |lf i j=>rcases BH hc with⟨r',e,_⟩|⟨l,c,o,e,_⟩<;>cases e
    ·exact Y2 (.lf r j) (fun c hc=>hr ⟨c,hc⟩) b hb
   show w'.heap[b]?=_;rw[co.frame b this.1 this.2,UQ.w]
  ·intro r j AA gen t e xs d0 hc hl Tf;obtain⟨c,hk⟩:=hc;cases c with
   |fl c=>cases hk
   |AS i=>obtain⟨r',e,hT⟩:=BK hk;cases e
   |lf i jj=>
    rcases BH hk with⟨r',e,hT⟩|⟨l,cc,o,e,hT,X5⟩
    ·injection e with e1 e2;subst e1;subst e2
     obtain⟨ls,vo,arr,T',fr,c1,c2,c3,c4,c5,c6,c7,c8⟩:=XA hT;rw[c7]at hl;split at hl
     ·rename_i hj;have ZY:j<vo.length:=by omega
      rw[Af,CK s r v 0 ls vo j ls[j] vo[j] (gK hj) (gK ZY),gb]at hl;rcases C7 (s.leaf r j) v ls[j].2 vo[j]with hq|⟨ver0,gen0,t0,e0,xs0,y0,q1,q2,q3,q4⟩
      ·rw[hq]at hl;exact absurd (J4 hl).1 Tf
      ·rw[q4]at hl
       replace hl:LA.arr ver0 v t0 e0 y0 2=.arr AA gen t e xs d0:=hl
       injection hl with f1 f2 f3 f4 f5 f6
       subst f1;subst f2;subst f4;refine⟨?_,gen0,t0,xs0,2,by rw[UQ.leaf _ _ (hh.root hk)];exact q2,fun hg=>absurd rfl hg⟩;rw[Yw r ⟨i,hT⟩ j,UQ.cv,←c8 j ls[j] (gK hj) q1]
       show(match w'.heap[W1.bk r]? with
        |some (.cells arr _ _)=>arr[j]?
        |_=>none)=_
       rw[c3]
     ·cases hl
    ·injection e with e1 e2;subst e1;subst e2
     obtain⟨_,ver0,gen0,t1,t0,e0,xs0,UJ,d1,u,c1,c2,c3,c4⟩:=Xv hT X5;rw[c2]at hl;injection hl with f1 f2 f3 f4 f5 f6
     subst f1;subst f2;subst f4;exact⟨Yx _ (XD hT X5 (r:=0) (j0:=0)) _,gen0,t1,xs0,d1,by rw[UQ.leaf _ _ (hh.root hk)];exact c1,fun hg=>absurd rfl hg⟩
  ·intro T1 r j hc;obtain⟨c,hk⟩:=hc;cases c with
   |fl c=>cases hk
   |AS i=>obtain⟨r',e,hT⟩:=BK hk;cases e
   |lf i jj=>
    rw[YE hk];obtain⟨_,_,_,eG,eH⟩:=bB _ _ hk;rcases BH hk with⟨r',e,hT⟩|⟨l,cc,o,e,hT,X5⟩
    ·injection e with e1 e2;subst e1;subst e2
     obtain⟨ls,vo,arr,T',fr,c1,c2,c3,c4,c5,c6,c7,c8⟩:=XA hT;rw[eG i j r rfl hT,c1]
     have T3:W2.cv r j=arr[j]?:=by
      rw[Yw r ⟨i,hT⟩ j]
      show(match w'.heap[W1.bk r]? with
       |some (.cells arr _ _)=>arr[j]?
       |_=>none)=_
      rw[c3]
     rw[c7,T3];by_cases hj:j<ls.length
     ·rw[gS hj,gS hj];have ZY:j<vo.length:=by omega
      obtain⟨y,hy,hr⟩:=c6 j ls[j] vo[j] (gK hj) (gK ZY);rw[Af,CK s r v 0 ls vo j ls[j] vo[j] (gK hj) (gK ZY),hy];rcases C7 (s.leaf r (0+j)) v ls[j].2 vo[j]with hq|⟨ver0,gen0,t0,e0,xs0,y0,q1,q2,q3,q4⟩
      ·rw[hq];exact FP hr
      ·rw[q4];refine⟨y,rfl,?_⟩;rw[q1]at hr;generalize vo[j]=lv at q3 hr;subst q3;exact(L.CQ (.sl t0 e0)).1 hr
     ·rw[gT hj,gT hj];exact⟨rfl,fun _ _=>trivial⟩
    ·injection e with e1 e2;subst e1;subst e2
     obtain⟨ver0,gen0,t1,t0,e0,xs0,UJ,d1,u,c1,c2,c3,c4⟩:=eH i jj l cc o rfl hT X5;rw[c2,Yx cc.r (XD hT X5 (r:=0) (j0:=0)) cc.j];exact⟨u,c3,c4⟩
  ·rintro r ⟨i,hT⟩ Vt
   obtain⟨ls,vo,arr,T',fr,c1,c2,c3,c4,c5,c6,c7,c8⟩:=XA hT;refine⟨arr,T',fr,c3,c4,?_,fun j=>?_⟩
   ·rw[(UQ.same.box r).2.2,c5,c1]
   ·rw[Yw r ⟨i,hT⟩ j]
    show(match w'.heap[W1.bk r]? with
     |some (.cells arr _ _)=>arr[j]?
     |_=>none)=_
    rw[c3]
 have ZN:Ac s2 v:=by
  refine⟨fun t=>?_,fun r j=>?_,hv.2.2⟩
  ·have:s2.slot t=s.slot t:=by show nth _ s2.sl t=_;rw[YT.sl];rfl
   rw[this];exact hv.1 t
  ·by_cases hc:chk r j
   ·obtain⟨c,hk⟩:=hc;cases c with
    |fl c=>cases hk
    |AS i=>obtain⟨r',e,hT⟩:=BK hk;cases e
    |lf i jj=>
     rcases BH hk with⟨r',e,hT⟩|⟨l,cc,o,e,hT,X5⟩
     ·injection e with e1 e2;subst e1;subst e2
      obtain⟨ls,vo,arr,T',fr,c1,c2,c3,c4,c5,c6,c7,c8⟩:=XA hT;rw[c7];split
      ·rename_i hj;have ZY:j<vo.length:=by omega
       rw[Af,CK s r v 0 ls vo j ls[j] vo[j] (gK hj) (gK ZY)];rcases C7 (s.leaf r (0+j)) v ls[j].2 vo[j]with hq|⟨ver0,gen0,t0,e0,xs0,y0,q1,q2,q3,q4⟩
       rotate_left
       ·rw[q4];left;rfl
       rw[hq];generalize vo[j]=lv;obtain⟨l,x⟩:=lv;cases l with
       |sl t e=>cases ls[j].2 with
        |zero=>right;simp[BP,LA.AG]
        |succ m=>left;rfl
       |_=>right;simp[BP,LA.AG]
      ·right;simp[LA.AG]
     ·injection e with e1 e2;subst e1;subst e2
      obtain⟨_,ver0,gen0,t1,t0,e0,xs0,UJ,d1,u,c1,c2,c3,c4⟩:=Xv hT X5;rw[c2];exact .inl rfl
   ·rw[dO r j fun c UF=>hc ⟨c,UF⟩];exact XW.2.1 r j
 have Yg:∀(k:Nat)(b:LA),own[k]?=some b→∃y,ys[k]?=some y∧FW w' fzB v b y (UE (.fl k)):=fun k b hk=>by have:=WB k b hk;rwa[gb]at this
 let oj:Nat→List Nat:=fun k=>if k<own.length then UE (.fl k)else []
 have cB:∀k,∀b∈oj k,b∈UE (.fl k):=by
  intro k b hb;have hb:b∈(if k<own.length then UE (.fl k)else []):=hb;split at hb
  ·exact hb
  ·cases hb
 generalize YZ:Kh bs=av;refine⟨AN W2 w' [] d (fun k=>ys[k]?) 0 [] oj,rfl,?_⟩;refine Xu.Kc ZN (us:=[]) hd (x:=⟨false,v,own⟩) (a:=av) (u:=r) (w':=w') (cvd:=fun k=>ys[k]?) (bkd:=0) (ob:=[]) (oj:=oj) rfl ?_ (fun _ _=>rfl) (fun b h1 h2=>rfl) (gk _) ⟨rfl,rfl,rfl⟩ gR ?_ (fun _ _ hb=>by cases hb) ?_ ?_ ?_ ?_
 ·intro j AA gen t e xs dd hl;rw[Af]at hl;cases hq:own[j]? with
  |none=>rw[hq]at hl;cases hl
  |some b=>
   rw[hq]at hl;obtain⟨y,_,ho⟩:=Yg j b hq;have hl:b=.arr AA gen t e xs dd:=hl;subst hl;exact ho.1
 ·intro j;show(if j<own.length then UE (.fl j)else []).Nodup;split
  ·exact co.nodup _
  ·exact gR
 ·intro i j X3 b hb Tk;exact co.Ar (.fl i) (.fl j) (fun e=>X3 (by injection e)) b (cB i b hb) (cB j b Tk)
 ·intro b hb;rcases hb with hb|⟨j,hb⟩
  ·cases hb
  ·exact .inl ⟨.fl j,fun hk=>hk,by rw[Z2];exact cB j b hb⟩
 ·intro T1 T4;refine⟨fun j=>?_,?_⟩
  ·have e1:(AN W2 w' [] d (fun k=>ys[k]?) 0 [] oj).cv d j=ys[j]?:=by simp[AN]
   have e2:(AN W2 w' [] d (fun k=>ys[k]?) 0 [] oj).om (.lf d j)=oj j:=by simp[AN]
   rw[e1,e2];show Aa _ _ (nth LA.bad own j) _ _;rw[Af];cases hq:own[j]? with
   |none=>
    have hj:¬j<own.length:=by have:=List.getElem?_eq_none_iff.1 hq;omega
    have:oj j=[]:=gT hj;rw[this];exact⟨rfl,fun _ _=>trivial⟩
   |some b=>
    have hj:j<own.length:=(gM.1 hq).1;have:oj j=UE (.fl j):=gS hj;rw[this];obtain⟨y,hy,ho⟩:=Yg j b hq;show Aa _ _ b _ _;rw[hy];cases b with
    |arr AA gen t e xs m=>exact⟨y,rfl,ho.2.2⟩
    |bad=>exact⟨ho,fun _ _=>trivial⟩
    |_=>exact ho.elim
  ·show(if false=true then _ else _);rw[gT (by simp)];simp[AN]
 ·intro T1 T4
  have YV:=cY (s2.app (gone []++[.root d ⟨false,v,own⟩,.slot d av])) (AN W2 w' [] d (fun k=>ys[k]?) 0 [] oj) rfl rfl (fun k hk=>by
   rw[gb];refine⟨?_,by simp[AN]⟩;unfold St.leaf;rw[T4])
  rw[co.res];generalize s2.app (gone []++[.root d ⟨false,v,own⟩,.slot d av])=s3 at YV;generalize AN W2 w' [] d (fun k=>ys[k]?) 0 [] oj=W3 at YV;rw[←YZ]
  have ae:∀ {bs:List (Bool×List LA)} {rv:List Value},bs.length=rv.length→(∀(i:Nat)(p:Bool×List LA)(u:Value),bs[i]?=some p→rv[i]?=some u→Ey s3 W3 p.1 p.2 u)→BQ s3 W3 (.Di bs) (.tuple rv.toArray):=by
   intro bs rv hl hh;refine⟨rv.toArray,rfl,by simp[hl],fun j p hj=>?_⟩;have Tc:j<rv.length:=by rw[←hl];exact(gM.1 hj).1
   exact⟨rv[j],by simp[Tc],hh j p rv[j] hj (gK Tc)⟩
  match bs,rv,X1,YV with
  | [],[],X1,YV=>exact ae X1 YV
  | [(g',as)],[u],X1,YV=>exact YV 0 (g',as) u rfl rfl
  |p::q::bs,u::u'::rv,X1,YV=>exact ae X1 YV
end
end Go.Ev
namespace Go.Ev
section
variable {P:Program}{E:Cr}{s:St}{W:Wd}{tm:Array Value}{v:Nat}
def Fs(W:Wd)(w':World)(TZ:Nat→Prop)(b0:Nat):Wd:=
 { W with w:=w',fz:=fun x=>W.fz x∨TZ x,om:=fun k=>match k with
   | .fl n=>if n=0 then [b0]else []
   |k=>W.om k }
theorem AU.On(h:AU E s tm W)(hv:Ac s v){b0:Nat}{w':World}{TZ:Nat→Prop}
  (hold:∀b,b<W.w.heap.size→w'.heap[b]?=W.w.heap[b]?) (UM:W.w.heap.size≤w'.heap.size) (Tn:w'.os=W.w.os∧w'.tape=W.w.tape∧w'.output=W.w.output)
  (Uu:∀x,TZ x→x<w'.heap.size∧(W.fz x∨W.w.heap.size≤x)) (hb:W.w.heap.size≤b0∧b0<w'.heap.size∧¬TZ b0):AU E s tm (Fs W w' TZ b0):=by
 have hs:=h.sep
 have V7:∀k b,b∈(Fs W w' TZ b0).om k→(b∈W.om k∧∀n,k≠.fl n)∨(k=.fl 0∧b=b0):=by
  intro k b hk;cases k with
  |fl n=>
   have hk:b∈(if n=0 then [b0]else([]:List Nat)):=hk;by_cases hn:n=0
   ·rw[gS hn]at hk;exact .inr ⟨by rw[hn],hJ.1 hk⟩
   ·rw[gT hn]at hk;cases hk
  |AS r=>exact .inl ⟨hk,by simp⟩
  |lf r j=>exact .inl ⟨hk,by simp⟩
 have T1:EE v s s W (Fs W w' TZ b0):={
  fz:=fun b hb=>.inl hb
  LQ:=fun b hb=>hold b (hs.fz b hb).1
  leaf:=fun r j AA gen t e xs dd hl Tf=>⟨rfl,gen,t,xs,dd,hl,fun _=>⟨rfl,fun p h' e' u UF hn=>by
   obtain⟨u0,UW,Th⟩:=(h.roots r).row hl;rw[UF]at UW;injection UW with UW;subst UW
   exact BI p Th hn fun b hb=>hold b (hb.elim (fun hb=>(hs.own _ b hb).2.1) fun hb=>(hs.fz b hb).1)⟩⟩
  box:=fun r hb Tf=>⟨hb,rfl,rfl⟩ }
 refine h.H0 hv T1 ?_ h.DG h.BW (fun t=>.inl ⟨rfl,rfl⟩) fun r=>?_
 ·exact {
   nodup:=fun k=>by
    cases k with
    |fl n=>
     show(if n=0 then [b0]else([]:List Nat)).Nodup;split<;>simp
    |AS r=>exact hs.nodup (.AS r)
    |lf r j=>exact hs.nodup (.lf r j)
   Ar:=fun k k' Tf b h1 h2=>by
    rcases V7 k b h1 with⟨h1,n1⟩|⟨rfl,rfl⟩<;>rcases V7 k' b h2 with⟨h2,n2⟩|⟨rfl,h2⟩
    ·exact hs.Ar k k' Tf b h1 h2
    ·have:=(hs.own k b h1).2.1;omega
    ·have:=(hs.own k' _ h2).2.1;omega
    ·exact Tf rfl
   own:=fun k b h1=>by
    rcases V7 k b h1 with⟨h1,_⟩|⟨rfl,rfl⟩
    ·obtain⟨a1,a2,a3⟩:=hs.own k b h1;refine⟨fun hz=>hz.elim a1 fun hz=>?_,iC a2 UM,a3⟩;rcases(Uu b hz).2 with h|h
     ·exact a1 h
     ·omega
    ·refine⟨fun hz=>hz.elim (fun hz=>?_) hb.2.2,hb.2.1,.inl (hZ hs.size hb.1)⟩;have:=(hs.fz _ hz).1;omega
   fz:=fun b hz=>by
    rcases hz with hz|hz
    ·obtain⟨a1,a2⟩:=hs.fz b hz;exact⟨iC a1 UM,a2⟩
    ·obtain⟨a1,a2⟩:=Uu b hz;refine⟨a1,a2.elim (fun h=>(hs.fz b h).2) fun h=>.inr (.inl (hZ hs.size h))⟩
   frame:=fun b h1 h2=>(hold b (iC h1 hs.size)).trans (hs.frame b h1 h2)
   size:=hZ hs.size UM
   rest:=⟨Tn.1.trans hs.rest.1,Tn.2.1.trans hs.rest.2.1,Tn.2.2.trans hs.rest.2.2⟩ }
 ·obtain⟨h1,h2⟩:=h.roots r;refine⟨fun j=>?_,?_⟩
  ·exact Aa.DF T1 (by have:=hv.2.1 r j;exact this) (fun b hb=>hold b (hs.own _ b hb).2.1) (h1 j)
  ·show(if(s.root r).box=true then _ else _);split
   ·rename_i hb;rw[gS hb]at h2;obtain⟨VN,Un,T',YB,Wf,a1,a2,a3⟩:=h2;refine⟨VN,Un,T',YB,(hold _ ?_).trans Wf,a1,a2,a3⟩;exact(iE.1 Wf).1
   ·rename_i hb;rw[gT hb]at h2;exact h2
theorem AU.Lf(h:AU E s tm W)(hv:Ac s v){d:Nat}(hd:d<tm.size){bs:List LA}{cs:Array Value}{T:TypeId}{fr:Nat×Nat}{b0:Nat}{w':World}{TZ:Nat→Prop}
  (hold:∀b,b<W.w.heap.size→w'.heap[b]?=W.w.heap[b]?) (UM:W.w.heap.size≤w'.heap.size) (Tn:w'.os=W.w.os∧w'.tape=W.w.tape∧w'.output=W.w.output)
  (Uu:∀x,TZ x→x<w'.heap.size∧(W.fz x∨W.w.heap.size≤x)) (hb:W.w.heap.size≤b0∧b0<w'.heap.size∧¬TZ b0) (Ts:w'.heap[b0]?=some (.cells cs T fr)) (UQ:∀j,j<cs.size→¬(fr.1≤j∧j<fr.2)) (hlen:cs.size=bs.length)
  (VV:∀(j:Nat)(b:LA),bs[j]?=some b→∃(l:L) (x:l.D) (y:Value),b=.sc l x∧cs[j]?=some y∧l.rd 0 w' TZ y x []):
  ∃W',W'.w=w'∧AU E (s.app (GI d v bs)) (tm.setIfInBounds d (.pointer (some ⟨b0,0,none⟩))) W':=by
 have h1:=h.On hv hold UM Tn Uu hb
 have bD:∀j,(∃(l:L) (x:l.D) (y:Value),nth .bad bs j=.sc l x∧cs[j]?=some y∧l.rd 0 w' TZ y x [])∨nth .bad bs j=.bad:=by
  intro j;rcases hQ j bs.length with hj|hj
  ·left;have:=VV j bs[j] (gK hj);rw[Af,gK hj];exact this
  ·right;exact A3 _ hj
 refine⟨AN (Fs W w' TZ b0) w' [] d (fun j=>cs[j]?) b0 [b0] (fun _=>[]),rfl,?_⟩;refine h1.Kc (us:=[]) hv hd (x:=⟨true,v,bs⟩) (a:=one (.ptr d 0 v)) rfl ?_ (fun b _=>rfl) (fun b _ _=>rfl) (gk _) ⟨rfl,rfl,rfl⟩ (gh.2 ⟨by simp,gR⟩) (fun _=>gR) (fun _ _ _ hb=>by cases hb) (fun _ _ _ _ hb=>by cases hb) ?_ ?_ ?_
 ·intro j AA gen t e xs dd hl;dsimp only at hl;rcases bD j with⟨l,x,y,h1,_⟩|h1<;>rw[h1]at hl<;>cases hl
 ·intro b hb;rcases hb with hb|⟨j,hb⟩
  ·simp at hb;subst hb;exact .inl ⟨.fl 0,id,by simp[Fs]⟩
  ·cases hb
 ·intro _ _;refine⟨fun j=>?_,?_⟩
  ·have e1:(AN (Fs W w' TZ b0) w' [] d (fun j=>cs[j]?) b0 [b0] (fun _=>[])).cv d j=cs[j]?:=by simp[AN]
   have e2:(AN (Fs W w' TZ b0) w' [] d (fun j=>cs[j]?) b0 [b0] (fun _=>[])).om (.lf d j)=[]:=by simp[AN]
   rw[e1,e2];show Aa _ _ (nth LA.bad bs j) _ _;rcases bD j with⟨l,x,y,h1,h2,h3⟩|h1
   ·rw[h1];refine⟨rfl,fun u hu=>?_⟩;rw[h2]at hu;injection hu with hu;subst hu
    exact L.AI l h3 (fun b _=>rfl) (fun b hb=>.inr hb)
   ·rw[h1];exact⟨rfl,fun _ _=>trivial⟩
  ·show(if true=true then _ else _);rw[gS rfl];have XS:(AN (Fs W w' TZ b0) w' [] d (fun j=>cs[j]?) b0 [b0] (fun _=>[])).bk d=b0:=by simp[AN]
   refine⟨by simp[AN],cs,T,fr,?_,UQ,hlen,fun j=>by simp[AN]⟩;rw[XS];exact Ts
 ·intro _ _;intro _ _;have XS:(AN (Fs W w' TZ b0) w' [] d (fun j=>cs[j]?) b0 [b0] (fun _=>[])).bk d=b0:=by simp[AN]
  rw[XS]
end
end Go.Ev
namespace Go.Ev
open Go.Sort (Holds insertionSort)
section
variable {α β:Type}[Inhabited α][Inhabited β]
theorem KG(d:Array α)(i j:Nat):(Go.Sort.swp d i j).size=d.size:=by simp[Go.Sort.swp]
theorem get_map(f:α→β)(d:Array α)(i:Nat)(hi:i<d.size):(d.map f)[i]! = f d[i]! := by
 grind
theorem Nf(f:α→β)(d:Array α)(i j:Nat)(hi:i<d.size)(hj:j<d.size):Go.Sort.swp (d.map f) i j=(Go.Sort.swp d i j).map f:=by unfold Go.Sort.swp;grind
theorem Fk(f:α→β)(lt:α→α→Bool)(Vr:β→β→Bool)(h:∀x y,Vr (f x) (f y)=lt x y)(a:Nat):∀(j:Nat)(d:Array α),j<d.size→Go.Sort.insInner Vr a j (d.map f)=(Go.Sort.insInner lt a j d).map f∧(Go.Sort.insInner lt a j d).size=d.size
 |0,d,_=>⟨rfl,rfl⟩
 |j+1,d,hj=>by
  simp only[Go.Sort.insInner];rw[get_map f d (j+1) hj,get_map f d j (by omega),h];split
  ·rw[Nf f d (j+1) j hj (by omega)];obtain⟨e1,e2⟩:=Fk f lt Vr h a j (Go.Sort.swp d (j+1) j) (by rw[KG];omega);exact⟨e1,e2.trans (KG _ _ _)⟩
  grind
theorem Gf(lt:α→α→Bool)(a b i:Nat)(d:Array α)(h:i<b):Go.Sort.insOuter lt a b i d=Go.Sort.insOuter lt a b (i+1) (Go.Sort.insInner lt a i d):=by rw[Go.Sort.insOuter,gS h]
theorem DO(lt:α→α→Bool)(a b i:Nat)(d:Array α)(h:¬i<b):Go.Sort.insOuter lt a b i d=d:=by rw[Go.Sort.insOuter,gT h]
theorem Fl(f:α→β)(lt:α→α→Bool)(Vr:β→β→Bool)(h:∀x y,Vr (f x) (f y)=lt x y)(a b:Nat):∀(n i:Nat)(d:Array α),b-i≤n→b≤d.size→Go.Sort.insOuter Vr a b i (d.map f)=(Go.Sort.insOuter lt a b i d).map f∧(Go.Sort.insOuter lt a b i d).size=d.size
 |0,i,d,hn,hb=>by rw[DO Vr a b i _ (by omega),DO lt a b i _ (by omega)];grind
 |n+1,i,d,hn,hb=>by
  by_cases hi:i<b
  ·rw[Gf Vr a b i _ hi,Gf lt a b i _ hi];obtain⟨e1,e2⟩:=Fk f lt Vr h a i d (by omega);rw[e1];obtain⟨e3,e4⟩:=Fl f lt Vr h a b n (i+1) (Go.Sort.insInner lt a i d) (by omega) (by rw[e2];exact hb);grind
  ·rw[DO Vr a b i _ hi,DO lt a b i _ hi];grind
theorem Fm(f:α→β)(lt:α→α→Bool)(Vr:β→β→Bool)(h:∀x y,Vr (f x) (f y)=lt x y)(d:Array α)(b:Nat)(hb:b≤d.size):insertionSort Vr (d.map f) 0 b=(insertionSort lt d 0 b).map f∧(insertionSort lt d 0 b).size=d.size:=
 Fl f lt Vr h 0 b b 1 d (by omega) hb
theorem KA(enc:α→Value)(w:World)(AS off:Nat)(d:Array α){arr:Array Value}{T:TypeId}{fr:Nat×Nat}(h:w.heap[AS]?=some (.cells arr T fr)):(Go.Sort.putRow enc w AS off d).heap[AS]?=some (.cells (Go.Sort.putCells enc off d arr) T fr):=by simp[Go.Sort.putRow,Go.Sort.mapBlock,Array.getElem?_modify,h,Go.Sort.onCells]
theorem Gk(enc:α→Value)(w:World)(AS off:Nat)(d:Array α){b:Nat}(h:b≠AS):(Go.Sort.putRow enc w AS off d).heap[b]?=w.heap[b]?:=by simp[Go.Sort.putRow,Go.Sort.mapBlock,Array.getElem?_modify,Ne.symm h]
end
section
variable {P:Program}{E:Cr}{s:St}{W:Wd}{o:Oper}{a:Act}{ws:List Wr}{cx:Cx}{v:Nat}{tm:Array Value}
def KL(W:Wd)(r:Nat)(b:Nat):Prop:=W.fz b∨∃k,(∀j,k≠.lf r j)∧b∈W.om k
theorem G9.frame{w w':World}{fz:Nat→Prop}{ls:List L}{u:Value}{vs:List Lv}(h:G9 w fz ls u vs)(hf:∀b,fz b→w'.heap[b]?=w.heap[b]?):G9 w' fz ls u vs:=by
 obtain⟨b,arr,T,fr,hu,hz,hh,hs,hm,hr⟩:=h;exact⟨b,arr,T,fr,hu,hz,(hf b hz).trans hh,hs,hm,fun j lv hj=>let ⟨y,hy,hl⟩:=hr j lv hj;⟨y,hy,L.AI lv.l hl (fun b hb=>hf b (hb.elim (fun hb=>by cases hb) id)) fun _ hb=>hb⟩⟩
theorem Dr.frame{w w':World}{fz:Nat→Prop}(hf:∀b,fz b→w'.heap[b]?=w.heap[b]?):∀ {bs:List (List L)} {us:List Value} {vs:List Lv},Dr w fz bs us vs→Dr w' fz bs us vs
 | [],[],vs,h=>h
 |ls::bs,u::us,vs,h=>by obtain⟨x,y,e,h1,h2⟩:=h;exact⟨x,y,e,h1.frame hf,Dr.frame hf h2⟩
 | [],_::_,vs,h=>h.elim
 |_::_,[],vs,h=>h.elim
theorem Kl.frame{w w':World}{fz:Nat→Prop}{rv:Value}(hf:∀b,fz b→w'.heap[b]?=w.heap[b]?){c:KJ}{u:Value}{vs:List Lv}(h:Kl w fz rv c u vs):Kl w' fz rv c u vs:=by
 cases c with
 |box ls=>exact G9.frame h hf
 |EB g bs=>
  obtain⟨b,T,fr,lb,hu,hz,hh,hb⟩:=h;exact⟨b,T,fr,lb,hu,hz,(hf b hz).trans hh,hb.frame hf⟩
 |row=>
  obtain⟨e,b,T,fr,hu,hz,hh⟩:=h;exact⟨e,b,T,fr,hu,hz,(hf b hz).trans hh⟩
theorem EC.frame{w w':World}{fz:Nat→Prop}{rv:Value}(hf:∀b,fz b→w'.heap[b]?=w.heap[b]?):∀ {cs:List KJ} {us:List Value} {vs:List Lv},EC w fz rv cs us vs→EC w' fz rv cs us vs
 | [],[],vs,h=>h
 |c::cs,u::us,vs,h=>by obtain⟨x,y,e,h1,h2⟩:=h;exact⟨x,y,e,h1.frame hf,EC.frame hf h2⟩
 | [],_::_,vs,h=>h.elim
 |_::_,[],vs,h=>h.elim
def JT(s:St)(W:Wd)(ps:List (Nat×Nat))(bs:List Nat):Prop:=bs.length=ps.length∧∀(k:Nat)(p:Nat×Nat)(b:Nat),ps[k]?=some p→bs[k]?=some b→(s.root p.1).box=true→(s.root p.1).AA=p.2→b=W.bk p.1
theorem JT.cons{p:Nat×Nat}{ps:List (Nat×Nat)}{bs:List Nat}(h:JT s W (p::ps) bs):∃b Zi,bs=b::Zi∧((s.root p.1).box=true→(s.root p.1).AA=p.2→b=W.bk p.1)∧JT s W ps Zi:=by
 obtain⟨h1,h2⟩:=h
 match bs,h1 with
 |b::bs,h1=>exact⟨b,bs,rfl,h2 0 p b rfl rfl,by grind,fun k q c hq hc=>h2 (k+1) q c (by grind) (by grind)⟩
theorem JT.nil{bs:List Nat}(h:JT s W [] bs):bs=[]:=gQ h.1
def Na(b:Nat):Value:=.pointer (some ⟨b,0,none⟩)
theorem N1(h:AU E s tm W){not r:Nat}{ls:List L}(hb:(s.root r).box=true)(Tf:r≠not)(hlen:(s.root r).ls.length=ls.length)(XV:(s.root r).ls.all Nl=true){β:Type}{z:β}{k:List Lv→Step β}(hl:(s.data ls (Az r 0 (s.root r).ls) k).leads z):
  ∃x,(k x).leads z∧G9 W.w (KL W not) ls (Na (W.bk r)) x:=by
 obtain⟨_,UB⟩:=h.roots r;rw[gS hb]at UB;obtain⟨Yf,arr,T,fr,hh,Tl,Tt,T3⟩:=UB
 obtain⟨vs,hl,UK,W6,VF⟩:=Ek h (g:=fun j=>arr[j]?) (fun j b hj=>by
  rw[Cs]at hj;cases hq:(s.root r).ls[j]? with
  |none=>grind
  |some y=>
   rw[hq]at hj;injection hj with hj
   have Tc:j<(s.root r).ls.length:=(gM.1 hq).1;have TV:s.leaf r j=y:=by unfold St.leaf;rw[Af,hq];rfl
   have Ts:W.cv r j=some (arr[j]'(by omega)):=by rw[T3];exact gp _
   refine⟨arr[j]'(by omega),gp _,?_⟩;rw[←hj,gb];exact K0 h TV Ts) hl
 refine⟨vs,hl,W.bk r,arr,T,fr,rfl,.inr ⟨.AS r,(fun j e=>by cases e),by grind⟩,hh,by omega,W6,fun j lv hj=>?_⟩;obtain⟨u,hu,hr⟩:=VF j lv hj;refine⟨u,hu,L.AI lv.l hr (fun _ _=>rfl) fun b hb=>?_⟩;rcases hb with hb|⟨r',UI,j',hb⟩
 ·exact .inl hb
 ·refine .inr ⟨.lf r' j',fun j e=>?_,hb⟩;injection e with e1 e2
  have:r'=r:=by
   obtain⟨y,hy,Vq⟩:=gN.1 UI;obtain⟨i,hi⟩:=hM hy;rw[Cs]at hi;cases hq:(s.root r).ls[i]? with
   |none=>rw[hq]at hi;cases hi
   |some y0=>
    rw[hq]at hi;injection hi with hi
    subst hi;have:=gY.1 XV y0 (gP hq);cases y0 with
    |arr=>simpa[seen,LA.roots]using Vq
    |sc=>simp[seen,LA.roots]at Vq
    |_=>cases this
  omega
theorem HO(h:AU E s tm W){not:Nat}{β:Type}{z:β}:∀ {bs:List (List L)} {ps:List (Nat×Nat)} {ks:List Nat} {k:List Lv→Step β},JT s W ps ks→(DJ s not bs ps k).leads z→∃x,(k x).leads z∧Dr W.w (KL W not) bs (ks.map Na) x
 | [],[],ks,k,hk,hl=>by rw[hk.nil];exact⟨[],hl,rfl⟩
 |ls::bs,(r,AA)::ps,ks,k,hk,hl=>by
  obtain⟨b,cZ,rfl,W9,Ud⟩:=hk.cons;simp only[DJ]at hl;split at hl
  ·rename_i hc;simp only[gL,gV,bne_iff_ne,ne_eq]at hc;obtain⟨⟨⟨⟨hb,Te⟩,Tf⟩,hlen⟩,UN⟩:=hc;obtain⟨x,hl,hx⟩:=N1 h hb Tf hlen UN hl;obtain⟨y,hl,hy⟩:=HO h Ud hl;have e:b=W.bk r:=W9 hb Te;exact⟨_,hl,x,y,rfl,by grind,hy⟩
  ·exact hl.elim
 | [],_::_,ks,k,hk,hl=>hl.elim
 |_::_,[],ks,k,hk,hl=>hl.elim
theorem Gy(h:AU E s tm W){c:Loc}{qs:List (Nat×Nat)}{rv:Value}(X6:W.cv c.r c.j=some rv){β:Type}{z:β}:∀ {cs:List KJ} {ps:List (Nat×Nat)} {ks:List Nat} {k:List Lv→Step β},JT s W ps ks→(Bt s c qs cs ps k).leads z→∃x,(k x).leads z∧EC W.w (KL W c.r) rv cs (ks.map Na) x
 | [],[],ks,k,hk,hl=>by rw[hk.nil];exact⟨[],hl,rfl⟩
 | .box ls::cs,p::ps,ks,k,hk,hl=>by
  obtain⟨b,cZ,rfl,W9,Ud⟩:=hk.cons;simp only[Bt]at hl
  have X4:JT s W [p] [b]:=⟨rfl,fun i q d hq hd=>by
   grind⟩
  obtain⟨x,hl,hx⟩:=HO h X4 hl;obtain⟨y,hl,hy⟩:=Gy h X6 Ud hl;obtain⟨x1,x2,e,h1,h2⟩:=hx;have e2:x2=[]:=h2;subst e2;exact⟨_,hl,x,y,rfl,by rw[e,hD];exact h1,hy⟩
 | .EB g bs::cs,(r,AA)::ps,ks,k,hk,hl=>by
  obtain⟨b,cZ,rfl,W9,Ud⟩:=hk.cons;simp only[Bt]at hl;split at hl
  ·rename_i g' YA eb U4;split at hl
   ·rename_i hc;simp only[gL,gV,bne_iff_ne,ne_eq]at hc;obtain⟨⟨⟨⟨hb,Te⟩,Tf⟩,hg⟩,UN⟩:=hc;subst hg;obtain⟨XV,UB⟩:=h.roots r;rw[gS hb]at UB;obtain⟨Yf,arr,T,fr,hh,Tl,Tt,T3⟩:=UB;rw[U4]at Tt;have Tt:arr.size=1:=Tt
    obtain⟨u,hu⟩:∃u,arr = #[u]:=by
     match arr,Tt with
     |⟨[u]⟩,_=>grind
    have Uv:=XV 0;rw[U4]at Uv;have Uv:[]=W.om (.lf r 0)∨True:=.inr trivial;have VZ:=XV 0;rw[U4]at VZ;have bQ:AP s W (.EB g YA eb) u:=VZ.2 u (by grind);obtain⟨ks2,ZN,Vw,Z6⟩:=bQ;obtain⟨x,hl,hx⟩:=HO h (ks:=ks2) ⟨Vw,Z6⟩ hl;obtain⟨y,hl,hy⟩:=Gy h X6 Ud hl;have e:b=W.bk r:=W9 hb Te;refine⟨_,hl,x,y,rfl,?_,hy⟩;refine⟨W.bk r,T,fr,_,by rw[e];rfl,.inr ⟨.AS r,(fun j e=>by cases e),by grind⟩,?_,hx⟩;rw[hh,hu,ZN];rfl
   ·exact hl.elim
  ·exact hl.elim
 | .row::cs,(r,AA)::ps,ks,k,hk,hl=>by
  obtain⟨b,cZ,rfl,W9,Ud⟩:=hk.cons;simp only[Bt]at hl;split at hl
  ·rename_i hc;simp only[gL,gV]at hc;obtain⟨⟨⟨⟨hb,Te⟩,hr⟩,hj⟩,hlen⟩:=hc;obtain⟨y,hl,hy⟩:=Gy h X6 Ud hl;obtain⟨XV,UB⟩:=h.roots r;rw[gS hb]at UB;obtain⟨Yf,arr,T,fr,hh,Tl,Tt,T3⟩:=UB
   obtain⟨u,hu⟩:∃u,arr = #[u]:=by
    have Tt:arr.size=1:=by rw[Tt,hlen]
    match arr,Tt with
    |⟨[u]⟩,_=>exact⟨u,rfl⟩
   have aU:=X6;rw[←hr,hj,T3,hu]at aU;have hurv:u=rv:=by simpa using aU
   have e:b=W.bk r:=W9 hb Te;refine⟨_,hl,[],y,rfl,⟨rfl,W.bk r,T,fr,by rw[e];rfl,.inr ⟨.AS r,(fun j e=>by cases e),by rw[Yf];simp⟩,?_⟩,hy⟩;grind
  ·exact hl.elim
 | [],_::_,ks,k,hk,hl=>hl.elim
 | .box _::_,[],ks,k,hk,hl=>hl.elim
 | .EB _ _::_,[],ks,k,hk,hl=>hl.elim
 | .row::_,[],ks,k,hk,hl=>hl.elim
theorem GH(hc:DV P cx)(h:AU E s a.tmps W){t:TypeId}{x:Operand}(ho:o.op=.makeInterface t x)(hl:(AB cx v o s).leads ws):BZ P E o a W.w (s.app ws):=by
 simp only[AB,ho]at hl;have h1:=Ae h x;split at hl
 ·rename_i ty c ht hx;split at hl
  ·exact hl.elim
  ·rename_i VT;split at hl
   ·rename_i t' e U4;rw[AM hl];rw[hx]at h1;have T6:P.underlying t=some (.slice t'):=(B9 hc ht U4 (by grind):GR P t (.sl t' e)).1;refine AR h (u:=.iface t (a.eval x)) ?_ (show AP s W (.I6 t c) _ from⟨_,rfl,h1⟩);simp[execOp,ho,Instr.makeInterface,run_underlying T6]
   ·exact hl.elim
 ·exact hl.elim
theorem Kw(h:AU E s a.tmps W):∀ {xs:List Operand} {ps:List (Nat×Nat)},Dd s (xs.map s.Aq)=some ps→xs.map a.eval=(ps.map fun p=>W.bk p.1).map (fun b=>Value.pointer (some ⟨b,0,none⟩))
 | [],ps,hp=>by simp only[List.map_nil,Dd,Option.some.injEq]at hp;subst hp;rfl
 |x::xs,ps,hp=>by
  have hx:=A5 h x;rw[iR]at hp;unfold Dd at hp;split at hp
  ·grind
  ·rename_i r AA vs e;injection e with e1 e2
   split at hp
   ·rename_i hc;simp only[gL,gV]at hc;split at hp
    ·rename_i YA YQ;injection hp with hp
     subst hp;rw[←e2]at YQ;have ih:=Kw h YQ;rw[e1]at hx;have hx:a.eval x=.pointer (some ⟨W.bk r,0,none⟩):=hx hc.1 hc.2;grind
    ·cases hp
   ·cases hp
  ·cases hp
theorem J6(h:AU E s a.tmps W){fn:Fn}{xs ys:Array Operand}(ho:o.op=.makeFunc fn xs ys)(hl:(AB cx v o s).leads ws):BZ P E o a W.w (s.app ws):=by
 cases fn with
 |func g=>
  simp only[AB,ho]at hl;split at hl
  ·rename_i Tt;split at hl
   ·rename_i ps U7;rw[AM hl];have hp:=Kw h U7;have WE:xs = #[]:=Array.size_eq_zero_iff.1 (by simpa using Tt);refine AR h (u:=.func (.func g) #[] (ys.map a.eval)) ?_ (show AP s W (.EB g ps (behind s ps)) _ from⟨ps.map fun p=>W.bk p.1,?_,by simp,fun k p b hk hb _ _=>?_⟩)
    ·simp[execOp,ho,Instr.makeFunc,WE]
    ·rw[←hp,←iV,iH]
    grind
   ·exact hl.elim
  ·exact hl.elim
 |_=>simp only[AB,ho]at hl;exact hl.elim
theorem Mv{l:List Operand}{f:Operand→AV}{p q:AV}(h:l.map f=[p,q]):∃x y,l=[x,y]∧f x=p∧f y=q:=by
 match l,h with
 | [x,y],h=>grind
theorem Lm(h:AU E s a.tmps W)(hv:Ac s v){fid g:FuncId}{σ:Od}(ZM:Ni P fid g σ){cl:Loc}{gen:Nat}{t0:TypeId}{xs zs:List Int}{ks:List Nat}{vs:List Lv}{u:Value}{y:(Ew (σ.I3.flatMap KJ.kinds)).D}
  (TV:s.leaf cl.r cl.j=.arr cl.AA gen t0 (.one (.int .i64)) xs 2) (T3:W.cv cl.r cl.j=some u) (Th:AD (.one (.int .i64)) 2 W.w W.fz u xs (W.om (.lf cl.r cl.j))) (Xb:EC W.w (KL W cl.r) u σ.I3 (ks.map Na) vs) (hy:pack (Ew (σ.I3.flatMap KJ.kinds)) vs=some y)
  (WM:Mq (σ.lt y) xs=some zs):Calls P fid #[.iface σ.t u,.func (.func g) #[] (ks.map fun b=>Value.pointer (some ⟨b,0,none⟩)).toArray] W.w fun en w'=>en=.returned (.tuple #[])∧
   ∃W1:Wd,W1.w=w'∧AU E (s.app [.leaf cl.r cl.j (.arr cl.AA v t0 (.one (.int .i64)) zs 2)]) a.tmps W1:=by
 have UT:∀b,KL W cl.r b→b∉W.om (.lf cl.r cl.j):=by
  intro b hb TW;rcases hb with hb|⟨k,hk,hb⟩
  ·exact(h.sep.own _ b TW).1 hb
  ·exact h.sep.Ar k _ (hk _) b hb TW
 have bV:∀b,KL W cl.r b→b<W.w.heap.size:=by
  intro b hb;rcases hb with hb|⟨k,hk,hb⟩
  ·exact(h.sep.fz b hb).1
  ·exact(h.sep.own _ b hb).2.1
 have OT:xs.length≤1→Calls P fid #[.iface σ.t u,.func (.func g) #[] (ks.map fun b=>Value.pointer (some ⟨b,0,none⟩)).toArray] W.w (fun en w'=>en=.returned (.tuple #[])∧∃os,w'=Go.Sort.grow W.w os):=by intro hlen;obtain⟨A,cc,Wl,Yt,_⟩:=Th.KK;rw[Wl];exact ZM.sort.OT A _ cc hlen _ _ _ _
 unfold Mq at WM;by_cases Vv:xs.length≤1
 ·rw[show decide (xs.length≤1)=true by simpa using Vv]at WM;injection WM with WM
  refine(OT Vv).mono ?_
  rintro en w' ⟨rfl,os,rfl⟩
  refine⟨rfl,?_⟩;have XR:=h.JL hv (e:=.one (.int .i64)) (UJ:=xs) TV T3 Th (fun b _=>rfl) rfl ⟨rfl,rfl,rfl⟩;rw[WM]at XR;refine⟨_,rfl,XR.world (w':=Go.Sort.grow W.w os) (XR.KD fun b hb=>Go.Sort.heap_grow_old _ _ hb) (fun b hb _=>Go.Sort.heap_grow_old _ _ (by have:=h.sep.size;omega)) (by show W.w.heap.size≤(Go.Sort.grow W.w os).heap.size;rw[Go.Sort.size_grow];omega) ⟨rfl,rfl,rfl⟩⟩
 ·rw[show decide (xs.length≤1)=false by grind,cond_false]at WM;cases UD:(decide (xs.length≤20)&&xs.all fun x=>xs.all fun z=>(σ.lt y x z).isSome)with
  |false=>grind
  |true=>
   rw[UD,cond_true]at WM;injection WM with WM
   simp only[gL,gm]at UD;obtain⟨da,UN⟩:=UD;obtain⟨A,cc,Wl,Yt,VM,T8⟩:=Th.KK;have Yt:xs.length≤cc:=Yt;cases A with
   |none=>grind
   |some ad=>
    obtain⟨arr,T,fr,os1,U8,hh,T5,UX,Tr,cG,_⟩:=T8 ad rfl (.inr (by omega));have Tl:=UX (by omega);obtain⟨AS,off,sp⟩:=ad;dsimp only at U8 hh T5 Tr cG;subst U8;have T5:off+cc*1≤arr.size:=T5;have Ug:AS∈W.om (.lf cl.r cl.j):=by rw[cG (by omega)];exact gi
    have Zq:AS<W.w.heap.size:=(h.sep.own _ AS Ug).2.1
    have Yv:∀i (hi:i<xs.length),arr[off+i]?=some (.int .i64 (xs[i])):=by intro i hi;have h3:=Tr i hi;simp only[Ls.rd]at h3;obtain⟨w3,ah,h4,_⟩:=h3;have ah:arr[off+(i*1+0)]?=some w3:=ah;rw[Nat.mul_one,iA]at ah;rw[ah];exact congrArg some h4
    obtain⟨x0,WE⟩:∃x0,x0∈xs:=by
     match hq:xs,Vv with
     |x::_,_=>grind
    letI:Inhabited {x:Int // x∈xs}:=⟨⟨x0,WE⟩⟩
    let D:Array {x:Int // x∈xs}:=xs.attach.toArray
    have aw:D.size=xs.length:=by simp[D]
    have de:D.map Subtype.val=xs.toArray:=by simp[D]
    let enc:{x:Int // x∈xs}→Value:=fun x=>.int .i64 x.1
    let Vr:{x:Int // x∈xs}→{x:Int // x∈xs}→Bool:=fun p q=>Om (σ.lt y) p.1 q.1
    have V4:Holds enc W.w AS off D:=by
     intro j hj;rw[aw]at hj;refine⟨?_,?_⟩
     ·simp only[World.cell?,hh];grind
     ·have Tc:off+j<arr.size:=by omega
      have:=Tl (off+j) Tc;obtain⟨lo,hi⟩:=fr;simp only[World.frozen?,hh];grind
    have Z9:∀(m:Nat)(os:Array Obj)(dk:Array {x:Int // x∈xs}),dk.size=D.size→∀i j:Nat,i<D.size→j<D.size→
      Calls P g (#[.int .i64 i,.int .i64 j]++(ks.map fun b=>Value.pointer (some ⟨b,0,none⟩)).toArray) (Go.Sort.grow (Go.Sort.putRow enc (Go.Sort.ahead W.w m) AS off dk) os) fun e w'=>e=.returned (.bool (Vr dk[i]! dk[j]!))∧∃q UP,w'=Go.Sort.grow ((Go.Sort.grow (Go.Sort.putRow enc (Go.Sort.ahead W.w m) AS off dk) os).drewN q) UP:=by
     intro m os dk dm i j hi hj
     have VA:∀b,KL W cl.r b→(Go.Sort.grow (Go.Sort.putRow enc (Go.Sort.ahead W.w m) AS off dk) os).heap[b]?=W.w.heap[b]?:=by intro b hb;rw[Go.Sort.heap_grow_old _ _ (by rw[Go.Sort.size_putRow];exact bV b hb),Gk enc _ AS off dk (b:=b) (fun e=>UT b hb (e▸Ug))];rfl
     have cy:=Xb.frame VA;rw[Wl]at cy
     have U0:σ.lt y dk[i]!.1 dk[j]!.1=some (Vr dk[i]! dk[j]!):=by have h5:=gY.1 UN dk[i]!.1 dk[i]!.2;have h6:=gY.1 h5 dk[j]!.1 dk[j]!.2;obtain⟨b,hb⟩:=Option.isSome_iff_exists.1 h6;show _=some (Om (σ.lt y) dk[i]!.1 dk[j]!.1);unfold Om;rw[hb]
     exact ZM.less _ _ _ _ y AS off xs.length cc (fun t=>dk[t]!.1) cy hy (fun t ht=>by
      rw[Go.Sort.cell?_grow _ _ _ (by show AS<_;rw[Go.Sort.size_putRow];exact Zq)];exact Go.Sort.cell?_putRow enc (Go.Sort.ahead W.w m) AS off D dk V4 dm t (by omega)) da i j (by omega) (by omega) _ U0
    have Tx:=ZM.sort.many _ enc (fun _=>rfl) Vr g (ks.map fun b=>Value.pointer (some ⟨b,0,none⟩)).toArray ZM.enters AS off cc D (by omega) (by omega) W.w Z9 V4 Zq;rw[aw]at Tx;rw[Wl];refine Tx.mono ?_
    rintro en w' ⟨rfl,n,os,rfl⟩
    refine⟨rfl,?_⟩;obtain⟨XN,UM⟩:=Fm Subtype.val Vr (Om (σ.lt y)) (fun _ _=>rfl) D xs.length (by omega);rw[de]at XN;generalize hS:insertionSort Vr D 0 xs.length=S at XN UM;rw[XN]at WM
    have Zf:zs.length=xs.length:=by rw[←WM];simp[UM,aw]
    have al:∀i (hi:i<xs.length),zs[i]?=some S[i]!.1:=by intro i hi;rw[←WM,getElem!_pos S i (by omega)];simp[UM,aw,hi]
    have Tm:M4 W.w (Go.Sort.putRow enc (Go.Sort.ahead W.w n) AS off S) AS (Go.Sort.putCells enc off S arr) T fr:={
     here:=KA enc (Go.Sort.ahead W.w n) AS off S hh
     CG:=fun b hb=>Gk enc (Go.Sort.ahead W.w n) AS off S hb
     size:=Go.Sort.size_putRow enc (Go.Sort.ahead W.w n) AS off S
     rest:=⟨rfl,rfl,rfl⟩ }
    have hpsz:(Go.Sort.putCells enc off S arr).size=arr.size:=by simp[Go.Sort.putCells]
    have Tb:AD (.one (.int .i64)) 2 (Go.Sort.putRow enc (Go.Sort.ahead W.w n) AS off S) W.fz (.slice (some ⟨AS,off,none⟩) zs.length cc) zs (AS::(List.range zs.length).flatMap fun _=>[]):=by
     refine E5 (e:=.one (.int .i64)) (xs:=zs) (ad:=⟨AS,off,none⟩) Tm.here rfl (by grind) (by grind) (show zs.length≤cc by omega) ?_;intro i hi;have hi:i<zs.length:=hi;rw[Zf]at hi;simp only[Ls.rd]
     have Ts:(Go.Sort.putCells enc off S arr)[off+i]?=some (enc S[i]!):=by simp only[Go.Sort.putCells,Array.getElem?_mapIdx,Yv i hi,iF];rw[gS ⟨by omega,by omega⟩,show off+i-off=i by omega]
     refine⟨enc S[i]!,?_,?_,rfl⟩
     ·show(Go.Sort.putCells enc off S arr)[off+(i*1+0)]?=_;grind
     ·have h7:=al i hi;rw[gK (by omega)]at h7;injection h7 with h7
      exact(congrArg (Value.int .i64) h7).symm
    have eB:(AS::(List.range zs.length).flatMap fun _=>([]:List Nat))=W.om (.lf cl.r cl.j):=by
     rw[cG (by omega)];congr 1
     have:(List.range xs.length).flatMap os1=[]:=by rw[List.flatMap_eq_nil_iff];intro i hi;have h3:=Tr i (gZ.1 hi);simp only[Ls.rd]at h3;obtain⟨w3,ah,_,h4⟩:=h3;exact h4
     rw[DM];exact this.symm
    rw[eB,Zf]at Tb;rw[Wl]at T3;have XR:=h.JL hv (e:=.one (.int .i64)) (UJ:=zs) TV T3 Tb (fun b hb=>Tm.CG b fun e=>hb (e▸Ug)) Tm.size Tm.rest;refine⟨_,rfl,XR.world (w':=Go.Sort.grow (Go.Sort.putRow enc (Go.Sort.ahead W.w n) AS off S) os) (XR.KD fun b hb=>Go.Sort.heap_grow_old _ _ hb) (fun b hb Wh=>Go.Sort.heap_grow_old _ _ (by show b<(Go.Sort.putRow enc (Go.Sort.ahead W.w n) AS off S).heap.size;rw[Tm.size];have:=h.sep.size;omega)) (by show _≤(Go.Sort.grow (Go.Sort.putRow enc (Go.Sort.ahead W.w n) AS off S) os).heap.size;rw[Go.Sort.size_grow];grind) ⟨rfl,rfl,rfl⟩⟩
theorem Ln(Tu:DH P E cx.env)(h:AU E s a.tmps W)(hv:Ac s v){c:Call}{f:Operand}{fid:FuncId}{d:Nat}(ho:o.op=.call c)(hb:c.callee=.value f)(UG:o.dst=some d)(hdlt:d<a.tmps.size)(hf:a.eval f=.func (.func fid) #[] #[])
  (hl:(Dp cx s d v fid (c.args.toList.map s.Aq) fun ws=>.go ws).leads ws):BZ P E o a W.w (s.app ws):=by
 unfold Dp at hl;split at hl
 ·rename_i t cl g ps qs T7;split at hl
  ·rename_i σ hσ;split at hl
   ·rename_i AA gen t0 xs TV;split at hl
    ·rename_i Td;simp only[gL,gV,gW]at Td;obtain⟨⟨⟨Te,hp⟩,WX⟩,eO⟩:=Td;subst Te;subst eO;have hp:cl.p=[]:=by cases hq:cl.p<;>simp_all[isNil]
     obtain⟨x1,x2,eV,Vd,VG⟩:=Mv T7;have Yr:c.args = #[x1,x2]:=by grind
     have h1:=A5 h x1;have h2:=A5 h x2;rw[Vd]at h1;rw[VG]at h2;obtain⟨u,eP,Zc⟩:AP s W (.I6 σ.t cl) (a.eval x1):=h1;obtain⟨ks,X4,Z6⟩:AP s W (.EB g ps qs) (a.eval x2):=h2;obtain⟨h',e',T3,hn⟩:=Zc _ _ _ _ _ TV (.inl hp);rw[hp]at hn;obtain⟨rfl,rfl⟩:=hn;obtain⟨u',Tj,Th⟩:=(h.roots cl.r).row TV;rw[T3]at Tj;injection Tj with Tj;subst Tj
     obtain⟨vs,hl,Xb⟩:=Gy h T3 (ks:=ks) Z6 hl;split at hl
     ·rename_i y hy;obtain⟨zs,WM,hl⟩:=hl;have hl:_=ws:=hl;have ZM:=Tu.1.PE fid g σ hσ;obtain⟨fn,cb,Xf,Xg,Vj⟩:=ZM.sort.body
      have aT:(execOp a.eval o).run P W.w=.ok (.enter fid #[a.eval x1,a.eval x2]) W.w:=by
       have Vj : ¬ fn.name = "runtime.NumGoroutine" := by simpa using Vj
       simp[execOp,ho,hb,Yr,resolve,invoke,hf,Deferred.ofValue,callFunc,Xf,Xg,Vj]
      have fin:∀w':World,(∃W1:Wd,W1.w=w'∧AU E (s.app [.leaf cl.r cl.j (.arr cl.AA v t0 (.one (.int .i64)) (show List Int from zs) 2)]) a.tmps W1)→∀(next:Act→World→Prop),(∀a' W',a'.defers=a.defers→AU E (s.app ws) a'.tmps W'→next a' W'.w)→next (a.put o.dst (.tuple #[])) w':=by
       intro w' ⟨W1,bK,TY⟩ next Vm
       have hs:=TY.slot d (x:=.Di []) (u:=.tuple #[]) ⟨#[],rfl,rfl,fun j p hj=>by simp at hj⟩;rw[←bK];refine Vm _ W1 (by rw[UG];rfl) ?_;rw[←hl,UG];exact hs
      intro next Q Vm
      unfold Oper.wp;rw[aT,Oper.upon_enter,eP,X4];have Zr:=Lm (v:=v) (zs:=zs) h hv ZM TV T3 Th Xb hy WM;refine Zr.mono ?_
      rintro en w' ⟨rfl,W1,bK,TY⟩
      exact fin _ ⟨W1,bK,TY⟩ next Vm
     ·exact hl.elim
    ·exact hl.elim
   ·exact hl.elim
  ·exact hl.elim
 ·exact hl.elim
end
end Go.Ev
namespace Go.Ev
section
variable {P:Program}{E:Cr}{s:St}{W:Wd}{o:Oper}{a:Act}{ws:List Wr}{cx:Cx}{v:Nat}{tm:Array Value}
theorem NT(Tu:DH P E cx.env)(h:AU E s a.tmps W)(hv:Ac s v){c:Call}{f:Operand}(ho:o.op=.call c)(hb:c.callee=.value f)(hd:∀d,o.dst=some d→d<a.tmps.size)(hl:(AB cx v o s).leads ws):BZ P E o a W.w (s.app ws):=by
 simp only[AB,ho,hb]at hl;have hf:=Ae h f;split at hl
 ·rename_i fid d ba UG;rw[ba]at hf;have hf:a.eval f=.func (.func fid) #[] #[]:=hf;unfold call at hl;split at hl
  ·exact Ln Tu h hv ho hb UG (hd d UG) hf hl
  ·rename_i g hg;cases Vl:g.s.mk? with
   |true=>
    rw[Vl,gS rfl]at hl
    obtain⟨TX,T,hl,l1,l3,l4,hn,Vu⟩:=I1 h g.s.ps (c.args.toList.map s.Aq) (c.args.toList.map a.eval) (by simp) (fun i av u h1 h2=>by
     rw[ga]at h1 h2;cases hx:c.args.toList[i]? with
     |none=>rw[hx]at h1;cases h1
     |some x=>
      rw[hx]at h1 h2;injection h1 with h1;injection h2 with h2
      subst h1;subst h2;exact A5 h x) hl
    split at hl
    ·rename_i XI;simp only[gL]at XI;obtain⟨Vf,bF⟩:=XI
     have bF:Ah g.s.ps (c.args.toList.map s.Aq)=[]:=by
      revert bF
      cases Ah g.s.ps (c.args.toList.map s.Aq)with
      |nil=>intro _;rfl
      |cons=>intro h;cases h
     split at hl
     ·exact hl.elim
     ·rename_i y hy;obtain⟨z,hz,hl⟩:=hl;have hl:_=ws:=hl
      have hh:Handed s W g.s.ps (c.args.toList.map s.Aq) (c.args.toList.map a.eval) TX T:={
       l1:=l1
       l2:=by rw[←l1];simp
       l3:=l3
       l4:=l4
       nodup:=hn
       each:=Vu
       apart:=fun r hr=>by rw[bF]at hr;cases hr }
      obtain⟨V2,fn,cb,Xf,Xg,Vj⟩:=Tu.1.fns fid g hg;have Tx:=V2 (c.args.toList.map a.eval) W.w (Seen W (Ah g.s.ps (c.args.toList.map s.Aq))) TX _ _ y z (Tu.PI h.sep fun k b hb=>let ⟨a,_,h2⟩:=CX hh hb;⟨a,h2⟩) (F8 h hh) hy hz;rw[Vl]at Tx;intro next Q Vm
      have Ti:(execOp a.eval o).run P W.w=.ok (.enter fid (c.args.toList.map a.eval).toArray) W.w:=by
       have:(c.args.toList.map a.eval).toArray=c.args.map a.eval:=by rw[←iV,iH]
       rw[this]
       have Vj : ¬ fn.name = "runtime.NumGoroutine" := by simpa using Vj
       simp[execOp,ho,hb,resolve,invoke,hf,Deferred.ofValue,callFunc,Xf,Xg,Vj]
      unfold Oper.wp;rw[Ti,Oper.upon_enter];refine Tx.mono ?_
      rintro en w' ⟨r,TZ,b0,rfl,mo⟩
      obtain⟨rfl,Y7,cs,T0,fr,Ts,UQ,hlen,XE⟩:=mo.box;have UK:(unpack g.s.outs z).length=g.s.Gr.length:=by have:=congrArg List.length Y7;simpa using this
      have hzero:∀p∈g.s.Gr,p.2=0:=fun p hp=>by unfold Sm.plain at Vf;simp only[gL]at Vf;simpa using gY.1 Vf.2 p hp
      obtain⟨W',UY,TY⟩:=h.Lf hv (hd d UG) (bs:=AY v g.s.Gr (unpack g.s.outs z)) mo.frame mo.size mo.rest (fun x hx=>by
       obtain⟨a1,a2⟩:=mo.fz x hx;refine⟨a1,a2.imp (fun h=>?_) id⟩;rcases h with h|⟨r,hr,_⟩
       ·exact h
       ·rw[bF]at hr;cases hr) mo.new Ts UQ (by rw[Bh _ _ _ UK];exact hlen) (fun j b hj=>by
       have Y5:j<g.s.Gr.length:=by have:=(gM.1 hj).1;rwa[Bh _ _ _ UK]at this
       have q1:=gK Y5;have q2:=gK (show j<(unpack g.s.outs z).length by omega);have q3:=B3 v _ _ j _ _ q1 q2;rw[q3]at hj;injection hj with hj
       obtain⟨y',Vq,hr⟩:=XE j _ _ q1 q2;rw[hzero _ (List.getElem_mem Y5)]at hr hj;refine⟨_,_,y',?_,Vq,hr⟩;rw[←hj];generalize (unpack g.s.outs z)[j]=lv;obtain⟨l,x⟩:=lv;cases l<;>rfl)
      rw[←hl,UG]at *;rw[←UY];exact Vm _ W' rfl TY
    ·exact hl.elim
   |false=>
   rw[Vl]at hl;simp only[ib,if_false]at hl
   obtain⟨TX,T,hl,l1,l3,l4,hn,Vu⟩:=I1 h g.s.ps (c.args.toList.map s.Aq) (c.args.toList.map a.eval) (by simp) (fun i av u h1 h2=>by
    rw[ga]at h1 h2;cases hx:c.args.toList[i]? with
    |none=>rw[hx]at h1;cases h1
    |some x=>
     rw[hx]at h1 h2;injection h1 with h1;injection h2 with h2
     subst h1;subst h2;exact A5 h x) hl
   split at hl
   ·rename_i XI;split at hl
    ·exact hl.elim
    ·rename_i y hy;obtain⟨z,hz,hl⟩:=hl;cases VX:Dv d v g.s.rs (unpack g.s.outs z) 0 with
     |none=>simp only[VX]at hl;exact hl.elim
     |some bol=>
      obtain⟨bs,own,left⟩:=bol;simp only[VX]at hl;generalize VR:(if fresh g.s.Gr=true then some []else Aw cx s (Ah g.s.ps (c.args.toList.map s.Aq)))=fso at hl;split at hl
      ·rename_i pw fs dI;have hl:_=ws:=hl
       have hh:Handed s W g.s.ps (c.args.toList.map s.Aq) (c.args.toList.map a.eval) TX T:={
        l1:=l1
        l2:=by rw[←l1];simp
        l3:=l3
        l4:=l4
        nodup:=hn
        each:=Vu
        apart:=fun r hr i p hT x hx e=>by
         have h1:=gY.1 XI r hr;simp only[gW]at h1;have h2:Fj (T.flatMap PT.D8) (r,none)=true:=iL.2 ⟨x,gN.2 ⟨p,gP hT,hx⟩,by simp[Tg.Db,e]⟩;rw[h1]at h2;cases h2 }
       obtain⟨V2,fn,cb,Xf,Xg,Vj⟩:=Tu.1.fns fid g hg;have Tx:=V2 (c.args.toList.map a.eval) W.w (Seen W (Ah g.s.ps (c.args.toList.map s.Aq))) TX _ _ y z (Tu.PI h.sep fun k b hb=>let ⟨a,_,h2⟩:=CX hh hb;⟨a,h2⟩) (F8 h hh) hy hz;rw[Vl]at Tx;intro next Q Vm
       have Ti:(execOp a.eval o).run P W.w=.ok (.enter fid (c.args.toList.map a.eval).toArray) W.w:=by
        have:(c.args.toList.map a.eval).toArray=c.args.map a.eval:=by rw[←iV,iH]
        rw[this]
        have Vj : ¬ fn.name = "runtime.NumGoroutine" := by simpa using Vj
        simp[execOp,ho,hb,resolve,invoke,hf,Deferred.ofValue,callFunc,Xf,Xg,Vj]
       unfold Oper.wp;rw[Ti,Oper.upon_enter];refine Tx.mono ?_
       rintro en w' ⟨r,TZ,UE,rv,vsR,vsP,rfl,co⟩
       obtain⟨W',UY,TY⟩:=M7 (cx:=cx) h hv (hd d UG) hh co VR VX dI;rw[←hl,UG]at *;rw[←UY];exact Vm _ W' rfl TY
      ·exact hl.elim
   ·exact hl.elim
 ·exact hl.elim
end
end Go.Ev
namespace Go.Ev
section
variable {P:Program}{E:Cr}{s:St}{W:Wd}{o:Oper}{a:Act}{ws:List Wr}{cx:Cx}{v:Nat}{tm:Array Value}
theorem Md(hc:DV P cx)(Tu:DH P E cx.env)(h:AU E s a.tmps W)(hv:Ac s v)(hd:∀d,o.dst=some d→d<a.tmps.size)(hl:(AB cx v o s).leads ws):BZ P E o a W.w (s.app ws):=by
 cases ho:o.op with
 |move x=>
  cases hn:Hh (s.Aq x)with
  |true=>exact Kb h hv ho hn hd hl
  |false=>exact NV h ho hn hl
 |assign x=>exact Ld h hv ho hd hl
 |pick x y z=>exact NW h ho hl
 |alloc t=>exact MX hc Tu.1.Oi h hv ho hd hl
 |box t x=>exact OH hc h hv ho hd hl
 |build t ps=>exact MZ hc h ho hl
 |buildSlice t n ps=>exact IN hc h hv ho hd hl
 |load t x=>exact NU hc h ho hl
 |store t x y=>exact Me hc Tu.1.Oi h hv ho hl
 |makeInterface t x=>exact GH hc h ho hl
 |makeFunc fn xs ys=>exact J6 h ho hl
 |nilCheck x=>exact J7 h ho hl
 |binOp op tx x y ty=>exact MY hc h ho hl
 |unOp op tx x=>exact NX h ho hl
 |convert t1 t2 x=>exact KZ hc h hv ho hd hl
 |makeSlice t x y=>exact JI hc h hv ho hd hl
 |slice ti x lo hi m=>
  cases m with
  |none=>exact Mc hc h ho hl
  |some m=>simp only[AB,ho]at hl;exact hl.elim
 |fieldAddr t x f=>exact JG hc h ho hl
 |field t x f=>exact Ma hc h ho hl
 |indexAddr t x i=>exact JH hc h ho hl
 |index t x i=>exact Mb hc h ho hl
 |extract x i=>exact Ka h ho hl
 |call c=>
  cases hb:c.callee with
  |builtin b=>
   cases b with
   |len=>exact OI hc h ho hb hl
   |append=>exact Lc hc h hv ho hb hd hl
   |min=>exact OK h ho hb hl
   |max=>exact OJ h ho hb hl
   |_=>simp only[AB,ho,hb]at hl;exact hl.elim
  |value f=>exact NT Tu h hv ho hb hd hl
  |invoke r n=>simp only[AB,ho,hb]at hl;exact hl.elim
 |_=>simp only[AB,ho]at hl;exact hl.elim
end
end Go.Ev
namespace Go.Ev
section
variable {s s':St}{cx:Cx}{v:Nat}{β:Type}
theorem Ai{r:Nat}(h:s'.root r=s.root r)(j:Nat):s'.leaf r j=s.leaf r j:=by unfold St.leaf;rw[h]
theorem BY{c:Loc}(h:s'.root c.r=s.root c.r)(k:(t:TypeId)→(e:Ls)→List e.D→Nat→Step β):s'.content c k=s.content c k:=by unfold St.content;rw[Ai h]
def A4(s s':St)(rs:List Nat):Prop:=∀r∈rs,s'.root r=s.root r
theorem B2{l:L}{la:LA}(h:A4 s s' la.roots)(k:l.D→Step β):s'.datum l la k=s.datum l la k:=by
 cases la with
 |ref c=>exact BY (h c.r (by simp[LA.roots])) _
 |win c lo hi=>exact BY (h c.r (by simp[LA.roots])) _
 |_=>rfl
theorem DL:∀ {ls:List L} {as:List LA} (h:A4 s s' (as.flatMap LA.roots)) (k:List Lv→Step β),s'.data ls as k=s.data ls as k
 | [],[],h,k=>rfl
 | [],_::_,h,k=>rfl
 |_::_,[],h,k=>rfl
 |l::ls,a::as,h,k=>by simp only[St.data];rw[B2 fun r hr=>h r (by simp[hr])];congr 1;funext x;exact DL (fun r hr=>h r (by grind)) _
theorem Jy{la:LA}(h:A4 s s' la.roots)(n:Nat)(k:List LA→Step β):s'.DA la n k=s.DA la n k:=by
 cases la with
 |ptr r j AA=>simp only[St.DA];rw[h r (by simp[LA.roots])]
 |Bi c=>
  simp only[St.DA];split
  ·rfl
  ·rename_i q i off hq;have hg:s'.Jq c.r c.j=s.Jq c.r c.j:=by unfold St.Jq;rw[Ai (h c.r (by simp[LA.roots]))]
   rw[hg];exact BY (c:={ c with p:=q }) (h c.r (by simp[LA.roots])) _
 |_=>rfl
theorem Eh{a:AV}(h:A4 s s' a.roots):A4 s s' a.one?.roots:=by
 cases a with
 |Di vs=>intro r hr;cases hr
 |bx as=>intro r hr;cases hr
 |v g as=>
  cases g with
  |true=>intro r hr;cases hr
  |false=>cases as with
   |nil=>intro r hr;cases hr
   |cons b bs=>cases bs with
    |nil=>intro r hr;exact h r (gN.2 ⟨b,by simp,hr⟩)
    |cons=>intro r hr;cases hr
theorem LW{a:AV}(h:A4 s s' a.roots)(n:Nat)(k:List LA→Step β):s'.FL a n k=s.FL a n k:=by
 cases a with
 |bx as=>rfl
 |v g as=>exact Jy (Eh h) n k
 |Di vs=>exact Jy (Eh h) n k
theorem Kr:∀ {as:List LA},A4 s s' (as.flatMap LA.roots)→MK s' as=MK s as
 | [],_=>rfl
 |a::as,h=>by
  unfold MK;simp only[List.any_cons];have ih:=Kr (as:=as) fun r hr=>h r (by grind);unfold MK at ih;rw[ih];congr 1;cases a with
  |ref c=>simp only;rw[h c.r (by simp[LA.roots])]
  |_=>rfl
theorem EG{la:LA}(h:A4 s s' la.roots):s'.alive la=s.alive la:=by
 cases la with
 |ptr r j AA=>simp only[St.alive];rw[h r (by simp[LA.roots])]
 |Bi c=>simp only[St.alive];rw[Ai (h c.r (by simp[LA.roots]))]
 |_=>rfl
theorem Nc{la:LA}(h:A4 s s' la.roots):s'.sure la=s.sure la:=by
 cases la with
 |ptr r j AA=>simp only[St.sure];rw[h r (by simp[LA.roots])]
 |ref c=>simp only[St.sure];rw[Ai (h c.r (by simp[LA.roots]))]
 |win c lo hi=>simp only[St.sure];rw[Ai (h c.r (by simp[LA.roots]))]
 |Bi c=>simp only[St.sure];exact EG h
 |_=>rfl
theorem K4{la:LA}(h:A4 s s' la.roots)(l:L)(k:LA→List (Nat×Nat)→Step β):s'.take cx v la l k=s.take cx v la l k:=by
 cases la with
 |ptr r j AA=>simp only[St.take];rw[h r (by simp[LA.roots])]
 |ref c=>simp only[St.take];rw[Ai (h c.r (by simp[LA.roots]))];simp only[BY (h c.r (by simp[LA.roots]))]
 |win c lo hi=>simp only[St.take];rw[Ai (h c.r (by simp[LA.roots]))]
 |_=>rfl
theorem Ea:∀ {ls:List L} {as:List LA} (h:A4 s s' (as.flatMap LA.roots)) (k:List LA→List (Nat×Nat)→Step β),s'.F0 cx v ls as k=s.F0 cx v ls as k
 | [],[],h,k=>rfl
 | [],_::_,h,k=>rfl
 |_::_,[],h,k=>rfl
 |l::ls,a::as,h,k=>by simp only[St.F0];rw[K4 fun r hr=>h r (by simp[hr])];congr 1;funext b us;exact Ea (fun r hr=>h r (by grind)) _
theorem Mo{c:Loc}(h:s'.root c.r=s.root c.r)(g:Nat)(vs:List Lv):s'.KB g c vs=s.KB g c vs:=by unfold St.KB;rw[Ai h]
theorem Ir{la:LA}(h:A4 s s' la.roots){as:List LA}(h2:A4 s s' (as.flatMap LA.roots))(ls:List L)(k:List Wr→Step β):s'.GQ cx v la ls as k=s.GQ cx v la ls as k:=by
 cases la with
 |ptr r j AA=>simp only[St.GQ];rw[h r (by simp[LA.roots]),Ea h2]
 |Bi c=>
  simp only[St.GQ];have hh:s'.half c.r c.j=s.half c.r c.j:=by unfold St.half;rw[Ai (h c.r (by simp[LA.roots]))]
  have hs:s'.Cy v c ls as k=s.Cy v c ls as k:=by unfold St.Cy;rw[Ai (h c.r (by simp[LA.roots]))];simp only[DL h2]
  rw[DL h2,Ea h2,Ai (h c.r (by simp[LA.roots])),hh,hs];congr 2;funext vs;rw[Mo (h c.r (by simp[LA.roots]))]
 |_=>rfl
theorem MI{la:LA}(h:A4 s s' la.roots)(k:Int→Step β):lenOf s' la k=lenOf s la k:=by
 cases la with
 |ref c=>exact BY (h c.r (by simp[LA.roots])) _
 |win c lo hi=>exact BY (h c.r (by simp[LA.roots])) _
 |_=>rfl
theorem GF{la:LA}(h:A4 s s' la.roots)(t:TypeId)(e:Ls)(k:List e.D→List (Nat×Nat)→Step β):EV cx s' la t e k=EV cx s la t e k:=by
 unfold EV;rw[B2 h];cases la with
 |ref c=>simp only;rw[Ai (h c.r (by simp[LA.roots]))]
 |_=>rfl
theorem Ja{la lb:LA}(h:A4 s s' la.roots)(h2:A4 s s' lb.roots)(d v:Nat)(t:TypeId)(e:Ls)(k:List Wr→Step β):C1 cx s' d v t e la lb k=C1 cx s d v t e la lb k:=by
 cases la with
 |CL=>simp only[C1];exact GF h2 _ _ _
 |ref c=>
  simp only[C1];rw[Ai (h c.r (by simp[LA.roots]))];cases s.leaf c.r c.j with
  |arr AA gen t' e' xs dd=>
   simp only;split
   ·split
    ·exact GF h2 _ _ _
    ·rfl
   ·rfl
  |_=>rfl
 |win c lo hi=>
  simp only[C1];rw[Ai (h c.r (by simp[LA.roots]))];cases s.leaf c.r c.j with
  |arr AA gen t' e' xs dd=>
   simp only;split
   ·split
    ·exact GF h2 _ _ _
    ·rfl
   ·rfl
  |_=>rfl
 |_=>rfl
theorem I0{la lb:LA}(h:A4 s s' la.roots)(h2:A4 s s' lb.roots)(d v:Nat)(t:TypeId)(e:Ls)(k:List Wr→Step β):Dj cx s' d v t e la lb k=Dj cx s d v t e la lb k:=by
 unfold Dj;cases hn:nested la with
 |none=>
  have hh:ER s' la=ER s la:=by
   cases la with
   |ref c=>
    unfold ER St.half;simp only[Ai (h c.r (by simp[LA.roots]))]
   |_=>rfl
  dsimp only;rw[hh];cases hq:ER s la with
  |none=>exact Ja h h2 d v t e k
  |some c=>
   have hc:c.r∈la.roots:=by
    unfold ER at hq;split at hq
    ·split at hq
     ·split at hq
      ·injection hq with hq;subst hq;simp[LA.roots]
      ·cases hq
     ·cases hq
    ·cases hq
   dsimp only;unfold Ds;rw[Ai (h c.r hc)];simp only[B2 h2]
 |some c=>
  have hc:c.r∈la.roots:=by
   unfold nested at hn;split at hn
   ·split at hn
    ·injection hn with hn;subst hn;simp[LA.roots]
    ·cases hn
   ·cases hn
  dsimp only;unfold Dt;rw[Ai (h c.r hc)];simp only[BY (h c.r hc),B2 h2]
theorem Jj{fs:List (Nat×TypeId)}:∀ {ps:List (Nat×Operand)} (h:∀p∈ps,s'.Aq p.2=s.Aq p.2∧A4 s s' (s.Aq p.2).roots) (ls:List LA),HZ cx s' fs ps ls=HZ cx s fs ps ls
 | [],h,ls=>rfl
 |(i,x)::ps,h,ls=>by
  obtain⟨h1,h2⟩:=h (i,x) (by simp);dsimp only at h1 h2;simp only[HZ];rw[h1];generalize s.Aq x=p at h2;cases p with
  |Di vs=>rfl
  |bx as=>rfl
  |v g as=>
   have:as.all s'.sure=as.all s.sure:=by rw[Bool.eq_iff_iff,gY,gY];refine forall_congr' fun b=>forall_congr' fun hb=>?_;rw[Nc fun r hr=>h2 r (gN.2 ⟨b,hb,hr⟩)]
   cases Hr fs i with
   |none=>rfl
   |some q=>
    obtain⟨off,t⟩:=q;dsimp only;cases cx.ty t with
    |none=>rfl
    |some tf=>
     dsimp only;rw[this];split
     ·exact Jj (fun p hp=>h p (gO _ hp)) _
     ·rfl
theorem HU{e:Ls}:∀ {ps:List (Nat×Operand)} (h:∀p∈ps,s'.Aq p.2=s.Aq p.2∧A4 s s' (s.Aq p.2).roots) (n:Nat) (k:List e.D→List (Nat×Nat)→Step β),Ch cx s' v e ps n k=Ch cx s v e ps n k
 | [],h,n,k=>rfl
 |(i,x)::ps,h,n,k=>by
  obtain⟨h1,h2⟩:=h (i,x) (by simp);dsimp only at h1 h2;have ih:∀(n:Nat) (k:List e.D→List (Nat×Nat)→Step β),Ch cx s' v e ps n k=Ch cx s v e ps n k:=HU fun p hp=>h p (gO _ hp);simp only[Ch];rw[h1];generalize s.Aq x=p at h2;cases p with
  |Di vs=>rfl
  |bx as=>rfl
  |v g as=>
   have h2:A4 s s' (as.flatMap LA.roots):=h2;simp only[DL h2,Ea h2,ih]
theorem D7:∀ {as:List LA} {c:Loc},Cb as=some c→c.r∈as.flatMap LA.roots
 | [],c,h=>by cases h
 |a::as,c,h=>by
  rw[gx];unfold Cb at h;split at h
  ·rename_i c' UF;injection h with h;subst h
   obtain⟨e1,_⟩:=FN UF;exact gX _ (by rw[e1];simp[LA.roots])
  ·exact gU _ (D7 h)
theorem LV{e:Ls}{ps:List (Nat×Operand)}(h:∀p∈ps,s'.Aq p.2=s.Aq p.2∧A4 s s' (s.Aq p.2).roots):D2 s' e ps=D2 s e ps:=by
 unfold D2;split
 ·rfl
 ·split
  ·rename_i x;rw[(h (0,x) (by simp)).1]
  ·rfl
theorem I2{e:Ls}{ps:List (Nat×Operand)}(h:∀p∈ps,s'.Aq p.2=s.Aq p.2∧A4 s s' (s.Aq p.2).roots){x:Operand}{c:Loc}(hl:D2 s e ps=some (x,c))(d v:Nat)(t:TypeId)(k:List Wr→Step β):
  Cv cx s' d v t e x c k=Cv cx s d v t e x c k:=by
 unfold D2 at hl;split at hl
 ·cases hl
 ·split at hl
  ·rename_i x';split at hl
   ·rename_i g as Wy;split at hl
    ·rename_i c' UF;injection hl with hl
     injection hl with e1 e2
     subst e1;subst e2;obtain⟨h1,h2⟩:=h (0,x') (by simp);dsimp only at h1 h2;rw[Wy]at h2;have h2:A4 s s' (as.flatMap LA.roots):=h2;unfold Cv;rw[h1,Wy];dsimp only;rw[Ai (h2 c'.r (D7 UF))];simp only[DL h2]
    ·cases hl
   ·cases hl
  ·cases hl
theorem HR(r:Nat):∀(ls:List (L×Nat)) (as:List LA) (j:Nat),EM ls as=true→∀b∈Az r j as,∀r'∈b.roots,r'=r
 | [],[],j,h,b,hb,r',hr=>by cases hb
 | [],_::_,j,h,b,hb,r',hr=>by cases h
 |_::_,[],j,h,b,hb,r',hr=>by cases h
 |(l,m)::ls,a::as,j,h,b,hb,r',hr=>by
  simp only[EM,gL]at h;rcases gj.1 hb with hb|hb
  ·subst hb;cases a with
   |arr AA gen t e xs d=>simpa[seen,LA.roots]using hr
   |sc l x=>simp[seen,LA.roots]at hr
   |_=>simp at h
  ·exact HR r ls as (j+1) h.2 b hb r' hr
theorem Lj{la:LA}(h:A4 s s' la.roots)(l:L)(d:Nat)(k:Lv→List Tg→Step β):JO s' l d la k=JO s l d la k:=by
 cases l with
 |sl t e=>
  cases la with
  |ref c=>
   show(if d != 4&&(match s'.leaf c.r c.j with
    | .arr _ _ _ _ _ dd=>dd==d&&(isNil c.p||d==2)
    |_=>false)then s'.datum (.sl t e) (.ref c) _ else Step.none)=(if d != 4&&(match s.leaf c.r c.j with
    | .arr _ _ _ _ _ dd=>dd==d&&(isNil c.p||d==2)
    |_=>false)then s.datum (.sl t e) (.ref c) _ else Step.none)
   rw[Ai (h c.r (by simp[LA.roots])),B2 h]
  |_=>rfl
 |int i=>exact B2 h _
 |bool=>exact B2 h _
 |str=>exact B2 h _
theorem H6:∀ {ls:List (L×Nat)} {as:List LA} (h:A4 s s' (as.flatMap LA.roots)) (k:List Lv→List Tg→Step β),Ep s' ls as k=Ep s ls as k
 | [],[],h,k=>rfl
 | [],_::_,h,k=>rfl
 |_::_,[],h,k=>rfl
 |(l,d)::ls,a::as,h,k=>by simp only[Ep];rw[Lj fun r hr=>h r (by simp[hr])];congr 1;funext x us;exact H6 (fun r hr=>h r (by grind)) _
theorem Io:∀ {ls:List (L×Nat)} {as:List LA} (h:A4 s s' (as.flatMap LA.roots)) (vs:List Lv),putRow s' v ls as vs=putRow s v ls as vs
 | [],[],h,vs=>rfl
 | [],_::_,h,vs=>by simp[putRow]
 |_::_,[],h,vs=>by simp[putRow]
 |_::_,_::_,h,[]=>by simp[putRow]
 |(l,d)::ls,a::as,h,x::vs=>by
  simp only[putRow];rw[Io (fun r hr=>h r (by grind)) vs];cases a with
  |ref c=>
   have e:s'.leaf c.r c.j=s.leaf c.r c.j:=Ai (h c.r (by simp[LA.roots])) c.j;simp only[e]
  |_=>rfl
theorem F9:∀ {ps:List PM} {vs:List AV} (h:∀a∈vs,A4 s s' a.roots) (k:List Lv→List Tg→Step β),Ao s' ps vs k=Ao s ps vs k
 | [],[],h,k=>rfl
 | [],_::_,h,k=>by simp only[Ao]
 |pm::ps,[],h,k=>by cases pm<;>simp only[Ao]
 |pm::ps,a::vs,h,k=>by
  have ih:∀(k:List Lv→List Tg→Step β),Ao s' ps vs k=Ao s ps vs k:=F9 fun a ha=>h a (gO _ ha);have ha:=h a (by simp);cases pm with
  |val g ls=>
   cases a with
   |Di vs=>simp only[Ao]
   |bx as=>simp only[Ao]
   |v g' as=>
    simp only[Ao];rw[DL (show A4 s s' (as.flatMap LA.roots)from ha)];grind
  |fn f=>
   unfold Ao;grind
  |box ls=>
   unfold Ao;split
   all_goals (try rename_i e1 e2;try cases e1;try cases e2;try rfl)
   rename_i r AA;have hr:s'.root r=s.root r:=ha r (by simp[AV.roots,LA.roots])
   ·rw[hr];by_cases hc:((s.root r).box&&(s.root r).AA==AA&&EM ls (s.root r).ls)=true
    ·rw[gS hc,gS hc];have Xc:EM ls (s.root r).ls=true:=by simp only[gL]at hc;exact hc.2
     have hd:A4 s s' ((Az r 0 (s.root r).ls).flatMap LA.roots):=fun r' UI=>by obtain⟨b,hb,Tk⟩:=gN.1 UI;rw[HR r ls _ 0 Xc b hb r' Tk];exact hr
     simp only[ih];exact DL hd _
    grind
   all_goals rfl
  |row g ls=>
   cases a with
   |Di vs=>simp only[Ao]
   |bx as=>simp only[Ao]
   |v g' as=>
    simp only[Ao];rw[H6 (show A4 s s' (as.flatMap LA.roots)from ha)];grind
theorem E4{r:Nat}(hr:s'.root r=s.root r):∀(k:Nat) (ls:List (L×Nat)) (vs:List Lv),AX s' r v k ls vs=AX s r v k ls vs
 |_,[],_=>by simp only[AX]
 |_,_::_,[]=>by simp only[AX]
 |k,(l,m)::ls,x::xs=>by simp only[AX,E4 hr (k+1) ls xs,Ai hr]
theorem Gi:∀ {ps:List PM} {Tz:List AV} (h:∀a∈Tz,A4 s s' a.roots) (vs:List Lv),AW s' v ps Tz vs=AW s v ps Tz vs
 | [],[],h,[]=>rfl
 | [],[],h,_::_=>rfl
 | [],_::_,h,vs=>by simp only[AW]
 |pm::ps,[],h,vs=>by cases pm<;>simp only[AW]
 |pm::ps,a::Tz,h,vs=>by
  have ih:∀vs,AW s' v ps Tz vs=AW s v ps Tz vs:=Gi fun a ha=>h a (gO _ ha);have ha:=h a (by simp);cases pm with
  |val g ls=>simp only[AW,ih]
  |fn f=>simp only[AW,ih]
  |box ls=>
   unfold AW;split
   all_goals (try rename_i e1 e2;try cases e1;try cases e2;try rfl)
   ·rename_i r AA;have hr:s'.root r=s.root r:=ha r (by simp[AV.roots,LA.roots]);rw[ih,E4 hr]
   all_goals rfl
  |row g ls=>
   cases a with
   |Di vs=>simp only[AW]
   |bx as=>simp only[AW]
   |v g' as=>
    simp only[AW];rw[Io (show A4 s s' (as.flatMap LA.roots)from ha)];grind
theorem FD{not:Nat}:∀ {bs:List (List L)} {ps:List (Nat×Nat)} (h:∀p∈ps,s'.root p.1=s.root p.1) (k:List Lv→Step β),DJ s' not bs ps k=DJ s not bs ps k
 | [],[],h,k=>rfl
 | [],_::_,h,k=>rfl
 |_::_,[],h,k=>rfl
 |ls::bs,(r,AA)::ps,h,k=>by
  have hr:s'.root r=s.root r:=h (r,AA) (by simp);simp only[DJ];rw[hr];split
  ·rename_i hc;simp only[gL]at hc;have UN:=hc.2
   have aV:A4 s s' ((Az r 0 (s.root r).ls).flatMap LA.roots):=fun r' UI=>by
    obtain⟨y,hy,Vq⟩:=gN.1 UI;obtain⟨i,hi⟩:=hM hy;rw[Cs]at hi;cases hq:(s.root r).ls[i]? with
    |none=>grind
    |some y0=>
     rw[hq]at hi;injection hi with hi
     subst hi;have:=gY.1 UN y0 (gP hq);cases y0 with
     |arr=>
      have:r'=r:=by simpa[seen,LA.roots]using Vq
      grind
     |sc=>simp[seen,LA.roots]at Vq
     |_=>cases this
   rw[DL aV];congr 1;funext x;exact FD (fun p hp=>h p (gO _ hp)) _
  ·rfl
theorem Dy{c:Loc}{qs:List (Nat×Nat)}(hq:∀p∈qs,s'.root p.1=s.root p.1):∀ {cs:List KJ} {ps:List (Nat×Nat)} (h:∀p∈ps,s'.root p.1=s.root p.1) (k:List Lv→Step β),Bt s' c qs cs ps k=Bt s c qs cs ps k
 | [],[],h,k=>rfl
 | [],_::_,h,k=>rfl
 | .box _::_,[],h,k=>rfl
 | .EB _ _::_,[],h,k=>rfl
 | .row::_,[],h,k=>rfl
 | .box ls::cs,p::ps,h,k=>by simp only[Bt];rw[FD (fun q hq=>h q (by grind))];congr 1;funext x;exact Dy hq (fun p hp=>h p (gO _ hp)) _
 | .EB g bs::cs,(r,AA)::ps,h,k=>by
  have hr:s'.root r=s.root r:=h (r,AA) (by simp);simp only[Bt];rw[hr];split
  ·split
   ·rename_i hc;simp only[gL]at hc;have UN:=hc.2;rw[FD (fun p hp=>hq p (by grind))];congr 1;funext x;exact Dy hq (fun p hp=>h p (gO _ hp)) _
   ·rfl
  ·rfl
 | .row::cs,(r,AA)::ps,h,k=>by
  have hr:s'.root r=s.root r:=h (r,AA) (by simp);simp only[Bt];rw[hr];split
  ·exact Dy hq (fun p hp=>h p (gO _ hp)) _
  ·rfl
theorem KC{Tz:List AV}(h:∀a∈Tz,A4 s s' a.roots)(d:Nat)(f:FuncId)(k:List Wr→Step β):Dp cx s' d v f Tz k=Dp cx s d v f Tz k:=by
 unfold Dp;split
 ·rename_i t c g ps qs;have h1:=h (.v false [.I6 t c]) (by simp);have h2:=h (.v false [.EB g ps qs]) (by simp);have hc:s'.root c.r=s.root c.r:=h1 c.r (by simp[AV.roots,LA.roots]);have U7:∀p∈ps,s'.root p.1=s.root p.1:=fun p hp=>h2 p.1 (gN.2 ⟨.EB g ps qs,by simp,gX _ (hR.2 ⟨p,hp,rfl⟩)⟩);have dJ:∀p∈qs,s'.root p.1=s.root p.1:=fun p hp=>h2 p.1 (gN.2 ⟨.EB g ps qs,by simp,gU _ (hR.2 ⟨p,hp,rfl⟩)⟩);rw[Ai hc];simp only[Dy dJ U7]
 ·rfl
theorem Im:∀ {vs:List AV} (h:∀a∈vs,A4 s s' a.roots),Dd s' vs=Dd s vs∧∀ps,Dd s vs=some ps→behind s' ps=behind s ps
 | [],h=>⟨rfl,fun ps hp=>by simp only[Dd,Option.some.injEq]at hp;subst hp;rfl⟩
 |a::vs,h=>by
  obtain⟨ih1,ih2⟩:=Im (vs:=vs) fun b hb=>h b (gO _ hb);have ha:=h a (by simp);unfold Dd;split
  ·rename_i e;exact absurd e (by simp)
  ·rename_i r AA WI e;injection e with e1 e2
   subst e1;subst e2;have hr:s'.root r=s.root r:=ha r (by simp[AV.roots,LA.roots]);rw[hr,ih1];refine⟨rfl,fun ps hp=>?_⟩;split at hp
   ·split at hp
    ·rename_i YA YQ;injection hp with hp
     subst hp;simp only[behind];rw[hr,ih2 YA YQ]
    ·cases hp
   ·cases hp
  grind
theorem Lq{t:TypeId}{q:LA}{p:AV}{dst:Option Tmp}(h:A4 s s' q.roots):IC cx s' t q p dst=IC cx s t q p dst:=by
 unfold IC;split
 ·split
  ·split
   ·rename_i r j AA;rw[h r (by simp[LA.roots])]
   ·rfl
  ·rfl
 ·rfl
theorem FI:∀ {rs:List Nat} (h:A4 s s' rs),Aw cx s' rs=Aw cx s rs
 | [],h=>rfl
 |r::rs,h=>by
  have hr:=h r (by simp)
  have hw:C5 s' r=C5 s r:=by
   unfold C5;have:s'.Bz r=s.Bz r:=by unfold St.Bz;rw[hr]
   rw[this,hr]
  simp only[Aw];rw[FI (fun r hr=>h r (gO _ hr)),hw]
theorem F4:∀(ps:List PM)(Tz:List AV)(r:Nat),r∈Ah ps Tz→∃a∈Tz,r∈a.roots
 | [],_,r,h=>by simp[Ah]at h
 |pm::_,[],r,h=>by cases pm<;>simp[Ah]at h
 |pm::ps,a::Tz,r,h=>by
  have ih:=F4 ps Tz r;have sub:r∈Ah ps Tz→∃b∈a::Tz,r∈b.roots:=fun h=>let ⟨b,hb,hr⟩:=ih h;⟨b,gO _ hb,hr⟩
  cases pm with
  |val g ls=>
   rcases iX.1 (show r∈a.roots++Ah ps Tz from h)with h|h
   all_goals grind
  |_=>exact sub h
theorem NB{Tz:List AV}(h:∀a∈Tz,A4 s s' a.roots)(d:Nat)(f:FuncId)(k:List Wr→Step β):call cx s' d v f Tz k=call cx s d v f Tz k:=by
 unfold call;cases cx.env.fn f with
 |none=>exact KC h d f k
 |some g=>
  dsimp only;cases g.s.mk? with
  |true=>simp only[if_true];rw[F9 h]
  |false=>
  simp only[ib,if_false];rw[F9 h];have h2:∀vs,AW s' v g.s.ps Tz vs=AW s v g.s.ps Tz vs:=Gi h;have h3:Aw cx s' (Ah g.s.ps Tz)=Aw cx s (Ah g.s.ps Tz):=FI fun r hr=>let ⟨a,ha,UI⟩:=F4 _ _ r hr;h a ha r UI
  grind
def Wr.I8:Wr→Bool
 | .leaf _ _ _=>true
 |_=>false
theorem EH(s:St)(r j:Nat)(a:LA)(r':Nat):(s.AF (.leaf r j a)).root r'=if r=r' then { s.root r with ls:=CV (s.root r).ls j a }else s.root r':=by
 show nth dead (CV s.ro r _) r'=_;rw[Ay];by_cases h:r=r'
 ·subst h;by_cases hl:r<s.ro.length
  ·grind
  ·rw[gT (fun hh=>hl hh.2),gS rfl];have:s.root r=dead:=A3 _ (iB hl);show s.root r=_;rw[this];rfl
 ·rw[gT (fun hh=>h hh.1),gT h];rfl
theorem A4.app{rs:List Nat}(h:A4 s s' rs):∀ {fs:List Wr},(∀w∈fs,w.I8=true)→A4 (s.app fs) (s'.app fs) rs:=by
 intro fs hf r hr
 have key:∀(fs:List Wr)(s s':St),(∀w∈fs,w.I8=true)→s'.root r=s.root r→(s'.app fs).root r=(s.app fs).root r:=by
  intro fs
  induction fs with
  |nil=>intro s s' _ h;exact h
  |cons w fs ih=>
   intro s s' hf h;have hw:=hf w gi;refine ih _ _ (fun x hx=>hf x (gO _ hx)) ?_;cases w with
   |leaf r0 j a=>
    rw[EH,EH];grind
   |slot t a=>cases hw
   |root r x=>cases hw
   |half r j v=>cases hw
 exact key fs s s' hf (h r hr)
theorem Fp:∀(r j:Nat)(ls:List LA),∀w∈BA r j ls,w.I8=true
 |_,_,[],w,hw=>by cases hw
 |r,j,a::as,w,hw=>by
  rcases gj.1 hw with e|hw
  ·subst e;rfl
  ·exact Fp r (j+1) as w hw
theorem Ff:∀ {rs:List Nat} {fs:List Wr},Aw cx s rs=some fs→∀w∈fs,w.I8=true
 | [],fs,h,w,hw=>by injection h with h;grind
 |r::rs,fs,h,w,hw=>by
  simp only[Aw]at h;split at h
  ·cases h
  ·split at h
   ·rename_i VH WD;injection h with h;subst h
    rcases iX.1 hw with hw|hw
    ·unfold C5 at hw;split at hw
     ·cases hw
     ·exact Fp r 0 _ w hw
    ·exact Ff WD w hw
   ·cases h
theorem En:∀ {as:List LA} {r:Nat},r∈Hn as→r∈as.flatMap LA.roots
 | [],r,h=>by cases h
 |a::as,r,h=>by
  rw[gx];refine iX.2 ?_;cases a with
  |ref c=>
   simp only[Hn]at h;split at h
   ·exact .inr (En h)
   ·rcases gj.1 h with e|h
    ·subst e;exact .inl (by simp[LA.roots])
    ·exact .inr (En h)
  |_=>exact .inr (En (by simpa[Hn]using h))
theorem LZ{q:LA}{as:List LA}{r:Nat}(h:r∈MT q as):r∈as.flatMap LA.roots:=by
 cases q with
 |ptr=>exact En h
 |_=>cases h
def LA.norm:LA→LA
 | .arr AA _ t e xs (_+1)=>.arr AA 0 t e xs 1
 |a=>a
def Bl.norm(x:Bl):Bl:={ x with ls:=x.ls.map LA.norm }
def Nh(m:Nat)(s s':St):Prop:=(∀t,m.testBit (2*t)=true→s'.slot t=s.slot t)∧(∀r,m.testBit (4*r+1)=true→m.testBit (4*r+3)=true→s'.root r=s.root r)∧∀r,m.testBit (4*r+1)=true→(s'.root r).norm=(s.root r).norm
end
end Go.Ev
namespace Go.Ev
section
variable {s s':St}{cx:Cx}{v:Nat}{β:Type}
def GU(s s':St)(x:Operand):Prop:=s'.Aq x=s.Aq x∧A4 s s' (s.Aq x).roots
theorem GU.one{x:Operand}(h:GU s s' x):s'.Aj x=s.Aj x∧A4 s s' (s.Aj x).roots:=by
 refine⟨by unfold St.Aj;rw[h.1],fun r hr=>h.2 r ?_⟩;unfold St.Aj at hr;cases hq:s.Aq x with
 |Di vs=>rw[hq]at hr;cases hr
 |bx as=>rw[hq]at hr;cases hr
 |v g as=>
  rw[hq]at hr;cases g with
  |true=>cases hr
  |false=>cases as with
   |nil=>cases hr
   |cons b bs=>cases bs with
    |nil=>exact gN.2 ⟨b,by simp,hr⟩
    |cons=>cases hr
theorem Eg{x:Option Operand}(h:∀y,x=some y→GU s s' y)(d:Int)(k:Int→Step β):DZ s' x d k=DZ s x d k:=by
 cases x with
 |none=>rfl
 |some y=>simp only[DZ];rw[(h y rfl).one.1]
theorem LM{o:Oper}{c:Call}(ho:o.op=.call c)(T7:∀x∈c.args.toList,GU s s' x)(V2:∀f,c.callee=.value f→GU s s' f):AB cx v o s'=AB cx v o s:=by
 cases hb:c.callee with
 |builtin b=>
  cases b with
  |len=>
   simp only[AB,ho,hb];split
   ·rename_i x t hx ht;have hx:=(T7 x (by rw[hx];simp)).one;simp only[hx.1,MI hx.2]
   ·rfl
  |append=>
   simp only[AB,ho,hb];split
   ·rename_i x y t1 t2 ty d hx _ _ _;have Vd:=(T7 x (by rw[hx];simp)).one;have ZP:=(T7 y (by rw[hx];simp)).one;simp only[Vd.1,ZP.1,I0 Vd.2 ZP.2]
   ·rfl
  |min=>
   simp only[AB,ho,hb];split
   ·rename_i x y hx;have Vd:=(T7 x (by rw[hx];simp)).one;have ZP:=(T7 y (by rw[hx];simp)).one;grind
   ·rfl
  |max=>
   simp only[AB,ho,hb];split
   ·rename_i x y hx;have Vd:=(T7 x (by rw[hx];simp)).one;have ZP:=(T7 y (by rw[hx];simp)).one;grind
   ·rfl
  |_=>simp only[AB,ho,hb]
 |value f=>
  have hf:=(V2 f hb).one;have XN:c.args.toList.map s'.Aq=c.args.toList.map s.Aq:=List.map_congr_left fun x hx=>(T7 x hx).1
  have Uj:∀a∈c.args.toList.map s.Aq,A4 s s' a.roots:=fun a ha=>by obtain⟨x,hx,rfl⟩:=hR.1 ha;exact(T7 x hx).2
  simp only[AB,ho,hb];rw[hf.1,XN];simp only[NB Uj]
 |invoke r n=>simp only[AB,ho,hb]
theorem Hs{o:Oper}(h:∀x∈o.op.operands.toList,GU s s' x):AB cx v o s'=AB cx v o s:=by
 by_cases Tx:∃c,o.op=.call c
 ·obtain⟨c,ho⟩:=Tx;exact LM ho (fun x hx=>h x (by rw[ho];simp[Op.operands,Call.operands];grind)) fun f hb=>h f (by rw[ho];simp[Op.operands,Call.operands,hb])
 unfold AB;cases ho:o.op with
 |move x=>
  have hx:=h x (by rw[ho];simp[Op.operands]);simp only[hx.1]
 |assign x=>
  have hx:=(h x (by rw[ho];simp[Op.operands])).one;simp only[hx.1];cases o.dst with
  |none=>rfl
  |some d=>
   have VG:=hx.2;generalize s.Aj x=p at VG;cases p<;>first|rfl|simp only[K4 VG]
 |pick x y z=>
  have hx:=(h x (by rw[ho];simp[Op.operands])).one;have hy:=h y (by rw[ho];simp[Op.operands]);have hz:=h z (by rw[ho];simp[Op.operands]);simp only[hx.1,hy.1,hz.1]
 |alloc t=>rfl
 |box t x=>
  have hx:=h x (by rw[ho];simp[Op.operands]);simp only[hx.1];have VG:=hx.2;generalize s.Aq x=p at VG;cases cx.ty t with
  |none=>rfl
  |some ty=>cases o.dst with
   |none=>rfl
   |some d=>cases p with
    |Di vs=>rfl
    |bx as=>rfl
    |v g as=>
     simp only[Kr (show A4 s s' (as.flatMap LA.roots)from VG),Ea (show A4 s s' (as.flatMap LA.roots)from VG)]
 |build t ps=>
  have hp:∀p∈ps.toList,s'.Aq p.2=s.Aq p.2∧A4 s s' (s.Aq p.2).roots:=fun p hp=>h p.2 (by rw[ho];simp only[Op.operands,List.toList_toArray];grind);simp only[Jj hp]
 |buildSlice t n ps=>
  have hp:∀p∈ps.toList,s'.Aq p.2=s.Aq p.2∧A4 s s' (s.Aq p.2).roots:=fun p hp=>h p.2 (by rw[ho];simp only[Op.operands,List.toList_toArray];grind);simp only[HU hp,LV hp];cases cx.ty t with
  |none=>rfl
  |some ty=>cases o.dst with
   |none=>rfl
   |some d=>
    dsimp only;split
    ·rfl
    ·cases ty.ls with
     |one l=>cases l with
      |sl t' e=>
       dsimp only;split
       ·cases hq:D2 s e ps.toList with
        |none=>rfl
        |some q=>exact I2 hp hq _ _ _ _
       ·rfl
      |_=>rfl
     |_=>rfl
 |load t x=>
  have hx:=h x (by rw[ho];simp[Op.operands]);simp only[hx.1,LW hx.2]
 |store t x y=>
  have hx:=(h x (by rw[ho];simp[Op.operands])).one;have hy:=h y (by rw[ho];simp[Op.operands]);simp only[hx.1,hy.1];have ZQ:=hy.2;generalize s.Aq y=p at ZQ;cases cx.ty t with
  |none=>
   have VG:=hx.2;generalize s.Aj x=q at VG;exact Lq VG
  |some ty=>cases p with
   |Di vs=>rfl
   |bx as=>rfl
   |v g as=>
    have ZQ:A4 s s' (as.flatMap LA.roots):=ZQ;dsimp only;cases hn:MT (s.Aj x) as with
    |nil=>simp only[GP,Ir hx.2 ZQ]
    |cons r rs=>
     have UO:A4 s s' (r::rs):=fun r' UI=>ZQ r' (by rw[←hn]at UI;exact LZ UI);simp only[FI UO];cases hf:Aw cx s (r::rs)with
     |none=>rfl
     |some fs=>
      have Xm:=Ff hf;simp only[GP,Ir (hx.2.app Xm) (ZQ.app Xm)]
 |makeInterface t x=>
  have hx:=(h x (by rw[ho];simp[Op.operands])).one;grind
 |makeFunc fn xs ys=>
  cases fn with
  |func g=>
   have XN:ys.toList.map s'.Aq=ys.toList.map s.Aq:=List.map_congr_left fun y hy=>(h y (by rw[ho];simp[Op.operands];exact .inr (by simpa using hy))).1
   have Uj:∀a∈ys.toList.map s.Aq,A4 s s' a.roots:=fun a ha=>by
    obtain⟨y,hy,rfl⟩:=hR.1 ha;exact(h y (by rw[ho];simp[Op.operands];exact .inr (by simpa using hy))).2
   obtain⟨e1,e2⟩:=Im Uj;grind
  |_=>rfl
 |nilCheck x=>
  have hx:=h x (by rw[ho];simp[Op.operands]);simp only[hx.1];have VG:=hx.2;generalize s.Aq x=p at VG;cases p with
  |bx as=>rfl
  |v g as=>simp only[EG (Eh VG)]
  |Di vs=>simp only[EG (Eh VG)]
 |binOp op tx x y ty=>
  have hx:=h x (by rw[ho];simp[Op.operands]);have hy:=h y (by rw[ho];simp[Op.operands]);simp only[hx.1,hy.1]
 |unOp op tx x=>
  have hx:=(h x (by rw[ho];simp[Op.operands])).one;grind
 |convert t1 t2 x=>
  have hx:=(h x (by rw[ho];simp[Op.operands])).one;simp only[hx.1];have VG:=hx.2;generalize s.Aj x=p at VG;cases cx.ty t1 with
  |none=>rfl
  |some ta=>cases cx.ty t2 with
   |none=>rfl
   |some ty=>cases p with
    |sc l z=>cases l<;>first|rfl|(simp only[B2 VG])
    |_=>simp only[B2 VG]
 |makeSlice t x y=>
  have hx:=(h x (by rw[ho];simp[Op.operands])).one;have hy:=(h y (by rw[ho];simp[Op.operands])).one;simp only[hx.1,hy.1]
 |slice ti x lo hi m=>
  have hx:=(h x (by rw[ho];simp[Op.operands])).one;have U2:∀y,lo=some y→GU s s' y:=fun y e=>h y (by rw[ho,e];simp[Op.operands]);have Wg:∀y,hi=some y→GU s s' y:=fun y e=>h y (by rw[ho,e];simp[Op.operands]);cases m with
  |some m=>rfl
  |none=>
   simp only[hx.1];have VG:=hx.2;generalize s.Aj x=p at VG;cases p with
   |sc l b=>cases l<;>simp only[Eg U2,Eg Wg]
   |ref c=>simp only[Eg U2,Eg Wg,BY (VG c.r (by simp[LA.roots]))]
   |_=>rfl
 |fieldAddr t x f=>
  have hx:=h x (by rw[ho];simp[Op.operands]);simp only[hx.1];have VG:=hx.2;generalize s.Aq x=p at VG;cases p with
  |bx as=>rfl
  |v g as=>simp only[EG (Eh VG)]
  |Di vs=>simp only[EG (Eh VG)]
 |field t x f=>
  have hx:=h x (by rw[ho];simp[Op.operands]);simp only[hx.1]
 |indexAddr ti x i=>
  have hx:=(h x (by rw[ho];simp[Op.operands])).one;have hi:=(h i (by rw[ho];simp[Op.operands])).one;simp only[hx.1,hi.1];have VG:=hx.2;generalize s.Aj x=p at VG;cases p with
  |ref c=>simp only[BY (VG c.r (by simp[LA.roots]))]
  |win c lo hi=>simp only[BY (VG c.r (by simp[LA.roots]))]
  |sc l b=>grind
  |_=>rfl
 |index ti x i=>
  have hx:=(h x (by rw[ho];simp[Op.operands])).one;have hi:=(h i (by rw[ho];simp[Op.operands])).one;grind
 |extract x i=>
  have hx:=h x (by rw[ho];simp[Op.operands]);simp only[hx.1]
 |call c=>grind
 |_=>rfl
theorem AJ(a b i:Nat):(Nat.lor a b).testBit i=(a.testBit i||b.testBit i):=Nat.testBit_or a b i
theorem Cf(n i:Nat):(2 ^ n).testBit i=decide (n=i):=Nat.testBit_two_pow
theorem Gs(r i:Nat):(JK r).testBit i=decide (4*r+1=i):=Cf _ _
theorem ES(r i:Nat):(Js r).testBit i=decide (4*r+3=i):=Cf _ _
theorem Gx(a:AV)(r:Nat)(h:r∈a.roots):a.mask.testBit (4*r+1)=true∧a.mask.testBit (4*r+3)=true:=by
 unfold AV.mask
 revert h
 generalize a.roots=rs;intro h
 induction rs with
 |nil=>cases h
 |cons x rs ih=>
  rw[List.foldr_cons,AJ,AJ,AJ,AJ,Gs,ES,Gs,ES];grind
theorem IY(s:St):∀(xs:List Operand)(m0:Nat)(x:Operand),x∈xs→(∀t,x=.tmp t→(xs.foldr (fun x m=>match x with
  | .tmp t=>Nat.lor (2 ^ (2*t)) (Nat.lor (s.slot t).mask m)
  |_=>m) m0).testBit (2*t)=true∧∀r∈(s.slot t).roots,(xs.foldr (fun x m=>match x with
  | .tmp t=>Nat.lor (2 ^ (2*t)) (Nat.lor (s.slot t).mask m)
  |_=>m) m0).testBit (4*r+1)=true∧(xs.foldr (fun x m=>match x with
  | .tmp t=>Nat.lor (2 ^ (2*t)) (Nat.lor (s.slot t).mask m)
  |_=>m) m0).testBit (4*r+3)=true)
 | [],m0,x,h,t,e=>by cases h
 |y::xs,m0,x,h,t,e=>by
  rw[List.foldr_cons];rcases gj.1 h with h|h
  ·subst h;subst e;dsimp only;refine⟨by rw[AJ,Cf];simp,fun r hr=>⟨by rw[AJ,AJ,(Gx _ r hr).1];simp,by rw[AJ,AJ,(Gx _ r hr).2];simp⟩⟩
  ·obtain⟨h1,h2⟩:=IY s xs m0 x h t e;cases y with
   |tmp u=>
    dsimp only;exact⟨by rw[AJ,AJ,h1];simp,fun r hr=>⟨by rw[AJ,AJ,(h2 r hr).1];simp,by rw[AJ,AJ,(h2 r hr).2];simp⟩⟩
   |_=>grind
theorem Hb(s:St)(i:Nat):∀(xs:List Operand)(m0:Nat),m0.testBit i=true→(xs.foldr (fun x m=>match x with
  | .tmp t=>Nat.lor (2 ^ (2*t)) (Nat.lor (s.slot t).mask m)
  |_=>m) m0).testBit i=true
 | [],m0,h=>h
 |y::xs,m0,h=>by
  rw[List.foldr_cons];have:=Hb s i xs m0 h;cases y with
  |tmp u=>dsimp only;rw[AJ,AJ,this];simp
  |_=>exact this
theorem Jg(x:Operand)(h:∀t,x≠.tmp t):s'.Aq x=s.Aq x∧(s.Aq x).roots=[]:=by
 have hv:∀v,(ofConst v).roots=[]:=fun v=>by
  cases v with
  |slice A n c=>
   cases A with
   |none=>cases n with
    |zero=>cases c<;>rfl
    |succ n=>rfl
   |some a=>rfl
  |pointer A=>cases A<;>rfl
  |_=>rfl
 cases x with
 |tmp t=>grind
 |const c=>
  cases c with
  |agg cs=>
   refine⟨rfl,?_⟩;show(cs.toList.map ofConst).flatMap LA.roots=[];rw[List.flatMap_map];simp only[hv,DM]
  |bool b=>exact⟨rfl,by simp[St.Aq,AV.roots,hv]⟩
  |int k n=>exact⟨rfl,by simp[St.Aq,AV.roots,hv]⟩
  |float k n=>exact⟨rfl,by simp[St.Aq,AV.roots,hv]⟩
  |complex k x y=>exact⟨rfl,by simp[St.Aq,AV.roots,hv]⟩
  |string b=>exact⟨rfl,by simp[St.Aq,AV.roots,hv]⟩
  |pointer b=>exact⟨rfl,by simp[St.Aq,AV.roots,hv]⟩
  |slice b n c=>exact⟨rfl,by simp[St.Aq,AV.roots,hv]⟩
  |map r=>exact⟨rfl,by simp[St.Aq,AV.roots,hv]⟩
  |chan r=>exact⟨rfl,by simp[St.Aq,AV.roots,hv]⟩
  |func f x y=>exact⟨rfl,by simp[St.Aq,AV.roots,hv]⟩
  |nilFunc=>exact⟨rfl,by simp[St.Aq,AV.roots,hv]⟩
  |iface t x=>exact⟨rfl,by simp[St.Aq,AV.roots,hv]⟩
  |nilIface=>exact⟨rfl,by simp[St.Aq,AV.roots,hv]⟩
  |tuple vs=>exact⟨rfl,by simp[St.Aq,AV.roots,hv]⟩
 |global g=>exact⟨rfl,rfl⟩
 |func f=>exact⟨rfl,rfl⟩
theorem Kg(r j:Nat):∀ {a b:LA},a.norm=b.norm→IA r j a=IA r j b:=by
 have key:∀a:LA,IA r j a=IA r j a.norm:=fun a=>by
  cases a with
  |arr AA gen t e xs d=>cases d<;>rfl
  |_=>rfl
 grind
theorem EY(r:Nat):∀(j:Nat) {as bs:List LA},as.map LA.norm=bs.map LA.norm→BJ r j as=BJ r j bs
 |j,[],[],_=>rfl
 |j,[],b::bs,h=>by cases h
 |j,a::as,[],h=>by cases h
 |j,a::as,b::bs,h=>by simp only[iR,List.cons.injEq]at h;simp only[BJ,Kg r j h.1,EY r (j+1) h.2]
theorem KV{r j AA n:Nat}{β:Type}{k:List LA→Step β}(h:(s'.root r).norm=(s.root r).norm):s'.DA (.ptr r j AA) n k=s.DA (.ptr r j AA) n k:=by
 have h1:(s'.root r).box=(s.root r).box:=by have:=congrArg Bl.box h;exact this
 have h2:(s'.root r).AA=(s.root r).AA:=by have:=congrArg Bl.AA h;exact this
 have h3:(s'.root r).ls.map LA.norm=(s.root r).ls.map LA.norm:=by have:=congrArg Bl.ls h;exact this
 have h4:(s'.root r).ls.length=(s.root r).ls.length:=by have:=congrArg List.length h3;simpa using this
 have h5:BJ r j (((s'.root r).ls.drop j).take n)=BJ r j (((s.root r).ls.drop j).take n):=EY r j (by rw[List.map_take,List.map_take,List.map_drop,List.map_drop,h3]);simp only[St.DA,h1,h2,h4,h5]
theorem NI{ops:Array Oper}{o:Oper}(h:Nh (A6 ops o s) s s'):AB cx v o s'=AB cx v o s∧∀j want t,o.guard=some (j,want)→(ops[j]?).bind (·.dst)=some t→s'.slot t=s.slot t:=by
 have V3:∀j want t,o.guard=some (j,want)→(ops[j]?).bind (·.dst)=some t→(BT ops o).testBit (2*t)=true:=by intro j want t hg ht;unfold BT;rw[hg];dsimp only;rw[ht];dsimp only;rw[Cf];simp
 by_cases hm:∃t,o.op=.move (.tmp t)∨(∃i,o.op=.extract (.tmp t) i)∨∃T f,o.op=.field T (.tmp t) f
 ·obtain⟨t,ho⟩:=hm;have YS:A6 ops o s=Nat.lor (2 ^ (2*t)) (BT ops o):=by rcases ho with ho|⟨i,ho⟩|⟨T,f,ho⟩<;>(unfold A6;rw[ho])
  rw[YS]at h;have h1:s'.slot t=s.slot t:=h.1 t (by rw[AJ,Cf];simp);refine⟨?_,fun j want u hg ht=>h.1 u (by rw[AJ,V3 j want u hg ht];simp)⟩;have h2:s'.Aq (.tmp t)=s.Aq (.tmp t):=h1;unfold AB;rcases ho with ho|⟨i,ho⟩|⟨T,f,ho⟩<;>(rw[ho];grind)
 by_cases hp:∃t g r j AA,(∃T,o.op=.load T (.tmp t)∨∃f,o.op=.fieldAddr T (.tmp t) f)∧s.slot t=.v g [.ptr r j AA]
 ·obtain⟨t,g,r,j,AA,⟨T,ho⟩,hs⟩:=hp;have YS:A6 ops o s=Nat.lor (2 ^ (2*t)) (Nat.lor (JK r) (BT ops o)):=by rcases ho with ho|⟨f,ho⟩<;>(unfold A6;grind)
  rw[YS]at h;have h1:s'.slot t=s.slot t:=h.1 t (by rw[AJ,Cf];simp);have h2:(s'.root r).norm=(s.root r).norm:=h.2.2 r (by rw[AJ,AJ,Gs];simp);refine⟨?_,fun j want u hg ht=>h.1 u (by rw[AJ,AJ,V3 j want u hg ht];simp)⟩;have h3:s.Aq (.tmp t)=.v g [.ptr r j AA]:=hs;have h4:s'.Aq (.tmp t)=.v g [.ptr r j AA]:=h1.trans hs
  have ha:s'.alive (AV.one? (.v g [.ptr r j AA]))=s.alive (AV.one? (.v g [.ptr r j AA])):=by
   cases g with
   |true=>rfl
   |false=>
    have h5:(s'.root r).box=(s.root r).box:=by have:=congrArg Bl.box h2;exact this
    have h6:(s'.root r).AA=(s.root r).AA:=by have:=congrArg Bl.AA h2;exact this
    show((s'.root r).box&&(s'.root r).AA==AA)=((s.root r).box&&(s.root r).AA==AA);rw[h5,h6]
  have hl:∀n (k:List LA→Step (List Wr)),s'.FL (.v g [.ptr r j AA]) n k=s.FL (.v g [.ptr r j AA]) n k:=fun n k=>by
   show s'.DA (AV.one? (.v g [.ptr r j AA])) n k=s.DA (AV.one? (.v g [.ptr r j AA])) n k;cases g with
   |true=>rfl
   |false=>exact KV h2
  unfold AB;rcases ho with ho|⟨f,ho⟩
  ·rw[ho];grind
  ·rw[ho];simp only[h3,h4,ha]
 by_cases hq:∃t T,o.op=.load T (.tmp t)∨∃f,o.op=.fieldAddr T (.tmp t) f
 ·obtain⟨t,T,ho⟩:=hq
  have YS:A6 ops o s=Nat.lor (2 ^ (2*t)) (Nat.lor (s.slot t).mask (BT ops o)):=by
   have Wj:∀g r j AA,s.slot t≠.v g [.ptr r j AA]:=fun g r j AA hs=>hp ⟨t,g,r,j,AA,⟨T,ho⟩,hs⟩;rcases ho with ho|⟨f,ho⟩
   ·unfold A6;grind
   ·unfold A6;grind
  rw[YS]at h;have h1:s'.slot t=s.slot t:=h.1 t (by rw[AJ,Cf];simp);refine⟨Hs fun x hx=>?_,fun j want u hg ht=>h.1 u (by rw[AJ,AJ,V3 j want u hg ht];simp)⟩
  have hx:x=.tmp t:=by
   rcases ho with ho|⟨f,ho⟩
   ·rw[ho]at hx;simpa[Op.operands]using hx
   ·rw[ho]at hx;simpa[Op.operands]using hx
  subst hx;exact⟨h1,fun r hr=>h.2.1 r (by rw[AJ,AJ,(Gx (s.slot t) r hr).1];simp) (by rw[AJ,AJ,(Gx (s.slot t) r hr).2];simp)⟩
 have YS:A6 ops o s=o.op.operands.toList.foldr (fun x m=>match x with
  | .tmp t=>Nat.lor (2 ^ (2*t)) (Nat.lor (s.slot t).mask m)
  |_=>m) (BT ops o):=by
  unfold A6;split
  ·grind
  ·grind
  ·grind
  ·grind
  ·grind
  ·rfl
 rw[YS]at h;refine⟨Hs fun x hx=>?_,fun j want t hg ht=>?_⟩
 ·by_cases hq:∃t,x=.tmp t
  ·obtain⟨t,rfl⟩:=hq;obtain⟨h1,h2⟩:=IY s o.op.operands.toList _ (.tmp t) hx t rfl;exact⟨h.1 t h1,fun r hr=>h.2.1 r (h2 r hr).1 (h2 r hr).2⟩
  ·obtain⟨h1,h2⟩:=Jg (s:=s) (s':=s') x fun t e=>hq ⟨t,e⟩;exact⟨h1,fun r hr=>by grind⟩
 ·exact h.1 t (Hb s _ _ _ (V3 j want t hg ht))
end
end Go.Ev
namespace Go.Ev
def CE(m n:Nat):Prop:=∀i,m.testBit i=true→n.testBit i=false
theorem HF{m n:Nat}(h:(Nat.land m n==0)=true):CE m n:=by
 intro i hi;have h0:m &&& n=0:=by simpa using h
 have:=congrArg (fun x=>x.testBit i) h0;grind
theorem CE.symm{m n:Nat}(h:CE m n):CE n m:=fun i hi=>by
 cases hm:m.testBit i with
 |false=>rfl
 |true=>rw[h i hm]at hi;cases hi
theorem B0(s:St)(w:Wr):(s.AF w).sl.length=s.sl.length∧(s.AF w).ro.length=s.ro.length:=by
 cases w<;>exact⟨by simp[St.AF,CU],by simp[St.AF,CU]⟩
theorem B8:∀(ws:List Wr)(s:St),(s.app ws).sl.length=s.sl.length∧(s.app ws).ro.length=s.ro.length
 | [],s=>⟨rfl,rfl⟩
 |w::ws,s=>by obtain⟨h1,h2⟩:=B8 ws (s.AF w);obtain⟨h3,h4⟩:=B0 s w;exact⟨h1.trans h3,h2.trans h4⟩
theorem Iz:∀(ws:List Wr)(s:St),(s.app ws).Bm=s.Bm
 | [],s=>rfl
 |w::ws,s=>(Iz ws (s.AF w)).trans (by cases w<;>rfl)
theorem Ox(t r:Nat):(JK r).testBit (2*t)=false∧(Js r).testBit (2*t)=false:=by rw[Gs,ES];grind
theorem HH{s:St}{w:Wr}{t:Nat}(h:w.mask.testBit (2*t)=false):(s.AF w).slot t=s.slot t:=by
 cases w with
 |slot u a=>
  simp only[Wr.mask,Cf,gv]at h;rw[BN,gT (fun hh=>h (by rw[hh.1]))]
 |root r x=>rfl
 |leaf r j a=>rfl
 |half r j v=>rfl
theorem Ba{s:St}{w:Wr}{r:Nat}(h:w.mask.testBit (4*r+3)=false):(s.AF w).root r=s.root r:=by
 cases w with
 |slot u a=>rfl
 |root q x=>
  simp only[Wr.mask,AJ,Gs,ES,gr,gv]at h;rw[Ax,gT (fun hh=>h.2 (by rw[hh.1]))]
 |leaf q j a=>
  simp only[Wr.mask,AJ,Gs,ES,gr,gv]at h;show nth dead (CV s.ro q _) r=_;rw[Ay,gT (fun hh=>h.2 (by rw[hh.1]))];rfl
 |half q j v=>
  simp only[Wr.mask,ES,gv]at h;show nth dead (CV s.ro q _) r=_;rw[Ay,gT (fun hh=>h (by rw[hh.1]))];rfl
theorem BO(w:Wr)(ws:List Wr)(i:Nat):(AE (w::ws)).testBit i=(w.mask.testBit i||(AE ws).testBit i):=AJ _ _ _
theorem DY{t:Nat}:∀ {ws:List Wr} {s:St},(AE ws).testBit (2*t)=false→(s.app ws).slot t=s.slot t
 | [],s,h=>rfl
 |w::ws,s,h=>by rw[BO,gr]at h;exact(DY h.2).trans (HH h.1)
theorem DX{r:Nat}:∀ {ws:List Wr} {s:St},(AE ws).testBit (4*r+3)=false→(s.app ws).root r=s.root r
 | [],s,h=>rfl
 |w::ws,s,h=>by rw[BO,gr]at h;exact(DX h.2).trans (Ba h.1)
theorem E2{t:Nat}:∀ {ws:List Wr} {s s':St},s'.sl.length=s.sl.length→s'.slot t=s.slot t→(s'.app ws).slot t=(s.app ws).slot t
 | [],s,s',hl,h=>h
 |w::ws,s,s',hl,h=>by
  show((s'.AF w).app ws).slot t=((s.AF w).app ws).slot t;refine E2 ((B0 s' w).1.trans (hl.trans (B0 s w).1.symm)) ?_;cases w with
  |slot u a=>rw[BN,BN,hl,h]
  |root r x=>exact h
  |leaf r j a=>exact h
  |half r j v=>exact h
theorem E1{r:Nat}:∀ {ws:List Wr} {s s':St},s'.ro.length=s.ro.length→s'.root r=s.root r→(s'.app ws).root r=(s.app ws).root r
 | [],s,s',hl,h=>h
 |w::ws,s,s',hl,h=>by
  show((s'.AF w).app ws).root r=((s.AF w).app ws).root r;refine E1 ((B0 s' w).2.trans (hl.trans (B0 s w).2.symm)) ?_;cases w with
  |slot u a=>exact h
  |root q x=>rw[Ax,Ax,hl,h]
  |leaf q j a=>
   show nth dead (CV s'.ro q _) r=nth dead (CV s.ro q _) r;rw[Ay,Ay,hl];split
   ·grind
   ·exact h
  |half q j v=>
   show nth dead (CV s'.ro q _) r=nth dead (CV s.ro q _) r;rw[Ay,Ay,hl];split
   ·rename_i hq;obtain⟨rfl,_⟩:=hq;unfold St.leaf;rw[h]
   ·exact h
theorem F1{α:Type}(l:List α){n m:Nat}(h:n≠m)(x y:α):CV (CV l n x) m y=CV (CV l m y) n x:=by rw[Bf,Bf,Bf,Bf];exact List.set_comm _ _ h
theorem BU{s:St}{r j v:Nat}:(s.AF (.half r j v))=s.AF (.leaf r j ((s.leaf r j).Ce v)):=rfl
theorem LG{s:St}{w w':Wr}(h:CE w.mask w'.mask):(s.AF w).AF w'=(s.AF w').AF w:=by
 have key:∀ {n m:Nat},CE (2 ^ n) (2 ^ m)→n≠m:=by intro n m h e;have:=h n (by grind);rw[Cf,e]at this;simp at this
 have hh:∀ {r q:Nat} {a b:Nat},a.testBit (4*r+3)=true→b.testBit (4*q+3)=true→CE a b→r≠q:=by intro r q a b ha hb YF e;have:=YF (4*r+3) ha;rw[e,hb]at this;cases this
 have full:∀r,(Nat.lor (JK r) (Js r)).testBit (4*r+3)=true:=fun r=>by rw[AJ,ES];simp
 have alone:∀r,(Js r).testBit (4*r+3)=true:=fun r=>by rw[ES];simp
 have ll:∀ {s:St} {r j q k:Nat} {a b:LA},r≠q→(s.AF (.leaf r j a)).AF (.leaf q k b)=(s.AF (.leaf q k b)).AF (.leaf r j a):=by intro s r j q k a b Tf;have e1:(s.AF (.leaf r j a)).root q=s.root q:=Ba (by simp only[Wr.mask,AJ,Gs,ES,gr,gv];omega);have e2:(s.AF (.leaf q k b)).root r=s.root r:=Ba (by simp only[Wr.mask,AJ,Gs,ES,gr,gv];omega);simp only[St.AF]at e1 e2 ⊢;rw[e1,e2,F1 _ Tf]
 have rl:∀ {s:St} {r q j:Nat} {x:Bl} {b:LA},r≠q→(s.AF (.root r x)).AF (.leaf q j b)=(s.AF (.leaf q j b)).AF (.root r x):=by
  intro s r q j x b Tf;have e1:(s.AF (.root r x)).root q=s.root q:=by rw[Ax,gT (fun hh=>Tf hh.1)]
  simp only[St.AF]at e1 ⊢;rw[e1,F1 _ Tf]
 have lq:∀ {s:St} {r q j k:Nat} {a:LA},r≠q→(s.AF (.leaf r j a)).leaf q k=s.leaf q k:=by
  intro s r q j k a Tf;unfold St.leaf;rw[Ba (by simp only[Wr.mask,AJ,Gs,ES,gr,gv];omega)]
 have rq:∀ {s:St} {r q k:Nat} {x:Bl},r≠q→(s.AF (.root r x)).leaf q k=s.leaf q k:=by intro s r q k x Tf;unfold St.leaf;rw[Ax,gT (fun hh=>Tf hh.1)]
 cases w with
 |slot t a=>cases w' with
  |slot u b=>
   have Tf:t≠u:=fun e=>key h (by rw[e]);simp only[St.AF];rw[F1 _ Tf]
  |root r x=>rfl
  |leaf r j b=>rfl
  |half r j v=>rfl
 |root r x=>cases w' with
  |slot u b=>rfl
  |root q y=>
   have Tf:r≠q:=hh (full r) (full q) h;simp only[St.AF];rw[F1 _ Tf]
  |leaf q j b=>exact rl (hh (full r) (full q) h)
  |half q j v=>
   have Tf:r≠q:=hh (full r) (alone q) h;rw[BU,BU,rq Tf,rl Tf]
 |leaf r j a=>cases w' with
  |slot u b=>rfl
  |root q y=>exact(rl (hh (full r) (full q) h).symm).symm
  |leaf q k b=>exact ll (hh (full r) (full q) h)
  |half q k v=>
   have Tf:r≠q:=hh (full r) (alone q) h;rw[BU,BU,lq Tf,ll Tf]
 |half r j v=>cases w' with
  |slot u b=>rfl
  |root q y=>
   have Tf:r≠q:=hh (alone r) (full q) h;rw[BU,BU,rq Tf.symm,rl Tf.symm]
  |leaf q k b=>
   have Tf:r≠q:=hh (alone r) (full q) h;rw[BU,BU,lq Tf.symm,ll Tf]
  |half q k u=>
   have Tf:r≠q:=hh (alone r) (alone q) h;rw[BU,BU (s:=s) (r:=q),BU,BU,lq Tf,lq Tf.symm,ll Tf]
theorem Ez{w:Wr}:∀ {ws:List Wr} {s:St},CE w.mask (AE ws)→(s.AF w).app ws=(s.app ws).AF w
 | [],s,h=>rfl
 |w'::ws,s,h=>by
  have h1:CE w.mask w'.mask:=fun i hi=>by have:=h i hi;rw[BO,gr]at this;exact this.1
  have h2:CE w.mask (AE ws):=fun i hi=>by have:=h i hi;rw[BO,gr]at this;exact this.2
  show((s.AF w).AF w').app ws=_;rw[LG h1,Ez h2];rfl
theorem JZ{VH:List Wr}:∀ {ws:List Wr} {s:St},CE (AE ws) (AE VH)→(s.app ws).app VH=(s.app VH).app ws
 | [],s,h=>rfl
 |w::ws,s,h=>by have h1:CE w.mask (AE VH):=fun i hi=>h i (by rw[BO,hi];rfl);have h2:CE (AE ws) (AE VH):=fun i hi=>h i (by rw[BO,hi];simp);show((s.AF w).app ws).app VH=_;rw[JZ h2,Ez h1];rfl
def BR(s:St)(p:Nat→Prop):Prop:=(∀t,∀n∈(s.slot t).AG,p n)∧∀r,∀n∈(s.root r).AG,p n
theorem BR.mono{s:St}{p q:Nat→Prop}(h:BR s p)(hq:∀n,p n→q n):BR s q:=⟨fun t n hn=>hq n (h.1 t n hn),fun r n hn=>hq n (h.2 r n hn)⟩
theorem BR.zero{s:St}{p:Nat→Prop}(h:BR s p):p 0:=by refine h.2 s.ro.length 0 ?_;have:s.root s.ro.length=dead:=A3 _ (gk _);rw[this];exact gi
theorem BR.AF{s:St}{p:Nat→Prop}(h:BR s p){w:Wr}(hw:∀n∈w.AG,p n):BR (s.AF w) p:=by
 cases w with
 |slot u a=>
  refine⟨fun t n hn=>?_,h.2⟩;rw[BN]at hn;split at hn
  ·exact hw n hn
  ·exact h.1 t n hn
 |root q x=>
  refine⟨h.1,fun r n hn=>?_⟩;rw[Ax]at hn;split at hn
  ·exact hw n hn
  ·exact h.2 r n hn
 |leaf q j a=>
  refine⟨h.1,fun r n hn=>?_⟩;have T4:(s.AF (.leaf q j a)).root r=if q=r∧q<s.ro.length then { s.root q with ls:=CV (s.root q).ls j a }else s.root r:=Ay _ _ _ _ _
  rw[T4]at hn;split at hn
  ·rcases gj.1 hn with hn|hn
   ·subst hn;exact h.2 q _ gi
   ·obtain⟨b,hb,Wu⟩:=gN.1 hn;have hb:b∈CV (s.root q).ls j a:=hb;rw[Bf]at hb;rcases iP hb with hb|hb
    ·exact h.2 q n (gO _ (gN.2 ⟨b,hb,Wu⟩))
    ·rw[hb]at Wu;exact hw n Wu
  ·exact h.2 r n hn
 |half q j v=>
  refine⟨h.1,fun r n hn=>?_⟩;have T4:(s.AF (.half q j v)).root r=if q=r∧q<s.ro.length then { s.root q with ls:=CV (s.root q).ls j ((s.leaf q j).Ce v) }else s.root r:=Ay _ _ _ _ _
  rw[T4]at hn;split at hn
  ·rcases gj.1 hn with hn|hn
   ·subst hn;exact h.2 q _ gi
   ·obtain⟨b,hb,Wu⟩:=gN.1 hn;have hb:b∈CV (s.root q).ls j ((s.leaf q j).Ce v):=hb;by_cases hj:j<(s.root q).ls.length
    ·rw[Bf]at hb;rcases iP hb with hb|hb
     ·exact h.2 q n (gO _ (gN.2 ⟨b,hb,Wu⟩))
     ·have TW:n∈(s.leaf q j).AG∨n=v:=by
       rw[hb]at Wu;cases hl:s.leaf q j with
       |arr AA gen t e xs d=>
        rw[hl]at Wu;cases d with
        |zero=>exact .inl Wu
        |succ d=>
         simp only[LA.Ce,LA.AG,gj,List.not_mem_nil,or_false]at Wu ⊢;omega
       |_=>rw[hl]at Wu;exact .inl Wu
      rcases TW with TW|TW
      ·exact h.2 q n (gO _ (gN.2 ⟨_,G3 hj,TW⟩))
      ·exact hw n (by rw[TW];exact gi)
    ·rw[Bf,List.set_eq_of_length_le (by omega)]at hb;exact h.2 q n (gO _ (gN.2 ⟨b,hb,Wu⟩))
  ·exact h.2 r n hn
theorem BR.app{p:Nat→Prop}:∀ {ws:List Wr} {s:St},BR s p→(∀w∈ws,∀n∈w.AG,p n)→BR (s.app ws) p
 | [],s,h,hw=>h
 |w::ws,s,h,hw=>BR.app (ws:=ws) (s:=s.AF w) (h.AF (hw w (by simp))) fun x hx=>hw x (gO _ hx)
theorem BR.Hp{s:St}{p:Nat→Prop}(h:BR s p){v:Nat}(hv:¬p v)(h1:1<v):Ac s v:=by
 refine⟨fun t TW=>hv (h.1 t v TW),fun r j=>.inr fun TW=>?_,h1⟩;by_cases hj:j<(s.root r).ls.length
 ·exact hv (h.2 r v (gO _ (gN.2 ⟨_,G3 hj,TW⟩)))
 ·have:s.leaf r j=.bad:=A3 _ (iB hj);rw[this]at TW;cases TW
def Bs(ops:Array Oper)(o:Oper)(s:St)(b:Bool):Prop:=match o.guard with
 |none=>b=true
 |some (j,want)=>∃t,(ops[j]?).bind (·.dst)=some t∧((s.slot t=.v false [.undef]∧b=false)∨∃c:Bool,s.slot t=.v false [.sc .bool c]∧b=(c==want))
def LB(cx:Cx)(g:Rg)(bs:List Nat)(i:Nat)(o:Oper)(s:St)(ws:List Wr):Prop:=
 (Bs g.ops o s true∧(AB cx (g.v0+i) o s).leads ws∧JF cx o.dst g.v0 (g.v0+i) (nth 0 bs i) ws=true)∨(Bs g.ops o s false∧ws=Cq o.dst)
def Trace(cx:Cx)(g:Rg)(bs:List Nat):Nat→List Oper→List (Nat×Nat)→St→List (Nat×List Wr)→Prop
 |_,[],_,_,[]=>True
 |i,o::r,lg,s,(rm,ws)::tr=>rm=A6 g.ops o s∧(g.draw=true→indep (nth 0 bs i) rm (AE ws) 0 lg=true)∧LB cx g bs i o s ws∧Trace cx g bs (i+1) r (lg++[(rm,AE ws)]) (s.app ws) tr
 |_,_,_,_,_=>False
def AK(A:Nat→Bool):Nat→List (Nat×List Wr)→St→St
 |_,[],s=>s
 |i,x::tr,s=>AK A (i+1) tr (bif A i then s.app x.2 else s)
theorem K7{α:Type}(d:α):∀(l:List α)(n:Nat),CV l n (nth d l n)=l
 | [],n=>rfl
 |x::xs,0=>rfl
 |x::xs,n+1=>by simp[CV,nth,K7 d xs n]
theorem CJ{s:St}{t:Nat}{a:AV}(h:s.slot t=a):s.AF (.slot t a)=s:=by subst h;show { s with sl:=CV s.sl t (s.slot t) }=s;have:CV s.sl t (s.slot t)=s.sl:=K7 _ _ _;rw[this]
theorem EP{R:Type}{cx:Cx}{g:Rg}{bs:List Nat}{k:St→Option R}{x:R}:∀(r:List Oper)(i:Nat) (lg:List (Nat×Nat)) (s:St),EO cx g (number i r) bs lg s k=some x→
  ∃tr,Trace cx g bs i r lg s tr∧tr.length=r.length∧k (AK (fun _=>true) i tr s)=some x
 | [],i,lg,s,h=>⟨[],trivial,rfl,h⟩
 |o::r,i,lg,s,h=>by
  simp only[number,EO]at h
  have exec:Bs g.ops o s true→((AB cx (g.v0+i) o s).run fun ws=>
    if JF cx o.dst g.v0 (g.v0+i) (nth 0 bs i) ws&&(!g.draw||indep (nth 0 bs i) (A6 g.ops o s) (AE ws) 0 lg)then EO cx g (number (i+1) r) bs (lg++[(A6 g.ops o s,AE ws)]) (s.app ws) k else none)=some x→
    ∃tr,Trace cx g bs i (o::r) lg s tr∧tr.length=(o::r).length∧k (AK (fun _=>true) i tr s)=some x:=by
   intro hg h;obtain⟨ws,hl,h⟩:=Step.Cw _ h;split at h
   ·rename_i hc;simp only[gL,gl,gW]at hc;obtain⟨tr,h1,h2,h3⟩:=EP r (i+1) _ _ h;exact⟨(_,ws)::tr,⟨rfl,fun hd=>hc.2.resolve_left (by simp[hd]),.inl ⟨hg,hl,hc.1⟩,h1⟩,by simp[h2],h3⟩
   ·cases h
  have skip:Bs g.ops o s false→(if(!g.draw||indep (nth 0 bs i) (A6 g.ops o s) (AE (Cq o.dst)) 0 lg)=true then EO cx g (number (i+1) r) bs (lg++[(A6 g.ops o s,AE (Cq o.dst))]) (s.app (Cq o.dst)) k else none)=some x→
    ∃tr,Trace cx g bs i (o::r) lg s tr∧tr.length=(o::r).length∧k (AK (fun _=>true) i tr s)=some x:=by
   intro hg h;split at h
   ·rename_i hc;simp only[gl,gW]at hc;obtain⟨tr,h1,h2,h3⟩:=EP r (i+1) _ _ h;exact⟨(_,Cq o.dst)::tr,⟨rfl,fun hd=>hc.resolve_left (by simp[hd]),.inr ⟨hg,rfl⟩,h1⟩,by simp[h2],h3⟩
   ·cases h
  cases bf:o.guard with
  |none=>
   rw[bf]at h;exact exec (by unfold Bs;rw[bf]) h
  |some p=>
   obtain⟨j,want⟩:=p;rw[bf]at h;dsimp only at h;cases ht:(g.ops[j]?).bind (·.dst)with
   |none=>grind
   |some t=>
    rw[ht]at h;dsimp only at h;have gd:∀(c:Bool),s.slot t=.v false [.sc .bool c]→Bs g.ops o s (c==want):=fun c hc=>by unfold Bs;grind
    split at h
    ·rename_i hs;exact skip (by unfold Bs;grind) h
    ·rename_i c hs;cases want with
     |true=>
      dsimp only at h;cases c with
      |true=>
       have Ta:s.AF (.slot t (H9 true))=s:=CJ hs;grind
      |false=>
       have Ta:s.AF (.slot t (H9 false))=s:=CJ hs;grind
     |false=>
      dsimp only at h;cases c with
      |true=>
       have Ta:s.AF (.slot t (H9 true))=s:=CJ hs;grind
      |false=>
       have Ta:s.AF (.slot t (H9 false))=s:=CJ hs;grind
    ·cases h
end Go.Ev
namespace Go.Ev
theorem HM:∀(os:List Oper)(acc:List Nat)(i:Nat),i<acc.length→nth 0 (Et os acc) i=nth 0 acc i
 | [],acc,i,h=>rfl
 |o::os,acc,i,h=>by
  simp only[Et];rw[HM os _ i (by simp;omega),Af,Af,iQ h]
theorem Ha(acc:List Nat)(j:Nat):∀(es:List Edge),(es.foldr (fun e m=>if Region.binds .any e then Nat.lor (2 ^ e.on) (Nat.lor (nth 0 acc e.on) m)else m) 0).testBit j=true→∃e∈es,Region.binds .any e=true∧(e.on=j∨(nth 0 acc e.on).testBit j=true)
 | [],h=>by simp at h
 |e::es,h=>by
  rw[List.foldr_cons]at h;split at h
  ·rename_i hb;rw[AJ,AJ,Cf]at h;simp only[gl,gm]at h;rcases h with h|h|h
   ·exact⟨e,by simp,hb,.inl h⟩
   ·exact⟨e,by simp,hb,.inr h⟩
   ·obtain⟨e',h1,h2⟩:=Ha acc j es h;exact⟨e',gO _ h1,h2⟩
  ·obtain⟨e',h1,h2⟩:=Ha acc j es h;exact⟨e',gO _ h1,h2⟩
theorem HL(j:Nat):∀(os:List Oper)(acc:List Nat)(k:Nat)(o:Oper),os[k]?=some o→(nth 0 (Et os acc) (acc.length+k)).testBit j=true→∃e∈o.after.toList,Region.binds .any e=true∧(e.on=j∨(nth 0 (Et os acc) e.on).testBit j=true)
 | [],acc,k,o,h,hb=>by simp at h
 |x::os,acc,k,o,h,hb=>by
  simp only[Et]at hb ⊢;cases k with
  |zero=>
   simp at h;subst h;rw[iA,HM os _ acc.length (by simp),Af,ia (gk _)]at hb;simp only[Nat.sub_self,List.getElem?_cons_zero,iO]at hb;obtain⟨e,h1,h2,h3⟩:=Ha acc j _ hb;refine⟨e,h1,h2,h3.imp id fun h3=>?_⟩;by_cases Tc:e.on<acc.length
   ·rw[HM os _ e.on (by simp;omega),Af,iQ Tc,←Af];exact h3
   ·rw[A3 0 (iB Tc)]at h3;simp at h3
  |succ k=>
   refine HL j os _ k o (by simpa using h) ?_;rw[iD,List.length_singleton,show acc.length+1+k=acc.length+(k+1) by omega];exact hb
theorem Ck:∀(os:List Oper)(i:Nat),Dz i os=true→∀(k:Nat)(o:Oper),os[k]?=some o→∀e∈o.after.toList,Region.binds .any e=true→e.on<i+k
 | [],i,h,k,o,ho=>by simp at ho
 |x::os,i,h,k,o,ho=>by
  simp only[Dz,gL]at h;cases k with
  |zero=>
   simp at ho;subst ho;intro e he hb;have:=gY.1 h.1 e he;simpa[hb]using this
  |succ k=>
   intro e he hb;have:=Ck os (i+1) h.2 k o (by simpa using ho) e he hb;omega
theorem HP{ops:Array Oper}(hE:Dz 0 ops.toList=true){A:Nat→Prop}(hA:∀i o,A i→ops[i]?=some o→∀e∈o.after.toList,Region.binds .any e=true→A e.on)(hn:∀i,A i→i<ops.size):
  ∀(i:Nat),A i→∀j,(nth 0 (Et ops.toList []) i).testBit j=true→A j:=by
 intro i
 induction i using Nat.strongRecOn with
 |_ i ih=>
  intro hi j hj;have Tc:=hn i hi;have ho:ops.toList[i]?=some ops[i]:=by simp[Tc]
  obtain⟨e,h1,h2,h3⟩:=HL j ops.toList [] i ops[i] ho (by simpa using hj);have eC:=Ck ops.toList 0 hE i ops[i] ho e h1 h2;have cm:=hA i ops[i] hi (by simp[Tc]) e h1 h2;rcases h3 with h3|h3
  ·rw[←h3];exact cm
  ·exact ih e.on (by omega) cm j h3
theorem Iq{ops:Array Oper}(hE:Dz 0 ops.toList=true){A:Nat→Prop}(hA:∀i o,A i→ops[i]?=some o→∀e∈o.after.toList,Region.binds .any e=true→A e.on)(hn:∀i,A i→i<ops.size)
  {i:Nat} {o:Oper} (ho:ops[i]?=some o) (hi:∀e∈o.after.toList,Region.binds .any e=true→A e.on) (j:Nat) (hj:(nth 0 (Et ops.toList []) i).testBit j=true):A j:=by
 have VN:ops.toList[i]?=some o:=by simpa using ho
 obtain⟨e,h1,h2,h3⟩:=HL j ops.toList [] i o VN (by simpa using hj);rcases h3 with h3|h3
 ·rw[←h3];exact hi e h1 h2
 ·exact HP hE hA hn e.on (hi e h1 h2) j h3
section
variable {P:Program}{E:Cr}{s:St}{W:Wd}{a:Act}{cx:Cx}{g:Rg}{bs:List Nat}{Q:Exit→Act→World→Prop}
theorem Iw{tm:Array Value}(h:AU E s tm W){ops:Array Oper}{o:Oper}{b:Bool}(hg:Bs ops o s b):Region.wanted o (yielded ops tm)=b:=by
 unfold Bs at hg;unfold Region.wanted;cases hq:o.guard with
 |none=>rw[hq]at hg;exact hg.symm
 |some p=>
  obtain⟨j,want⟩:=p;rw[hq]at hg;dsimp only at hg ⊢;obtain⟨t,ht,hs⟩:=hg;have VE:=h.AO t;unfold yielded;rw[ht];dsimp only[Option.bind_some];rcases hs with⟨hs,rfl⟩|⟨c,hs,rfl⟩
  ·rw[hs]at VE;have VE:tm.getD t Go.undef=Go.undef:=VE;cases hx:tm[t]? with
   |none=>rfl
   |some x=>
    have:x=Go.undef:=by rw[←VE];simp[gq,hx]
    subst this;rfl
  ·rw[hs]at VE;have VE:tm.getD t Go.undef=.bool c:=VE.1;cases hx:tm[t]? with
   |none=>rw[gq,hx]at VE;cases VE
   |some x=>
    have:x=.bool c:=by rw[←VE];simp[gq,hx]
    subst this;cases c<;>cases want<;>rfl
theorem Kp(hc:DV P cx)(Tu:DH P E cx.env)(h:AU E s a.tmps W){i:Nat}{o:Oper}{ws:List Wr}(hv:Ac s (g.v0+i))(hd:∀d,o.dst=some d→d<a.tmps.size)(Ul:LB cx g bs i o s ws)
  {K:Act→World→Prop} (hK:∀a' W',a'.defers=a.defers→AU E (s.app ws) a'.tmps W'→K a' W'.w) (ho:g.ops[i]?=some o):wpOp P g.ops Q i K a W.w:=by
 unfold wpOp;rw[ho];dsimp only;rcases Ul with⟨hg,hl,_⟩|⟨hg,rfl⟩
 ·rw[Iw h hg,gS rfl];exact .inl (Md hc Tu h hv hd hl K Q fun a' W' h1 h2=>hK a' W' h1 h2)
 ·rw[Iw h hg,gT (by simp)];cases UG:o.dst with
  |none=>exact hK a W rfl (by simp only[Cq,UG];exact h)
  |some d=>
   refine hK _ W rfl ?_;simp only[Cq,UG];exact h.slot d (show BQ s W (one .undef) Go.undef from rfl)
def pA(v0:Nat)(A:Nat→Prop)(n:Nat):Prop:=n<v0∨∃j,A j∧n=v0+j
theorem IT{i:Nat}{o:Oper}{ws:List Wr}(Ul:LB cx g bs i o s ws){A:Nat→Prop}(hA:∀j,(nth 0 bs i).testBit j=true→A j):∀w∈ws,∀n∈w.AG,pA g.v0 (fun j=>A j∨j=i) n:=by
 intro w hw n hn;rcases Ul with⟨_,_,UD⟩|⟨_,rfl⟩
 ·have h1:=gY.1 UD w hw;rw[gL]at h1;have h2:=gY.1 h1.2 n hn;simp only[gl,gm,gV,gL]at h2;rcases h2 with(h2|h2)|⟨h2,h3⟩
  ·exact .inl h2
  ·exact .inr ⟨i,.inr rfl,h2⟩
  ·exact .inr ⟨n-g.v0,.inl (hA _ h3),by omega⟩
 ·cases UG:o.dst with
  |none=>rw[UG]at hw;cases hw
  |some d=>
   rw[UG]at hw;have:w=.slot d (one .undef):=by simpa[Cq]using hw
   subst this;simp[Wr.AG,one,AV.AG,LA.AG]at hn
theorem Mn(hc:DV P cx)(Tu:DH P E cx.env)(h1:1<g.v0)(hb:∀i j,i<g.ops.size→(nth 0 bs i).testBit j=true→j<i):∀(r:List Oper)(i:Nat) (lg:List (Nat×Nat)) (s:St) (tr:List (Nat×List Wr)) (a:Act) (W:Wd),Trace cx g bs i r lg s tr→
  (∀(k:Nat)(o:Oper),r[k]?=some o→g.ops[i+k]?=some o)→AU E s a.tmps W→BR s (pA g.v0 (· < i))→(∀o∈r,∀d,o.dst=some d→d<s.sl.length)→
  (∀a' W',a'.defers=a.defers→AU E (AK (fun _=>true) i tr s) a'.tmps W'→BR (AK (fun _=>true) i tr s) (pA g.v0 (· < i+r.length))→Q .normal a' W'.w)→wpOps P g.ops Q (List.range' i r.length) a W.w
 | [],i,lg,s,[],a,W,ht,hr,TY,Te,hd,hK=>hK a W rfl TY Te
 | [],i,lg,s,_::_,a,W,ht,hr,TY,Te,hd,hK=>ht.elim
 |_::_,i,lg,s,[],a,W,ht,hr,TY,Te,hd,hK=>ht.elim
 |o::r,i,lg,s,(rm,ws)::tr,a,W,ht,hr,TY,Te,hd,hK=>by
  obtain⟨YS,_,Ul,ht⟩:=ht;have ho:g.ops[i]?=some o:=by have:=hr 0 o rfl;simpa using this
  have Tc:i<g.ops.size:=(iE.1 ho).1;rw[iU,List.range'_succ,wpOps_cons];have aH:Ac s (g.v0+i):=Te.Hp (by rintro (hh|⟨j,hj,e⟩)<;>omega) (by omega);refine Kp hc Tu TY aH (fun d UG=>by rw[←TY.DG];exact hd o (by simp) d UG) Ul (fun a' W' Yz Yj=>?_) ho;refine Mn hc Tu h1 hb r (i+1) _ _ tr a' W' ht (fun k o hk=>by rw[show i+1+k=i+(k+1) by omega];exact hr (k+1) o (by simpa using hk)) Yj ?_ ?_ ?_
  ·refine(Te.mono ?_).app (fun w hw n hn=>?_)
   ·rintro n (hn|⟨j,hj,e⟩)
    ·exact .inl hn
    ·exact .inr ⟨j,by omega,e⟩
   ·rcases IT Ul (A:=(· < i)) (fun j hj=>hb i j Tc hj) w hw n hn with hn|⟨j,hj,e⟩
    ·exact .inl hn
    ·exact .inr ⟨j,by omega,e⟩
  ·intro o' VN d UG;rw[(B8 ws s).1];exact hd o' (gO _ VN) d UG
  ·intro a2 W2 Zv Xu ag;refine hK a2 W2 (Zv.trans Yz) Xu (ag.mono ?_)
   rintro n (hn|⟨j,hj,e⟩)
   ·exact .inl hn
   ·exact .inr ⟨j,by simp;omega,e⟩
end
end Go.Ev
namespace Go.Ev
theorem GC(b rm wm:Nat):∀(lg:List (Nat×Nat)) (j:Nat),indep b rm wm j lg=true→∀(k:Nat)(r w:Nat),lg[k]?=some (r,w)→b.testBit (j+k)=true∨(CE w (Nat.lor rm wm)∧CE r wm)
 | [],j,h,k,r,w,hk=>by simp at hk
 |(r0,w0)::lg,j,h,k,r,w,hk=>by
  simp only[indep,gL,gl]at h;cases k with
  |zero=>
   simp at hk;obtain⟨rfl,rfl⟩:=hk;exact h.1.imp id fun hh=>⟨HF hh.1,HF hh.2⟩
  |succ k=>
   have:=GC b rm wm lg (j+1) h.2 k r w (by simpa using hk);grind
section
variable {cx:Cx}{g:Rg}{bs:List Nat}
theorem IE:∀(r:List Oper)(i:Nat) (lg:List (Nat×Nat)) (s:St) (tr:List (Nat×List Wr)),Trace cx g bs i r lg s tr→∀(k:Nat)(o:Oper)(rm:Nat)(ws:List Wr),r[k]?=some o→tr[k]?=some (rm,ws)→
  rm=A6 g.ops o (AK (fun j=>decide (j<i+k)) i tr s)∧LB cx g bs (i+k) o (AK (fun j=>decide (j<i+k)) i tr s) ws∧(g.draw=true→indep (nth 0 bs (i+k)) rm (AE ws) 0 (lg++(tr.take k).map fun x=>(x.1,AE x.2))=true)
 | [],i,lg,s,tr,ht,k,o,rm,ws,h1,h2=>by simp at h1
 |o0::r,i,lg,s,[],ht,k,o,rm,ws,h1,h2=>by simp at h2
 |o0::r,i,lg,s,(rm0,ws0)::tr,ht,k,o,rm,ws,h1,h2=>by
  obtain⟨YS,TW,Ul,ht⟩:=ht
  have none:∀(tr:List (Nat×List Wr)) (i j:Nat) (s:St),j≤i→AK (fun q=>decide (q<j)) i tr s=s:=by
   intro tr
   induction tr with
   |nil=>intro i j s h;rfl
   |cons x tr ih=>
    intro i j s h;simp only[AK];rw[show decide (i<j)=false by simp;omega];exact ih (i+1) j s (by omega)
  cases k with
  |zero=>
   simp at h1 h2;obtain⟨rfl,rfl⟩:=h2;subst h1;rw[iA,none _ _ _ _ (gk _)];grind
  |succ k=>
   obtain⟨q1,q2,q3⟩:=IE r (i+1) _ _ tr ht k o rm ws (by simpa using h1) (by simpa using h2)
   have e:AK (fun j=>decide (j<i+(k+1))) i ((rm0,ws0)::tr) s=AK (fun j=>decide (j<i+1+k)) (i+1) tr (s.app ws0):=by simp only[AK];rw[show decide (i<i+(k+1))=true from decide_eq_true (by omega),show i+(k+1)=i+1+k by omega];rfl
   grind
theorem HI(A:Nat→Bool):∀(tr:List (Nat×List Wr)) (i:Nat) (s:St),(AK A i tr s).sl.length=s.sl.length∧(AK A i tr s).ro.length=s.ro.length
 | [],i,s=>⟨rfl,rfl⟩
 |x::tr,i,s=>by
  simp only[AK];obtain⟨h1,h2⟩:=HI A tr (i+1) (bif A i then s.app x.2 else s);cases hA:A i with
  |true=>rw[hA]at h1 h2;exact⟨h1.trans (B8 _ _).1,h2.trans (B8 _ _).2⟩
  |false=>grind
theorem GZ{A B:Nat→Bool}{t:Nat}:∀(tr:List (Nat×List Wr)) (i:Nat) (s s':St),s'.sl.length=s.sl.length→s'.slot t=s.slot t→(∀k x,tr[k]?=some x→(AE x.2).testBit (2*t)=true→B (i+k)=A (i+k))→
  (AK B i tr s').slot t=(AK A i tr s).slot t
 | [],i,s,s',hl,h,hA=>h
 |x::tr,i,s,s',hl,h,hA=>by
  simp only[AK];refine GZ tr (i+1) _ _ ?_ ?_ fun k y hk hy=>by rw[show i+1+k=i+(k+1) by omega];exact hA (k+1) y (by grind) hy
  ·cases A i<;>cases B i<;>simp[B8,hl]
  ·by_cases hm:(AE x.2).testBit (2*t)=true
   ·have:=hA 0 x rfl hm;rw[iA]at this;rw[this];cases A i with
    |true=>exact E2 hl h
    |false=>exact h
   ·have hm:(AE x.2).testBit (2*t)=false:=by simpa using hm
    have e1:∀b:Bool,(bif b then s'.app x.2 else s').slot t=s'.slot t:=fun b=>by cases b;rfl;exact DY hm
    have e2:∀b:Bool,(bif b then s.app x.2 else s).slot t=s.slot t:=fun b=>by cases b;rfl;exact DY hm
    rw[e1,e2];exact h
theorem GY{A B:Nat→Bool}{t:Nat}:∀(tr:List (Nat×List Wr)) (i:Nat) (s s':St),s'.ro.length=s.ro.length→s'.root t=s.root t→(∀k x,tr[k]?=some x→(AE x.2).testBit (4*t+3)=true→B (i+k)=A (i+k))→
  (AK B i tr s').root t=(AK A i tr s).root t
 | [],i,s,s',hl,h,hA=>h
 |x::tr,i,s,s',hl,h,hA=>by
  simp only[AK];refine GY tr (i+1) _ _ ?_ ?_ fun k y hk hy=>by rw[show i+1+k=i+(k+1) by omega];exact hA (k+1) y (by grind) hy
  ·cases A i<;>cases B i<;>simp[B8,hl]
  ·by_cases hm:(AE x.2).testBit (4*t+3)=true
   ·have:=hA 0 x rfl hm;rw[iA]at this;rw[this];cases A i with
    |true=>exact E1 hl h
    |false=>exact h
   ·have hm:(AE x.2).testBit (4*t+3)=false:=by simpa using hm
    have e1:∀b:Bool,(bif b then s'.app x.2 else s').root t=s'.root t:=fun b=>by cases b;rfl;exact DX hm
    have e2:∀b:Bool,(bif b then s.app x.2 else s).root t=s.root t:=fun b=>by cases b;rfl;exact DX hm
    rw[e1,e2];exact h
theorem La(a:LA)(v:Nat):(a.Ce v).norm=a.norm:=by
 cases a with
 |arr AA gen t e xs d=>cases d<;>rfl
 |_=>rfl
theorem Hq(x:Bl)(j:Nat)(a:LA):({ x with ls:=CV x.ls j a }:Bl).norm={ x.norm with ls:=x.norm.ls.set j a.norm }:=by unfold Bl.norm;simp only[Bf,List.map_set]
theorem GG(x:Bl)(j:Nat)(v:Nat):({ x with ls:=CV x.ls j ((nth .bad x.ls j).Ce v) }:Bl).norm=x.norm:=by
 rw[Hq]
 have:x.norm.ls.set j ((nth .bad x.ls j).Ce v).norm=x.norm.ls:=by
  rw[La];apply List.ext_getElem?;intro i;rw[List.getElem?_set];by_cases e:j=i
  ·subst e;rw[gS rfl];by_cases hl:j<x.norm.ls.length
   ·rw[gS hl];have Wi:j<x.ls.length:=by simpa[Bl.norm]using hl
    have hn:nth .bad x.ls j=x.ls[j]:=by
     have:∀(l:List LA)(j:Nat)(h:j<l.length),nth .bad l j=l[j]:=by
      intro l
      induction l with
      |nil=>intro j h;simp at h
      |cons y l ih=>
       intro j h;cases j with
       |zero=>rfl
       |succ j=>exact ih j (by simpa using h)
     exact this _ _ Wi
    rw[hn,gK hl];simp[Bl.norm]
   grind
  ·rw[gT e]
 rw[this]
theorem HG{s:St}{w:Wr}{r:Nat}(h:w.mask.testBit (4*r+1)=false):((s.AF w).root r).norm=(s.root r).norm:=by
 cases w with
 |slot u a=>rfl
 |root q x=>
  simp only[Wr.mask,AJ,Gs,ES,gr,gv]at h;rw[Ax,gT (fun hh=>h.1 (by rw[hh.1]))]
 |leaf q j a=>
  simp only[Wr.mask,AJ,Gs,ES,gr,gv]at h
  have e:(s.AF (.leaf q j a)).root r=s.root r:=by show nth dead (CV s.ro q _) r=_;rw[Ay,gT (fun hh=>h.1 (by rw[hh.1]))];rfl
  rw[e]
 |half q j v=>
  have e:(s.AF (.half q j v)).root r=if q=r∧q<s.ro.length then { s.root q with ls:=CV (s.root q).ls j ((s.leaf q j).Ce v) }else s.root r:=Ay _ _ _ _ _
  rw[e];split
  ·rename_i hq;obtain⟨rfl,_⟩:=hq;exact GG _ _ _
  ·rfl
theorem DW{r:Nat}:∀ {ws:List Wr} {s:St},(AE ws).testBit (4*r+1)=false→((s.app ws).root r).norm=(s.root r).norm
 | [],s,h=>rfl
 |w::ws,s,h=>by rw[BO,gr]at h;exact(DW h.2).trans (HG h.1)
theorem E0{r:Nat}:∀ {ws:List Wr} {s s':St},s'.ro.length=s.ro.length→(s'.root r).norm=(s.root r).norm→((s'.app ws).root r).norm=((s.app ws).root r).norm
 | [],s,s',hl,h=>h
 |w::ws,s,s',hl,h=>by
  show(((s'.AF w).app ws).root r).norm=(((s.AF w).app ws).root r).norm;refine E0 ((B0 s' w).2.trans (hl.trans (B0 s w).2.symm)) ?_;cases w with
  |slot u a=>exact h
  |root q x=>
   rw[Ax,Ax,hl];grind
  |leaf q j a=>
   have e:∀s:St,(s.AF (.leaf q j a)).root r=if q=r∧q<s.ro.length then { s.root q with ls:=CV (s.root q).ls j a }else s.root r:=fun s=>Ay _ _ _ _ _
   rw[e,e,hl];split
   ·rename_i hq;obtain⟨rfl,_⟩:=hq;rw[Hq,Hq,h]
   ·exact h
  |half q j v=>
   have e:∀s:St,(s.AF (.half q j v)).root r=if q=r∧q<s.ro.length then { s.root q with ls:=CV (s.root q).ls j ((s.leaf q j).Ce v) }else s.root r:=fun s=>Ay _ _ _ _ _
   rw[e,e,hl];split
   ·rename_i hq;obtain⟨rfl,_⟩:=hq;exact(GG _ _ _).trans (h.trans (GG _ _ _).symm)
   ·exact h
theorem GW{A B:Nat→Bool}{t:Nat}:∀(tr:List (Nat×List Wr)) (i:Nat) (s s':St),s'.ro.length=s.ro.length→(s'.root t).norm=(s.root t).norm→(∀k x,tr[k]?=some x→(AE x.2).testBit (4*t+1)=true→B (i+k)=A (i+k))→
  ((AK B i tr s').root t).norm=((AK A i tr s).root t).norm
 | [],i,s,s',hl,h,hA=>h
 |x::tr,i,s,s',hl,h,hA=>by
  simp only[AK];refine GW tr (i+1) _ _ ?_ ?_ fun k y hk hy=>by rw[show i+1+k=i+(k+1) by omega];exact hA (k+1) y (by grind) hy
  ·cases A i<;>cases B i<;>simp[B8,hl]
  ·by_cases hm:(AE x.2).testBit (4*t+1)=true
   ·have:=hA 0 x rfl hm;rw[iA]at this;rw[this];cases A i with
    |true=>exact E0 hl h
    |false=>exact h
   ·have hm:(AE x.2).testBit (4*t+1)=false:=by simpa using hm
    have e1:∀b:Bool,((bif b then s'.app x.2 else s').root t).norm=(s'.root t).norm:=fun b=>by cases b;rfl;exact DW hm
    have e2:∀b:Bool,((bif b then s.app x.2 else s).root t).norm=(s.root t).norm:=fun b=>by cases b;rfl;exact DW hm
    rw[e1,e2];exact h
theorem GX{A:Nat→Bool}{ws:List Wr}:∀(tr:List (Nat×List Wr)) (i:Nat) (s:St),(∀k x,tr[k]?=some x→A (i+k)=true→CE (AE ws) (AE x.2))→AK A i tr (s.app ws)=(AK A i tr s).app ws
 | [],i,s,h=>rfl
 |x::tr,i,s,h=>by
  simp only[AK];have ih:∀s,AK A (i+1) tr (s.app ws)=(AK A (i+1) tr s).app ws:=fun s=>GX tr (i+1) s fun k y hk hy=>h (k+1) y (by grind) (by grind);cases hA:A i with
  |false=>exact ih s
  |true=>
   dsimp only[cond_true];rw[←ih,JZ (h 0 x rfl (by omega))]
theorem Du{A B:Nat→Bool}:∀(tr:List (Nat×List Wr)) (i:Nat) (s:St),(∀k,k<tr.length→A (i+k)=B (i+k))→AK A i tr s=AK B i tr s
 | [],i,s,h=>rfl
 |x::tr,i,s,h=>by
  simp only[AK];have h0:=h 0 (by simp);rw[iA]at h0;rw[h0];exact Du tr (i+1) _ fun k hk=>by rw[show i+1+k=i+(k+1) by omega];exact h (k+1) (by simp;omega)
theorem GV{A B:Nat→Bool}{n:Nat}{rm:Nat}{ws:List Wr}:∀(tr:List (Nat×List Wr)) (i:Nat) (s:St),tr[n]?=some (rm,ws)→A (i+n)=false→B (i+n)=true→(∀k,k≠n→B (i+k)=A (i+k))→
  (∀k x,n<k→tr[k]?=some x→A (i+k)=true→CE (AE ws) (AE x.2))→AK B i tr s=(AK A i tr s).app ws
 | [],i,s,hn,hA,hB,Ta,XI=>by simp at hn
 |x::tr,i,s,hn,hA,hB,Ta,XI=>by
  simp only[AK];cases n with
  |zero=>
   simp at hn;subst hn;rw[iA]at hA hB;rw[hA,hB];dsimp only[cond_true,cond_false];rw[Du (A:=B) (B:=A) tr (i+1) _ fun k hk=>by rw[show i+1+k=i+(k+1) by omega];exact Ta (k+1) (by omega)];exact GX tr (i+1) s fun k y hk hy=>XI (k+1) y (by omega) (by grind) (by grind)
  |succ n=>
   have h0:=Ta 0 (by omega);rw[iA]at h0;rw[h0]
   exact GV tr (i+1) _ (by simpa using hn) (by grind) (by grind)
    (fun k hk=>by rw[show i+1+k=i+(k+1) by omega];exact Ta (k+1) (by omega)) (fun k y hk hy hA=>XI (k+1) y (by omega) (by grind) (by grind))
end
section
variable {P:Program}{E:Cr}{cx:Cx}{g:Rg}{Q:Exit→Act→World→Prop}
theorem He{ops:Array Oper}{o:Oper}{s s':St}{b:Bool}(h:∀j want t,o.guard=some (j,want)→(ops[j]?).bind (·.dst)=some t→s'.slot t=s.slot t)(hg:Bs ops o s b):Bs ops o s' b:=by unfold Bs at hg ⊢;grind
theorem Nx(hc:DV P cx)(Tu:DH P E cx.env)(h1:1<g.v0)(hE:Dz 0 g.ops.toList=true)(Yc:g.draw=true){s:St}{tr:List (Nat×List Wr)}(ht:Trace cx g (Et g.ops.toList []) 0 g.ops.toList [] s tr)(hlen:tr.length=g.ops.size)
  (Te:BR s (· < g.v0)) (hd:∀o∈g.ops.toList,∀d,o.dst=some d→d<s.sl.length) {df:List Deferred}
  (hK:∀a' W',a'.defers=df→AU E (AK (fun _=>true) 0 tr s) a'.tmps W'→BR (AK (fun _=>true) 0 tr s) (pA g.v0 (· < g.ops.size))→Q .normal a' W'.w):
  ∀(fuel:Nat)(listed:Array Bool)(a:Act)(W:Wd),listed.size=g.ops.size→listed.toList.count false=fuel→a.defers=df→AU E (AK (fun i=>listed.getD i false) 0 tr s) a.tmps W→
   BR (AK (fun i=>listed.getD i false) 0 tr s) (pA g.v0 fun i=>listed.getD i false=true)→
   (∀i o,listed.getD i false=true→g.ops[i]?=some o→∀e∈o.after.toList,Region.binds .any e=true→listed.getD e.on false=true)→wpAny P .any g.ops Q fuel listed a W.w:=by
 intro fuel
 have UN:∀(listed:Array Bool),listed.size=g.ops.size→(∀i,i<g.ops.size→listed.getD i false=true)→AK (fun i=>listed.getD i false) 0 tr s=AK (fun _=>true) 0 tr s:=fun listed hs h=>
  Du tr 0 s fun k hk=>by grind
 have aQ:∀(listed:Array Bool)(i:Nat),i∈Region.ready .any g.ops listed→listed.size=g.ops.size→i<g.ops.size∧listed.getD i false=false∧∃o,g.ops[i]?=some o∧∀e∈o.after.toList,Region.binds .any e=true→listed.getD e.on false=true:=by
  intro listed i hi hs;obtain⟨Y4,Z5⟩:=List.mem_filter.1 hi;have Tc:i<g.ops.size:=gZ.1 Y4;rw[gL]at Z5;refine⟨Tc,?_,g.ops[i],by simp[Tc],?_⟩
  ·grind
  ·intro e he hb;have h2:=Z5.2;rw[gp Tc]at h2;simp only[iF,iO]at h2;have h3:=Array.all_eq_true'.1 h2 e (by simpa using he);grind
 induction fuel with
 |zero=>
  intro listed a W hs V0 dB TY hv YH
  have Wj:∀i,i<g.ops.size→listed.getD i false=true:=by
   intro i hi;have hl:i<listed.size:=by omega
   have Tf:false∉listed.toList:=List.count_eq_zero.1 V0;rw[gq,gp hl,iO];cases hq:listed[i]with
   |true=>rfl
   |false=>exact absurd (by rw[←hq];exact Array.getElem_mem_toList hl) Tf
  refine⟨?_,?_⟩
  ·rw[List.eq_nil_iff_forall_not_mem];intro i hi;obtain⟨q1,q2,_⟩:=aQ listed i hi hs;rw[Wj i q1]at q2;cases q2
  grind
 |succ fuel ih=>
  intro listed a W hs V0 dB TY hv YH
  have cp:∀i,listed.getD i false=true→i<g.ops.size:=by
   intro i hi;rw[←hs];rcases hQ i listed.size with h|h
   ·exact h
   ·grind
  refine⟨fun hemp=>?_,fun i hi=>?_⟩
  ·exfalso
   have hex:∃i,i<g.ops.size∧listed.getD i false=false:=by
    have:false∈listed.toList:=by refine gz fun hn=>?_;rw[List.count_eq_zero.2 hn]at V0;cases V0
    obtain⟨i,hi,he⟩:=List.mem_iff_getElem.1 this;have U3:i<listed.size:=by simpa using hi
    refine⟨i,by omega,?_⟩;rw[gq,gp U3,iO];simpa using he
   have bu:∀n i,i≤n→i<g.ops.size→listed.getD i false=false→∃j,j∈Region.ready .any g.ops listed:=by
    intro n
    induction n using Nat.strongRecOn with
    |_ n ihn=>
     intro i TW hi a8;by_cases hp:∀e∈(g.ops[i]).after.toList,Region.binds .any e=true→listed.getD e.on false=true
     ·refine⟨i,List.mem_filter.2 ⟨gZ.2 hi,?_⟩⟩;have hl:i<listed.size:=by omega
      rw[gL];refine⟨?_,?_⟩
      ·simp only[gq,gp hl,iO]at a8 ⊢;simp[a8]
      ·rw[gp hi];simp only[iF,iO];refine Array.all_eq_true'.2 fun e he=>?_;cases hb:Region.binds .any e with
       |false=>rfl
       |true=>simpa using hp e (by simpa using he) hb
     ·have:∃e∈(g.ops[i]).after.toList,Region.binds .any e=true∧listed.getD e.on false=false:=by
       refine gz fun hn=>hp fun e he hb=>?_;cases hq:listed.getD e.on false with
       |true=>rfl
       |false=>exact absurd ⟨e,he,hb,hq⟩ hn
      obtain⟨e,he,hb,hle⟩:=this;have eC:=Ck g.ops.toList 0 hE i g.ops[i] (by simp[hi]) e he hb;exact ihn e.on (by omega) e.on (gk _) (by omega) hle
   obtain⟨i,hi,a8⟩:=hex;obtain⟨j,hj⟩:=bu i i (gk _) hi a8;grind
  ·obtain⟨Tc,U6,o,ho,WY⟩:=aQ listed i hi hs;have dG:g.ops.toList[i]?=some o:=by simpa using ho
   obtain⟨⟨rm,ws⟩,dM⟩:∃x,tr[i]?=some x:=⟨tr[i]'(by omega),gK (by omega)⟩;obtain⟨t1,t2,t3⟩:=IE g.ops.toList 0 [] s tr ht i o rm ws dG dM;simp only[gb,hY]at t1 t2 t3;have t3:=t3 Yc;have ES:∀j,(nth 0 (Et g.ops.toList []) i).testBit j=true→listed.getD j false=true:=Iq hE YH cp ho WY
   have Xk:∀k x,i<k→tr[k]?=some x→listed.getD k false=true→CE (AE ws) (Nat.lor x.1 (AE x.2))∧CE rm (AE x.2):=by intro k x hk hx Uh;obtain⟨ok,UD⟩:∃o,g.ops.toList[k]?=some o:=⟨_,gK (by grind)⟩;obtain⟨rmk,wsk⟩:=x;obtain⟨_,_,k3⟩:=IE g.ops.toList 0 [] s tr ht k ok rmk wsk UD hx;simp only[gb,hY]at k3;have:=GC _ _ _ _ 0 (k3 Yc) i rm (AE ws) (by grind);rw[gb]at this;refine this.resolve_left fun hb=>?_;have:=HP hE (A:=fun i=>listed.getD i false=true) YH cp k Uh i hb;rw[U6]at this;cases this
   have Y1:∀k x,k<i→tr[k]?=some x→listed.getD k false=false→CE (AE x.2) (Nat.lor rm (AE ws)):=by
    intro k x hk hx Uh;have:=GC _ _ _ _ 0 t3 k x.1 (AE x.2) (by grind);rw[gb]at this;rcases this with hb|hb
    ·grind
    ·exact hb.1
   have VT:Nh rm (AK (fun j=>decide (j<i)) 0 tr s) (AK (fun i=>listed.getD i false) 0 tr s):=by
    have key:∀(b:Nat),rm.testBit b=true→∀k x,tr[k]?=some x→(AE x.2).testBit b=true→listed.getD (0+k) false=decide (0+k<i):=by
     intro b hb k x hx hw;rw[gb];rcases Nat.lt_trichotomy k i with hk|hk|hk
     ·cases hl:listed.getD k false with
      |true=>simp[hk]
      |false=>
       have:=Y1 k x hk hx hl b hw;rw[AJ,hb]at this;simp at this
     ·grind
     ·cases hl:listed.getD k false with
      |false=>simp;omega
      |true=>
       have:=(Xk k x hk hx hl).2 b hb;grind
    exact⟨fun t hb=>GZ tr 0 s s rfl rfl fun k x hx hw=>key _ hb k x hx hw,fun t _ hb=>GY tr 0 s s rfl rfl fun k x hx hw=>key _ hb k x hx hw,fun t hb=>GW tr 0 s s rfl rfl fun k x hx hw=>key _ hb k x hx hw⟩
   have Yd:=NI (cx:=cx) (v:=g.v0+i) (ops:=g.ops) (o:=o) (s:=AK (fun j=>decide (j<i)) 0 tr s) (s':=AK (fun i=>listed.getD i false) 0 tr s) (by grind)
   have Ul:LB cx g (Et g.ops.toList []) i o (AK (fun i=>listed.getD i false) 0 tr s) ws:=by
    rcases t2 with⟨g1,g2,g3⟩|⟨g1,g2⟩
    ·exact .inl ⟨He Yd.2 g1,by grind,g3⟩
    ·exact .inr ⟨He Yd.2 g1,g2⟩
   have aH:Ac (AK (fun i=>listed.getD i false) 0 tr s) (g.v0+i):=hv.Hp (by
    rintro (hh|⟨j,hj,e⟩)
    all_goals grind) (by omega)
   have VO:∀k,(listed.setIfInBounds i true).getD k false=(if i=k then true else listed.getD k false):=by
    intro k;simp only[gq,h9];by_cases hk:i=k
    ·grind
    ·simp[hk]
   have Uw:AK (fun k=>(listed.setIfInBounds i true).getD k false) 0 tr s=(AK (fun i=>listed.getD i false) 0 tr s).app ws:=by refine GV tr 0 s dM (by grind) (by grind) (fun k hk=>by grind) fun k x hk hx hl=>?_;rw[gb]at hl;intro b hb;have:=(Xk k x hk hx hl).1 b hb;rw[AJ,gr]at this;exact this.2
   refine Kp hc Tu TY aH (fun d UG=>by rw[←TY.DG,(HI _ tr 0 s).1];exact hd o (gP dG) d UG) Ul (fun a' W' Yz Yj=>?_) ho;refine ih (listed.setIfInBounds i true) a' W' (by simp[hs]) ?_ (Yz.trans dB) (by grind) ?_ ?_
   ·have U3:i<listed.toList.length:=by simp;omega
    have hfalse:listed.toList[i]=false:=by
     have hl:i<listed.size:=by omega
     rw[gq,gp hl,iO]at U6;simpa using U6
    grind
   ·rw[Uw];refine(hv.mono ?_).app (fun w hw n hn=>?_)
    ·rintro n (hn|⟨j,hj,e⟩)
     ·exact .inl hn
     ·exact .inr ⟨j,by show(listed.setIfInBounds i true).getD j false=true;rw[VO];grind,e⟩
    ·rcases IT Ul (A:=fun j=>listed.getD j false=true) ES w hw n hn with hn|⟨j,hj,e⟩
     ·exact .inl hn
     ·refine .inr ⟨j,?_,e⟩;show(listed.setIfInBounds i true).getD j false=true;rw[VO];grind
   ·intro k o' hk VN e he hb;rw[VO]at hk ⊢;split
    ·rfl
    ·by_cases Y6:i=k
     all_goals grind
end
end Go.Ev
namespace Go.Ev
def HS(cx:Cx)(a:LA):Prop:=match a with
 | .ref c=>cx.lock c.r=false
 | .win c _ _=>cx.lock c.r=false
 | .Bi c=>cx.lock c.r=false
 | .ptr r _ _=>cx.E9 r=false
 | .I6 _ c=>cx.lock c.r=false
 | .EB _ ps _=>∃p∈ps,cx.E9 p.1=false
 |_=>False
def FB(cx:Cx)(a a':LA):Prop:=a'=a∨(a'=.bad∧HS cx a)
inductive Cz(cx:Cx):AV→AV→Prop
 |same (v):Cz cx v v
 |v (g as Wm) (h:Wm.length=as.length) (hl:∀(j:Nat)(a:LA),as[j]?=some a→∃a',Wm[j]?=some a'∧FB cx a a'):Cz cx (.v g as) (.v g Wm)
 |Di (vs):Cz cx (.Di vs) (one .bad)
 |bx (as):Cz cx (.bx as) (one .bad)
theorem FB.trans{cx:Cx}{a b c:LA}(h1:FB cx a b)(h2:FB cx b c):FB cx a c:=by
 rcases h1 with rfl|⟨rfl,hd⟩
 ·exact h2
 ·rcases h2 with rfl|⟨rfl,_⟩<;>exact .inr ⟨rfl,hd⟩
theorem Cz.trans{cx:Cx}{a b c:AV}(h1:Cz cx a b)(h2:Cz cx b c):Cz cx a c:=by
 cases h1 with
 |same=>exact h2
 |v g as Wm h hl=>
  cases h2 with
  |same=>exact .v g as Wm h hl
  |v _ _ as2 h' Ue=>
   refine .v g as as2 (h'.trans h) fun j a hj=>?_;obtain⟨a',h3,h4⟩:=hl j a hj;obtain⟨a2,h5,h6⟩:=Ue j a' h3;exact⟨a2,h5,h4.trans h6⟩
 |Di vs=>
  cases h2 with
  |same=>exact .Di vs
  |v _ _ as2 h' Ue=>
   obtain⟨a2,h5,h6⟩:=Ue 0 .bad rfl
   have:as2=[.bad]:=by
    match as2,h' with
    | [x],_=>
     simp at h5;subst h5;rcases h6 with rfl|⟨rfl,_⟩<;>rfl
   subst this;exact .Di vs
 |bx as=>
  cases h2 with
  |same=>exact .bx as
  |v _ _ as2 h' Ue=>
   obtain⟨a2,h5,h6⟩:=Ue 0 .bad rfl
   have:as2=[.bad]:=by
    match as2,h' with
    | [x],_=>
     simp at h5;subst h5;rcases h6 with rfl|⟨rfl,_⟩<;>rfl
   subst this;exact .bx as
structure Au(cx:Cx)(s s':St):Prop where
 AO:∀t,cx.E9 t=true→Cz cx (s.slot t) (s'.slot t)
 roots:∀r,cx.lock r=true→s'.root r=s.root r
 box:∀r,cx.E9 r=true→(s'.root r).box=(s.root r).box∧(s'.root r).AA=(s.root r).AA∧(s'.root r).ls.length=(s.root r).ls.length
 l1:s'.sl.length=s.sl.length
 l2:s'.ro.length=s.ro.length
 Bm:s.Bm≤s'.Bm
theorem Au.refl(cx:Cx)(s:St):Au cx s s:=⟨fun t _=>.same _,fun _ _=>rfl,fun _ _=>⟨rfl,rfl,rfl⟩,rfl,rfl,gk _⟩
theorem Au.trans{cx:Cx}{s s1 s2:St}(h1:Au cx s s1)(h2:Au cx s1 s2):Au cx s s2 where
 AO t ht:=(h1.AO t ht).trans (h2.AO t ht)
 roots r hr:=(h2.roots r hr).trans (h1.roots r hr)
 box r hr:=let ⟨a,b,c⟩:=h1.box r hr;let ⟨a',b',c'⟩:=h2.box r hr;⟨a'.trans a,b'.trans b,c'.trans c⟩
 l1:=h2.l1.trans h1.l1
 l2:=h2.l2.trans h1.l2
 Bm:=hZ h1.Bm h2.Bm
def Bb(s:St):Prop:=∀r,∀a∈(s.root r).ls,a.Ca=true
structure Inv(N:Nat)(s:St):Prop where
 AG:BR s (· < s.Bm)
 two:2≤s.Bm
 len:s.sl.length=N
 BW:s.ro.length=N
 Li:Bb s
theorem KT{cx:Cx}{s:St}{dst:Option Nat}{w:Wr}(hd:∀d,dst=some d→cx.E9 d=false)(hw:w.ok cx dst=true):Au cx s (s.AF w) where
 AO t ht:=by
  cases w with
  |slot u a=>
   rw[BN,gT]
   ·exact .same _
   ·rintro ⟨rfl,_⟩
    simp only[Wr.ok]at hw;cases hq:dst with
    |none=>rw[hq]at hw;cases hw
    |some d=>
     rw[hq]at hw;have:u=d:=by simpa using hw
     subst this;rw[hd u hq]at ht;cases ht
  |root r x=>exact .same _
  |leaf r j a=>exact .same _
  |half r j v=>exact .same _
 roots r hr:=by
  cases w with
  |slot u a=>rfl
  |root q x=>
   simp only[Wr.ok,gL,gW]at hw;rw[Ax,gT]
   rintro ⟨rfl,_⟩
   rw[hr]at hw;exact absurd hw.1.1 (by simp)
  |leaf q j a=>
   simp only[Wr.ok,gL,gW]at hw;have Tf:q≠r:=fun e=>by subst e;rw[hr]at hw;exact absurd hw.1 (by simp)
   refine Ba ?_;simp only[Wr.mask,AJ,Gs,ES,gr,gv];omega
  |half q j v=>
   simp only[Wr.ok,gW]at hw;have Tf:q≠r:=fun e=>by subst e;rw[hr]at hw;cases hw
   refine Ba ?_;simp only[Wr.mask,ES,gv];omega
 box r hr:=by
  cases w with
  |slot u a=>exact⟨rfl,rfl,rfl⟩
  |root q x=>
   simp only[Wr.ok,gL]at hw;rw[Ax,gT]
   ·exact⟨rfl,rfl,rfl⟩
   ·rintro ⟨rfl,_⟩
    cases hq:dst with
    |none=>rw[hq]at hw;exact absurd hw.2 (by simp)
    |some d=>
     rw[hq]at hw;have:q=d:=by simpa using hw.2
     subst this;rw[hd q hq]at hr;cases hr
  |leaf q j a=>exact(BF s q j a).box r
  |half q j v=>exact(BF s q j _).box r
 l1:=(B0 s w).1
 l2:=(B0 s w).2
 Bm:=by cases w<;>exact gk _
theorem Ic{cx:Cx}{dst:Option Nat}(hd:∀d,dst=some d→cx.E9 d=false):∀ {ws:List Wr} {s:St},(∀w∈ws,w.ok cx dst=true)→Au cx s (s.app ws)
 | [],s,h=>Au.refl cx s
 |w::ws,s,h=>(KT hd (h w (by simp))).trans (Ic (ws:=ws) (s:=s.AF w) hd fun x hx=>h x (gO _ hx))
theorem Mk{cx:Cx}{s:St}{dst:Option Nat}{w:Wr}(h:Bb s)(hw:w.ok cx dst=true):Bb (s.AF w):=by
 intro r a ha;cases w with
 |slot u b=>exact h r a ha
 |root q x=>
  simp only[Wr.ok,gL]at hw;rw[Ax]at ha;split at ha
  ·exact gY.1 hw.1.2 a ha
  ·exact h r a ha
 |leaf q j b=>
  simp only[Wr.ok,gL]at hw;have T4:(s.AF (.leaf q j b)).root r=if q=r∧q<s.ro.length then { s.root q with ls:=CV (s.root q).ls j b }else s.root r:=Ay _ _ _ _ _
  rw[T4]at ha;split at ha
  ·have ha:a∈CV (s.root q).ls j b:=ha;rw[Bf]at ha;rcases iP ha with ha|ha
   ·exact h q a ha
   ·rw[ha];exact hw.2
  ·exact h r a ha
 |half q j v=>
  have T4:(s.AF (.half q j v)).root r=if q=r∧q<s.ro.length then { s.root q with ls:=CV (s.root q).ls j ((s.leaf q j).Ce v) }else s.root r:=Ay _ _ _ _ _
  rw[T4]at ha;split at ha
  ·have ha:a∈CV (s.root q).ls j ((s.leaf q j).Ce v):=ha;by_cases hj:j<(s.root q).ls.length
   ·rw[Bf]at ha;rcases iP ha with ha|ha
    ·exact h q a ha
    ·have hb:(s.leaf q j).Ca=true:=h q _ (G3 hj);rw[ha];cases hl:s.leaf q j with
     |arr AA gen t e xs d=>cases d<;>rfl
     |_=>rw[hl]at hb;exact hb
   ·rw[Bf,List.set_eq_of_length_le (by omega)]at ha;exact h q a ha
  ·exact h r a ha
theorem Ky{cx:Cx}{dst:Option Nat}:∀ {ws:List Wr} {s:St},Bb s→(∀w∈ws,w.ok cx dst=true)→Bb (s.app ws)
 | [],s,h,hw=>h
 |w::ws,s,h,hw=>Ky (ws:=ws) (s:=s.AF w) (Mk h (hw w (by simp))) fun x hx=>hw x (gO _ hx)
theorem NF{cx:Cx}{g:Rg}{bs:List Nat}{i:Nat}{o:Oper}{s:St}{ws:List Wr}(h:LB cx g bs i o s ws):∀w∈ws,w.ok cx o.dst=true:=by
 intro w hw;rcases h with⟨_,_,h⟩|⟨_,rfl⟩
 ·have:=gY.1 h w hw;rw[gL]at this;exact this.1
 ·cases hd:o.dst with
  |none=>rw[hd]at hw;cases hw
  |some d=>
   rw[hd]at hw;have:w=.slot d (one .undef):=by simpa[Cq]using hw
   subst this;simp[Wr.ok]
theorem Gg{cx:Cx}{g:Rg}{bs:List Nat}:∀(r:List Oper)(i:Nat) (lg:List (Nat×Nat)) (s:St) (tr:List (Nat×List Wr)),Trace cx g bs i r lg s tr→(∀o∈r,∀d,o.dst=some d→cx.E9 d=false)→Bb s→
  Au cx s (AK (fun _=>true) i tr s)∧Bb (AK (fun _=>true) i tr s)
 | [],i,lg,s,[],ht,hd,hr=>⟨Au.refl cx s,hr⟩
 | [],i,lg,s,_::_,ht,hd,hr=>ht.elim
 |_::_,i,lg,s,[],ht,hd,hr=>ht.elim
 |o::r,i,lg,s,(rm,ws)::tr,ht,hd,hr=>by obtain⟨_,_,Ul,ht⟩:=ht;have UD:=NF Ul;obtain⟨h1,h2⟩:=Gg r (i+1) _ (s.app ws) tr ht (fun o ho=>hd o (gO _ ho)) (Ky hr UD);exact⟨(Ic (hd o (by simp)) UD).trans h1,h2⟩
end Go.Ev
namespace Go.Ev
section
variable {E:Cr}{s:St}{W:Wd}{tm:Array Value}{β:Type}{t:β}
theorem OG{a:AV}{v:Value}(h:BQ s W a v):AP s W a.one? v:=by
 cases a with
 |Di vs=>trivial
 |bx as=>trivial
 |v g as=>
  cases g with
  |true=>trivial
  |false=>cases as with
   |nil=>trivial
   |cons b bs=>cases bs with
    |nil=>exact h
    |cons=>trivial
theorem Gd(h:AU E s tm W){r j AA gen:Nat}{t0:TypeId}{e:Ls}{xs:List e.D}(hl:s.leaf r j=.arr AA gen t0 e xs 0):W.om (.lf r j)=[]:=by obtain⟨u,_,hr⟩:=(h.roots r).row hl;exact AD.zero hr
theorem KE(h:AU E s tm W){l:L}{la:LA}{v:Value}(hv:AP s W la v)(hs:s.still l la=true){k:l.D→Step β}(hl:(s.datum l la k).leads t):∃x,(k x).leads t∧l.rd 0 W.w W.fz v x []:=by
 cases l with
 |int kk=>obtain⟨x,hl,hr⟩:=Bg h hv hl;exact⟨x,hl,(L.AZ _ rfl hr).1⟩
 |bool=>obtain⟨x,hl,hr⟩:=Bg h hv hl;exact⟨x,hl,(L.AZ _ rfl hr).1⟩
 |str=>obtain⟨x,hl,hr⟩:=Bg h hv hl;exact⟨x,hl,(L.AZ _ rfl hr).1⟩
 |sl t0 e=>
  unfold St.datum at hl;cases la with
  |sc m x=>
   simp only at hl;split at hl
   ·rename_i y hy;obtain⟨q1,q2⟩:=L.AH hy;subst q1;have q2:x=y:=q2;subst q2;exact⟨x,hl,hv⟩
   ·exact hl.elim
  |CL=>exact⟨_,hl,by rw[show v=.slice none 0 0 from hv];exact Bj⟩
  |ref c=>
   simp only[St.still]at hs;split at hs
   ·rename_i AA gen t1 e1 xs hq;obtain⟨t',e',ys,d',o',hl,hr,ho⟩:=DK h hv hl;split at hl
    ·rename_i y hy;obtain⟨q1,q2⟩:=L.AH hy;cases q1;have q2:ys=y:=q2;subst q2;exact⟨ys,hl,hr.freeze fun b hb=>hb.elim id fun hb=>by have:=ho b hb;rw[Gd h hq]at this;cases this⟩
    ·exact hl.elim
   ·cases hs
  |win c lo hi=>
   simp only[St.still]at hs;split at hs
   ·rename_i AA gen t1 e1 xs hq;obtain⟨t',e',ys,d',o',hl,hr,ho⟩:=EL h hv hl;split at hl
    ·rename_i y hy;obtain⟨q1,q2⟩:=L.AH hy;cases q1;have q2:sub ys lo hi=y:=q2;subst q2;exact⟨_,hl,hr.freeze fun b hb=>hb.elim id fun hb=>by have:=ho b hb;rw[Gd h hq]at this;cases this⟩
    ·exact hl.elim
   ·cases hs
  |_=>exact hl.elim
def Told(s:St)(W:Wd)(tm:Array Value)(fz:Nat→Prop)(p:VP)(vs:List Lv):Prop:=match p with
 | .slot t l=>t<s.sl.length∧∃x,vs=[⟨l,x⟩]∧l.rd 0 W.w W.fz (tm.getD t Go.undef) x []
 | .own t ty e d k=>t<s.sl.length∧∃xs:List e.D,vs=[⟨.sl ty e,xs⟩]∧(s.root t).box=false∧W.cv t 0=some (tm.getD t Go.undef)∧AD e d W.w W.fz (tm.getD t Go.undef) xs (W.om (.lf t 0))∧(k=true→∃gen t' e' UJ d',s.leaf t 0=.arr 1 gen t' e' UJ d')
 | .box r ls=>(s.root r).box=true∧ls.length=(s.root r).ls.length∧vs.length=(ls.filterMap id).length∧∀(v j:Nat)(y:Value),W.cv r j=some y→match nth .bad (AQ v ls vs) j with
  | .arr AA gen t e xs d=>(AA=v∨AA=1∧∃Uo t' e' UJ d',s.leaf r j=.arr 1 Uo t' e' UJ d')∧gen=v∧AD e d W.w W.fz y xs (W.om (.lf r j))
  | .sc l x=>l.rd 0 W.w fz y x []
  | .bad=>True
  |_=>False
theorem Ht(h:AU E s tm W){fz:Nat→Prop}(r:Nat)(Uu:∀b,W.fz b→fz b):∀(ls:List (Option (L×Nat))) (as:List LA) (j:Nat) {k:List Lv→Step β},(∀i b,as[i]?=some b→s.leaf r (j+i)=b)→(∀a∈as,a.Ca=true)→
  (∀(i:Nat)(l:L),ls[i]?=some (some (l,0))→∀b∈W.om (.lf r (j+i)),fz b)→(Dn s ls as k).leads t→
  ∃vs,(k vs).leads t∧ls.length=as.length∧vs.length=(ls.filterMap id).length∧∀(v i:Nat)(y:Value),W.cv r (j+i)=some y→match nth .bad (AQ v ls vs) i with
   | .arr AA gen t e xs d=>(AA=v∨AA=1∧∃Uo t' e' UJ d',s.leaf r (j+i)=.arr 1 Uo t' e' UJ d')∧gen=v∧AD e d W.w W.fz y xs (W.om (.lf r (j+i)))
   | .sc l x=>l.rd 0 W.w fz y x []
   | .bad=>True
   |_=>False
 | [],[],j,k,hg,TW,hz,hl=>⟨[],hl,rfl,rfl,fun v i y hy=>by simp[AQ,nth]⟩
 | [],_::_,j,k,hg,TW,hz,hl=>hl.elim
 |none::ls,[],j,k,hg,TW,hz,hl=>hl.elim
 |some _::ls,[],j,k,hg,TW,hz,hl=>hl.elim
 |none::ls,a::as,j,k,hg,TW,hz,hl=>by
  simp only[Dn]at hl
  obtain⟨vs,hl,h1,h2,h3⟩:=Ht h r Uu ls as (j+1) (fun i b hi=>by have:=hg (i+1) b (by simpa using hi);grind) (fun a ha=>TW a (gO _ ha))
   (fun i l hi b hb=>hz (i+1) l (by grind) b (by grind)) hl
  refine⟨vs,hl,by simp[h1],by grind,fun v i y hy=>?_⟩;cases i with
  |zero=>simp[AQ,nth]
  |succ i=>
   have:=h3 v i y (by grind);rw[show j+1+i=j+(i+1) by omega]at this;exact this
 |some (l,d)::ls,a::as,j,k,hg,TW,hz,hl=>by
  have TV:s.leaf r j=a:=hg 0 a rfl;obtain⟨U2,_⟩:=h.roots r;have U2:Aa s W (s.leaf r j) (W.cv r j) (W.om (.lf r j)):=U2 j;rw[TV]at U2
  have fin:∀(x:l.D),(Dn s ls as fun vs=>k (⟨l,x⟩::vs)).leads t→(∀(v:Nat)(y:Value),W.cv r j=some y→match CA v d (d==3) ⟨l,x⟩with
     | .arr AA gen t e xs d=>(AA=v∨AA=1∧∃Uo t' e' UJ d',s.leaf r j=.arr 1 Uo t' e' UJ d')∧gen=v∧AD e d W.w W.fz y xs (W.om (.lf r j))
     | .sc l x=>l.rd 0 W.w fz y x []
     | .bad=>True
     |_=>False)→
    ∃vs,(k vs).leads t∧(some (l,d)::ls).length=(a::as).length∧vs.length=((some (l,d)::ls).filterMap id).length∧∀(v i:Nat)(y:Value),W.cv r (j+i)=some y→match nth .bad (AQ v (some (l,d)::ls) vs) i with
     | .arr AA gen t e xs d=>(AA=v∨AA=1∧∃Uo t' e' UJ d',s.leaf r (j+i)=.arr 1 Uo t' e' UJ d')∧gen=v∧AD e d W.w W.fz y xs (W.om (.lf r (j+i)))
     | .sc l x=>l.rd 0 W.w fz y x []
     | .bad=>True
     |_=>False:=by
   intro x hl hx
   obtain⟨vs,hl,h1,h2,h3⟩:=Ht h r Uu ls as (j+1) (fun i b hi=>by have:=hg (i+1) b (by simpa using hi);grind) (fun a ha=>TW a (gO _ ha))
    (fun i l hi b hb=>hz (i+1) l (by grind) b (by grind)) hl
   refine⟨⟨l,x⟩::vs,hl,by simp[h1],by simp[h2],fun v i y hy=>?_⟩;cases i with
   |zero=>exact hx v y (by omega)
   |succ i=>
    have:=h3 v i y (by grind);rw[show j+1+i=j+(i+1) by omega]at this;exact this
  have VY:∀(x:l.D),Bp l=false→(∀y,W.cv r j=some y→l.rd 0 W.w W.fz y x [])→∀(v:Nat)(y:Value),W.cv r j=some y→match CA v d (d==3) ⟨l,x⟩with
     | .arr AA gen t e xs d=>(AA=v∨AA=1∧∃Uo t' e' UJ d',s.leaf r j=.arr 1 Uo t' e' UJ d')∧gen=v∧AD e d W.w W.fz y xs (W.om (.lf r j))
     | .sc l x=>l.rd 0 W.w fz y x []
     | .bad=>True
     |_=>False:=by
   intro x XP hx v y hy;have:=(L.AZ l XP (hx y hy) (d':=0) (w':=W.w) (TZ:=fz)).1;cases l with
   |sl t e=>simp[Bp]at XP
   |_=>exact this
  cases a with
  |arr AA gen t0 e0 xs d0=>
   simp only[Dn]at hl;split at hl
   ·rename_i hd;simp only[gL,gl,gV,gW,beq_eq_false_iff_ne]at hd;obtain⟨hd,h3⟩:=hd;split at hl
    ·rename_i y hy;obtain⟨q1,q2⟩:=L.AH hy;subst q1;have q2:xs=y:=q2;subst q2;refine fin xs hl fun v y hy=>?_;obtain⟨u,hu,hr⟩:=U2;rw[hy]at hu;injection hu with hu;subst hu
     cases d with
     |zero=>
      show(L.sl t0 e0).rd 0 W.w fz y xs [];exact hr.freeze fun b hb=>hb.elim (Uu b) fun hb=>hz 0 (.sl t0 e0) rfl b (by omega)
     |succ d=>
      have:d0=d+1:=by omega
      subst this;by_cases h2:d=2
      ·subst h2;have XW:AA=1:=h3.resolve_left fun q=>q rfl;subst XW;exact⟨.inr ⟨rfl,gen,t0,e0,xs,3,TV⟩,rfl,hr⟩
      ·have h4:(d+1==3)=false:=by simp;omega
       rw[h4];exact⟨.inl rfl,rfl,hr⟩
    ·exact hl.elim
   ·exact hl.elim
  |sc m x=>
   have Th:∀y,W.cv r j=some y→m.rd 0 W.w W.fz y x []:=U2.2;cases d with
   |zero=>
    have hl:(s.datum l (.sc m x) fun y=>Dn s ls as fun vs=>k (⟨l,y⟩::vs)).leads t:=hl;simp only[St.datum]at hl;split at hl
    ·rename_i y hy;obtain⟨q1,q2⟩:=L.AH hy;subst q1;have q2:x=y:=q2;subst q2;refine fin x hl fun v y hy=>?_;have hr:=L.AI m (Th y hy) (fun _ _=>rfl) Uu;cases m<;>exact hr
    ·exact hl.elim
   |succ d=>
    cases Uv:l with
    |sl t1 e1=>subst Uv;exact hl.elim
    |int kk=>
     subst Uv;have hl:(s.datum (.int kk) (.sc m x) fun y=>Dn s ls as fun vs=>k (⟨.int kk,y⟩::vs)).leads t:=hl;simp only[St.datum]at hl;split at hl
     ·rename_i y hy;obtain⟨q1,q2⟩:=L.AH hy;subst q1;have q2:x=y:=q2;subst q2;exact fin x hl (VY x rfl Th)
     ·exact hl.elim
    |bool=>
     subst Uv;have hl:(s.datum .bool (.sc m x) fun y=>Dn s ls as fun vs=>k (⟨.bool,y⟩::vs)).leads t:=hl;simp only[St.datum]at hl;split at hl
     ·rename_i y hy;obtain⟨q1,q2⟩:=L.AH hy;subst q1;have q2:x=y:=q2;subst q2;exact fin x hl (VY x rfl Th)
     ·exact hl.elim
    |str=>
     subst Uv;have hl:(s.datum .str (.sc m x) fun y=>Dn s ls as fun vs=>k (⟨.str,y⟩::vs)).leads t:=hl;simp only[St.datum]at hl;split at hl
     ·rename_i y hy;obtain⟨q1,q2⟩:=L.AH hy;subst q1;have q2:x=y:=q2;subst q2;exact fin x hl (VY x rfl Th)
     ·exact hl.elim
  |CL=>
   cases d with
   |zero=>
    cases l with
    |sl t1 e1=>
     refine fin ([]:List e1.D) hl fun v y hy=>?_;show(L.sl t1 e1).rd 0 W.w fz y ([]:List e1.D) [];rw[show y=.slice none 0 0 from U2.2 y hy];exact Bj
    |_=>exact hl.elim
   |succ d=>cases l<;>exact hl.elim
  |ref c=>have:=TW (.ref c) (by simp);cases this
  |win c lo hi=>have:=TW (.win c lo hi) (by simp);cases this
  |_=>cases d with
   |zero=>exact hl.elim
   |succ d=>cases l<;>exact hl.elim
def Ou(ps:List VP)(r j:Nat):Prop:=∃ls l,VP.box r ls∈ps∧ls[j]?=some (some (l,0))
theorem Mi(h:AU E s tm W)(TW:Bb s){fz:Nat→Prop}(Uu:∀b,W.fz b→fz b){p:VP}(hz:∀r j,Ou [p] r j→∀b∈W.om (.lf r j),fz b){k:List Lv→Step β}(hl:(J8 s p k).leads t):
  ∃vs,(k vs).leads t∧Told s W tm fz p vs:=by
 cases p with
 |slot u l=>
  simp only[J8]at hl;split at hl
  ·rename_i hs
   have Tc:u<s.sl.length:=by
    rcases hQ u s.sl.length with Tc|US
    ·exact Tc
    ·have:s.slot u=.v false [.bad]:=A3 _ US;rw[this]at hl;exact hl.elim
   obtain⟨x,hl,hr⟩:=KE h (OG (h.AO u)) hs hl;exact⟨_,hl,Tc,x,rfl,hr⟩
  ·exact hl.elim
 |own u ty e d k0=>
  simp only[J8]at hl;split at hl
  ·rename_i c vv AA gen t' e' xs d' VE Uy;split at hl
   ·rename_i hc;simp only[gL,gV]at hc;obtain⟨⟨⟨⟨⟨dA,ax⟩,hp⟩,Te⟩,hd⟩,XU⟩:=hc;have hp:c.p=[]:=by cases hq:c.p<;>simp_all[isNil]
    subst hd;split at hl
    ·rename_i y hy;obtain⟨q1,q2⟩:=L.AH hy;cases q1;have q2:xs=y:=q2;subst q2
     have TV:s.leaf c.r c.j=.arr c.AA gen ty e xs d:=by unfold St.leaf;rw[dA,ax,Uy,Te];rfl
     have U0:AP s W (.ref c) (tm.getD u Go.undef):=by have:=h.AO u;rw[VE]at this;exact this
     obtain⟨h',e2,T3,hn⟩:=U0 gen _ _ _ _ TV (.inl hp);rw[hp]at hn;obtain⟨rfl,rfl⟩:=hn;obtain⟨u',Tj,Th⟩:=(h.roots c.r).row TV;rw[T3]at Tj;injection Tj with Tj;rw[←Tj]at Th
     rw[dA,ax]at Th T3
     have Tc:u<s.sl.length:=by
      rcases hQ u s.sl.length with Tc|US
      ·exact Tc
      ·have:s.slot u=.v false [.bad]:=A3 _ US;rw[this]at VE;cases VE
     refine⟨_,hl,Tc,xs,rfl,by rw[Uy],T3,Th,fun hk=>?_⟩;grind
    ·exact hl.elim
   ·exact hl.elim
  ·exact hl.elim
 |box r ls=>
  simp only[J8]at hl;split at hl
  ·rename_i hb
   obtain⟨vs,hl,h1,h2,h3⟩:=Ht h (fz:=fz) r Uu ls (s.root r).ls 0 (fun i b hi=>by unfold St.leaf;rw[gb,Af,hi];rfl) (TW r)
    (fun i l hi b hb=>hz r i ⟨ls,l,by simp,hi⟩ b (by grind)) hl
   exact⟨vs,hl,hb,h1,h2,fun v j y hy=>by grind⟩
  ·exact hl.elim
theorem J9(h:AU E s tm W)(TW:Bb s){fz:Nat→Prop}(Uu:∀b,W.fz b→fz b):∀ {ps:List VP} {k:List Lv→Step β},(∀r j,Ou ps r j→∀b∈W.om (.lf r j),fz b)→(Kv s ps k).leads t→
  ∃TX:List (List Lv),(k TX.flatten).leads t∧TX.length=ps.length∧∀(i:Nat)(p:VP)(vs:List Lv),ps[i]?=some p→TX[i]?=some vs→Told s W tm fz p vs
 | [],k,hz,hl=>⟨[],hl,rfl,fun i p vs hp=>by simp at hp⟩
 |p::ps,k,hz,hl=>by simp only[Kv]at hl;obtain⟨vs,hl,hv⟩:=Mi h TW Uu (fun r j ⟨ls,l,hm,hj⟩=>hz r j ⟨ls,l,by simp at hm;simp[hm],hj⟩) hl;obtain⟨TX,hl,h1,h2⟩:=J9 h TW Uu (fun r j ⟨ls,l,hm,hj⟩=>hz r j ⟨ls,l,gO _ hm,hj⟩) hl;refine⟨vs::TX,by simpa using hl,by simp[h1],fun i q us hq hu=>?_⟩;grind
end
end Go.Ev
namespace Go.Ev
def VP.PN:VP→Nat
 | .slot _ _=>1
 | .own _ _ _ _ _=>1
 | .box _ ls=>(ls.filterMap id).length
theorem C3(v:Nat):∀(ls:List (Option (L×Nat))) (vs ws:List Lv),vs.length=(ls.filterMap id).length→AQ v ls (vs++ws)=AQ v ls vs
 | [],vs,ws,h=>by simp[AQ]
 |none::ls,vs,ws,h=>by simp only[AQ];rw[C3 v ls vs ws (by simpa using h)]
 |some (l,d)::ls,[],ws,h=>by simp at h
 |some (l,d)::ls,x::vs,ws,h=>by simp only[AQ,iK];rw[C3 v ls vs ws (by simpa using h)]
theorem BG(v:Nat):∀(ls:List (Option (L×Nat))) (vs:List Lv),(AQ v ls vs).length=ls.length
 | [],vs=>rfl
 |none::ls,vs=>by simp[AQ,BG v ls vs]
 |some (l,d)::ls,[]=>by simp[AQ,BG v ls []]
 |some (l,d)::ls,x::vs=>by simp[AQ,BG v ls vs]
theorem N4(v:Nat)(s0:St):∀(ps:List VP)(vs:List Lv)(σ:St),(σ.app (Bw v s0 ps vs)).sl.length=σ.sl.length∧(σ.app (Bw v s0 ps vs)).ro.length=σ.ro.length:=fun ps vs σ=>B8 _ σ
def At(v:Nat)(s0 σ:St)(p:VP)(vs:List Lv):Prop:=match p with
 | .slot t _=>∀x,vs=[x]→σ.slot t=one (.sc x.l x.x)
 | .own t _ _ d k=>∀x,vs=[x]→σ.slot t=one (.ref ⟨t,0,FQ v k,v,[]⟩)∧σ.root t=⟨false,v,[CA v d k x]⟩
 | .box r ls=>σ.root r=⟨true,(s0.root r).AA,AQ v ls vs⟩
theorem IM{x:Nat}{xs:List Nat}(h:distinct (x::xs)=true):x∉xs∧distinct xs=true:=by simp only[distinct,gL,gW]at h;refine⟨fun hm=>?_,h.2⟩;have:=(A8 xs x).2 hm;rw[h.1]at this;cases this
theorem Cn:∀ {xs ys:List Nat},distinct (xs++ys)=true→(∀x∈xs,x∉ys)∧distinct ys=true
 | [],ys,h=>⟨(fun x hx=>by cases hx),h⟩
 |x::xs,ys,h=>by
  obtain⟨h1,h2⟩:=IM (xs:=xs++ys) h;obtain⟨h3,h4⟩:=Cn h2;refine⟨fun y hy=>?_,h4⟩;rcases gj.1 hy with rfl|hy
  ·exact fun hm=>h1 (gU _ hm)
  ·exact h3 y hy
theorem Ga(v:Nat)(s0:St):∀(ps:List VP) (TX:List (List Lv)) (σ:St),TX.length=ps.length→(∀(i:Nat)(p:VP)(vs:List Lv),ps[i]?=some p→TX[i]?=some vs→vs.length=p.PN)→
  distinct (ps.flatMap VP.AO)=true→distinct (ps.flatMap VP.roots)=true→(∀t∈ps.flatMap VP.AO,t<σ.sl.length)→(∀r∈ps.flatMap VP.roots,r<σ.ro.length)→
  (∀t,t∉ps.flatMap VP.AO→(σ.app (Bw v s0 ps TX.flatten)).slot t=σ.slot t)∧(∀r,r∉ps.flatMap VP.roots→(σ.app (Bw v s0 ps TX.flatten)).root r=σ.root r)∧
  ∀(i:Nat)(p:VP)(vs:List Lv),ps[i]?=some p→TX[i]?=some vs→At v s0 (σ.app (Bw v s0 ps TX.flatten)) p vs
 | [],[],σ,hl,hc,d1,d2,b1,b2=>⟨fun _ _=>rfl,fun _ _=>rfl,fun i p vs hp=>by simp at hp⟩
 | [],_::_,σ,hl,hc,d1,d2,b1,b2=>by simp at hl
 |_::_,[],σ,hl,hc,d1,d2,b1,b2=>by simp at hl
 |p::ps,vs::TX,σ,hl,hc,d1,d2,b1,b2=>by
  rw[gx]at d1 d2;obtain⟨n1,dU⟩:=Cn d1;obtain⟨n2,dV⟩:=Cn d2;have XK:=hc 0 p vs rfl rfl;have U9:∀t∈p.AO,t<σ.sl.length:=fun t ht=>b1 t (by rw[gx];exact gX _ ht);have VD:∀t∈p.roots,t<σ.ro.length:=fun t ht=>b2 t (by rw[gx];exact gX _ ht)
  have main:∀(ws:List Wr),Bw v s0 (p::ps) (vs::TX).flatten=ws++Bw v s0 ps TX.flatten→(∀t,t∉p.AO→(σ.app ws).slot t=σ.slot t)→(∀r,r∉p.roots→(σ.app ws).root r=σ.root r)→At v s0 (σ.app ws) p vs→
    (∀t,t∉(p::ps).flatMap VP.AO→(σ.app (Bw v s0 (p::ps) (vs::TX).flatten)).slot t=σ.slot t)∧(∀r,r∉(p::ps).flatMap VP.roots→(σ.app (Bw v s0 (p::ps) (vs::TX).flatten)).root r=σ.root r)∧
    ∀(i:Nat)(q:VP)(us:List Lv),(p::ps)[i]?=some q→(vs::TX)[i]?=some us→At v s0 (σ.app (Bw v s0 (p::ps) (vs::TX).flatten)) q us:=by
   intro ws he hs hr ha
   obtain⟨i1,i2,i3⟩:=Ga v s0 ps TX (σ.app ws) (by simpa using hl) (fun i q us h1 h2=>hc (i+1) q us (by simpa using h1) (by simpa using h2)) dU dV
    (fun t ht=>by rw[(B8 ws σ).1];exact b1 t (by rw[gx];exact gU _ ht)) (fun t ht=>by rw[(B8 ws σ).2];exact b2 t (by rw[gx];exact gU _ ht))
   rw[he,BC];refine⟨fun t ht=>?_,fun r UI=>?_,fun i q us h1 h2=>?_⟩
   ·rw[gx]at ht;rw[i1 t (fun hm=>ht (gU _ hm)),hs t (fun hm=>ht (gX _ hm))]
   ·rw[gx]at UI;rw[i2 r (fun hm=>UI (gU _ hm)),hr r (fun hm=>UI (gX _ hm))]
   ·cases i with
    |zero=>
     simp at h1 h2;subst h1;subst h2;cases p with
     |slot t l=>intro x hx;rw[i1 t (n1 t (by simp[VP.AO]))];exact ha x hx
     |own t ty e d k=>
      intro x hx;rw[i1 t (n1 t (by simp[VP.AO])),i2 t (n2 t (by simp[VP.roots]))];exact ha x hx
     |box r ls=>
      show(_:St).root r=_;rw[i2 r (n2 r (by simp[VP.roots]))];exact ha
    |succ i=>exact i3 i q us (by simpa using h1) (by simpa using h2)
  cases p with
  |slot t l=>
   obtain⟨x,rfl⟩:∃x,vs=[x]:=by
    match vs,XK with
    | [x],_=>exact⟨x,rfl⟩
   refine main [.slot t (one (.sc x.l x.x))] rfl (fun u hu=>?_) (fun r hr=>rfl) ?_
   ·show(σ.AF _).slot u=_;rw[BN,gT (fun hh=>hu (by simp[VP.AO,hh.1]))]
   ·intro y hy;simp at hy;subst hy;show(σ.AF _).slot t=_;rw[BN,gS ⟨rfl,U9 t (by simp[VP.AO])⟩]
  |own t ty e d k=>
   obtain⟨x,rfl⟩:∃x,vs=[x]:=by
    match vs,XK with
    | [x],_=>exact⟨x,rfl⟩
   refine main [.root t ⟨false,v,[CA v d k x]⟩,.slot t (one (.ref ⟨t,0,FQ v k,v,[]⟩))] rfl (fun u hu=>?_) (fun r hr=>?_) ?_
   ·show((σ.AF _).AF _).slot u=_;rw[BN,gT (fun hh=>hu (by simp[VP.AO,hh.1]))];rfl
   ·show(σ.AF _).root r=_;rw[Ax,gT (fun hh=>hr (by simp[VP.roots,hh.1]))]
   ·intro y hy;simp at hy;subst hy;refine⟨?_,?_⟩
    ·show((σ.AF _).AF _).slot t=_;rw[BN,gS ⟨rfl,by rw[(B0 _ _).1];exact U9 t (by simp[VP.AO])⟩]
    ·show(σ.AF _).root t=_;rw[Ax,gS ⟨rfl,VD t (by simp[VP.roots])⟩]
  |box r ls=>
   refine main [.root r ⟨true,(s0.root r).AA,AQ v ls vs⟩] ?_ (fun u hu=>rfl) (fun q hq=>?_) ?_
   ·have XK:vs.length=(ls.filterMap id).length:=XK;simp only[Bw,gn];rw[C3 v ls vs _ XK,←XK,iJ];rfl
   ·show(σ.AF _).root q=_;rw[Ax,gT (fun hh=>hq (by simp[VP.roots,hh.1]))]
   ·show(σ.AF _).root r=_;rw[Ax,gS ⟨rfl,VD r (by simp[VP.roots])⟩]
end Go.Ev
