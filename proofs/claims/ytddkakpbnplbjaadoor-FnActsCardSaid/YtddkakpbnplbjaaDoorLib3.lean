/- A plain evaluator for Go's loaded code,and that it is sound;part 3. Conditions: none. -/
import Derived.Test.YtddkakpbnplbjaaDoorLib2
import Derived.Orders
set_option linter.all false
namespace Go.Ev
abbrev Ia:=List PT
theorem Tg.Ir(a b:Tg):Tg.Dh a b=Tg.Dh b a:=by obtain⟨r,m⟩:=a;obtain⟨r',m'⟩:=b;unfold Tg.Dh;grind
theorem E0{T:Ia}(hn:(T.flatMap PT.EG).Pairwise NH){i i':Nat}{p p':PT}(h:T[i]?=some p)(h':T[i']?=some p')(Vv:i≠i'){x y:Tg}(hx:x∈p.EG)(hy:y∈p'.EG):Tg.Dh x y=false:=by
 have hp:=(List.pairwise_flatMap.1 hn).2;rw[lj]at hp;obtain⟨hi,rfl⟩:=j9.1 h;obtain⟨XJ,rfl⟩:=j9.1 h';rcases lY Vv with Vs|Vs
 ·have:=hp i i' hi XJ Vs x hx y hy;rw[Tg.Ir];exact this
 ·exact hp i' i XJ hi Vs y hy x hx
theorem IL{l:List (Option (Loc×List Nat))}{j:Nat}{c:Loc}{o:List Nat}(h:l[j]?=some (some (c,o))):(c.r,some c.j)∈(PT.row l).EG:=List.mem_filterMap.2 ⟨_,kC h,rfl⟩
theorem L0{T:Ia}(hn:(T.flatMap PT.EG).Pairwise NH){i j j':Nat}{l:List (Option (Loc×List Nat))}{c c':Loc}{o o':List Nat}(h:T[i]?=some (.row l))(hj:l[j]?=some (some (c,o)))(cF:l[j']?=some (some (c',o')))(Vv:j≠j'):¬(c.r=c'.r∧c.j=c'.j):=by
 have hp:=(List.pairwise_flatMap.1 hn).1 _ (kC h);have hp:l.Pairwise fun a b=>∀x,(a.map fun p=>((p.1.r,some p.1.j):Tg))=some x→∀y,(b.map fun p=>((p.1.r,some p.1.j):Tg))=some y→NH x y:=List.pairwise_filterMap.1 hp;rw[lj]at hp;obtain⟨hi,e1⟩:=j9.1 hj;obtain⟨XJ,e2⟩:=j9.1 cF
 rintro ⟨q1,q2⟩
 have hh:Tg.Dh (c.r,some c.j) (c'.r,some c'.j)=true:=by simp[Tg.Dh,q1,q2]
 rcases lY Vv with Vs|Vs
 ·have:=hp j j' hi XJ Vs (c.r,some c.j) (by rw[e1];rfl) (c'.r,some c'.j) (by rw[e2];rfl);rw[Tg.Ir,show Tg.Dh (c'.r,some c'.j) (c.r,some c.j)=false from this]at hh;cases hh
 ·have:=hp j' j XJ hi Vs (c'.r,some c'.j) (by rw[e2];rfl) (c.r,some c.j) (by rw[e1];rfl);rw[show Tg.Dh (c.r,some c.j) (c'.r,some c'.j)=false from this]at hh;cases hh
def AU(T:Ia):Key→Option Key
 | .AT i=>match T[i]? with
  |some (.box r)=>some (.AT r)
  |_=>none
 | .lf i j=>match T[i]? with
  |some (.box r)=>some (.lf r j)
  |some (.row l)=>match l[j]? with
   |some (some p)=>some (.lf p.1.r p.1.j)
   |_=>none
  |_=>none
 | .fl _=>none
theorem BO{T:Ia}{i:Nat}{a:Key}(h:AU T (.AT i)=some a):∃r,a=.AT r∧T[i]?=some (.box r):=by simp only[AU]at h;grind
theorem BK{T:Ia}{i j:Nat}{a:Key}(h:AU T (.lf i j)=some a):(∃r,a=.lf r j∧T[i]?=some (.box r))∨∃l c o,a=.lf c.r c.j∧T[i]?=some (.row l)∧l[j]?=some (some (c,o)):=by simp only[AU]at h;grind
theorem Ba{T:Ia}(hn:(T.flatMap PT.EG).Pairwise NH){k k' a:Key}(h:AU T k=some a)(h':AU T k'=some a):k=k':=by
 have hbb:∀ {i i' r:Nat},T[i]?=some (.box r)→T[i']?=some (.box r)→i=i':=by intro i i' r h h';refine kg fun Vv=>?_;have:=E0 hn h h' Vv (x:=(r,none)) (y:=(r,none)) (by simp[PT.EG]) (by simp[PT.EG]);simp[Tg.Dh]at this
 cases k with
 |fl k=>cases h
 |AT i=>
  obtain⟨r,rfl,hT⟩:=BO h;cases k' with
  |fl k=>cases h'
  |AT i'=>
   obtain⟨r',e,WY⟩:=BO h';grind
  |lf i' j'=>rcases BK h' with⟨r',e,_⟩|⟨l,c,o,e,_⟩<;>cases e
 |lf i j=>
  cases k' with
  |fl k=>cases h'
  |AT i'=>
   obtain⟨r',e,WY⟩:=BO h';subst e;rcases BK h with⟨r',e,_⟩|⟨l,c,o,e,_⟩<;>cases e
  |lf i' j'=>
   rcases BK h with⟨r,rfl,hT⟩|⟨l,c,o,rfl,hT,hl⟩
   ·rcases BK h' with⟨r',e,WY⟩|⟨l',c',o',e,WY,Ws⟩
    ·grind
    ·injection e with e1 e2
     by_cases hi:i=i'
     ·grind
     ·have:=E0 hn hT WY hi (x:=(r,none)) (y:=(c'.r,some c'.j)) (by simp[PT.EG]) (IL Ws);simp[Tg.Dh,e1]at this
   ·rcases BK h' with⟨r',e,WY⟩|⟨l',c',o',e,WY,Ws⟩
    ·injection e with e1 e2
     by_cases hi:i=i'
     ·grind
     ·have:=E0 hn hT WY hi (x:=(c.r,some c.j)) (y:=(r',none)) (IL hl) (by simp[PT.EG]);simp[Tg.Dh,e1]at this
    ·injection e with e1 e2
     by_cases hi:i=i'
     ·subst hi;rw[hT]at WY;injection WY with WY;injection WY with WY;subst WY
      by_cases hj:j=j'
      ·rw[hj]
      ·exact absurd ⟨e1,e2⟩ (L0 hn hT hl Ws hj)
     ·have:=E0 hn hT WY hi (x:=(c.r,some c.j)) (y:=(c'.r,some c'.j)) (IL hl) (IL Ws);simp[Tg.Dh,e1,e2]at this
theorem Bk(v:Nat):∀(ls:List (L×Nat)) (vs:List Lv),vs.length=ls.length→(AZ v ls vs).length=ls.length
 | [],_,_=>by simp[AZ]
 |_::_,[],h=>by simp at h
 |(_,m)::ls,x::xs,h=>by simp[AZ,Bk v ls xs (by simpa using h)]
theorem B6(v:Nat):∀(ls:List (L×Nat)) (vs:List Lv) (j:Nat) (p:L×Nat) (lv:Lv),ls[j]?=some p→vs[j]?=some lv→(AZ v ls vs)[j]?=some (BT v p.2 lv)
 | [],_,j,p,lv,h,_=>by simp at h
 |_::_,[],j,p,lv,_,h=>by simp at h
 |(l,m)::ls,x::xs,0,p,lv,h1,h2=>by simp at h1 h2;subst h1;subst h2;simp[AZ]
 |(l,m)::ls,x::xs,j+1,p,lv,h1,h2=>by simp[AZ];exact B6 v ls xs j p lv (by grind) (by grind)
theorem DI(v:Nat):∀(ls:List (L×Nat)) (vs ws:List Lv),vs.length=ls.length→AZ v ls (vs++ws)=AZ v ls vs
 | [],vs,ws,h=>by cases vs<;>simp[AZ]
 |_::_,[],_,h=>by simp at h
 |(l,m)::ls,x::xs,ws,h=>by simp[AZ,DI v ls xs ws (by simpa using h)]
theorem DE(s:St)(r v:Nat):∀(k:Nat) (ls:List (L×Nat)) (vs:List Lv),vs.length=ls.length→(AY s r v k ls vs).length=ls.length
 |_,[],_,_=>by simp[AY]
 |_,_::_,[],h=>by simp at h
 |k,(_,m)::ls,x::xs,h=>by simp[AY,DE s r v (k+1) ls xs (by simpa using h)]
theorem CO(s:St)(r v:Nat):∀(k:Nat) (ls:List (L×Nat)) (vs:List Lv) (j:Nat) (p:L×Nat) (lv:Lv),ls[j]?=some p→vs[j]?=some lv→(AY s r v k ls vs)[j]?=some (Cq (s.leaf r (k+j)) v p.2 lv)
 |_,[],_,j,p,lv,h,_=>by simp at h
 |_,_::_,[],j,p,lv,_,h=>by simp at h
 |k,(l,m)::ls,x::xs,0,p,lv,h1,h2=>by simp at h1 h2;subst h1;subst h2;simp[AY]
 |k,(l,m)::ls,x::xs,j+1,p,lv,h1,h2=>by simp only[AY,lH];rw[CO s r v (k+1) ls xs j p lv (by grind) (by grind),Nat.add_right_comm];rfl
theorem EE(s:St)(r v:Nat):∀(k:Nat) (ls:List (L×Nat)) (vs ws:List Lv),vs.length=ls.length→AY s r v k ls (vs++ws)=AY s r v k ls vs
 |_,[],vs,ws,h=>by cases vs<;>simp[AY]
 |_,_::_,[],_,h=>by simp at h
 |k,(l,m)::ls,x::xs,ws,h=>by simp[AY,EE s r v (k+1) ls xs ws (by simpa using h)]
theorem DD(a:LA)(v m:Nat)(x:Lv):Cq a v m x=BT v m x∨∃(AA gen:Nat) (t:TypeId) (e:Ls) (xs y:List e.D),m=3∧a=.arr AA gen t e xs 2∧x=⟨.sl t e,y⟩∧Cq a v m x=.arr AA v t e y 2:=by
 by_cases hm:m=3
 ·subst hm;cases a with
  |arr AA gen t e xs d=>
   by_cases hd:d=2
   ·subst hd;cases hq:L.cast (.sl t e) (a:=x.l) x.x with
    |none=>left;simp[Cq,hq]
    |some y=>
     right;refine⟨AA,gen,t,e,xs,y,rfl,rfl,?_,by simp[Cq,hq]⟩;obtain⟨l,x⟩:=x;obtain⟨q1,q2⟩:=L.AH hq;dsimp only at q1 q2;subst q1;have q2:x=y:=q2;rw[q2]
   ·left;have:(d==2)=false:=by simpa using hd
    simp[Cq,this]
  |_=>left;rfl
 ·left;have:(m==3)=false:=by simpa using hm
  simp[Cq,this]
section
variable {P:Program}{E:Cy}{s:St}{W:Wd}{v:Nat}{tm:Array Value}{cx:Cx}
theorem FZ{s':St}{W':Wd}{m:Nat}{lv:Lv}{y:Value}{o:List Nat}(h:lv.l.rd m W'.w W'.fz y lv.x o):Ab s' W' (BT v m lv) (some y) o:=by
 obtain⟨l,x⟩:=lv;cases l with
 |sl t e=>
  cases m with
  |zero=>exact⟨AD.zero h,fun u hu=>by injection hu with hu;subst hu;have:=AD.zero h;subst this;exact h⟩
  |succ m=>exact⟨y,rfl,h⟩
 |int k=>
  obtain⟨h1,h2⟩:=L.Aa (.int k) rfl h (d':=0) (w':=W'.w) (Vp:=W'.fz);subst h2;exact⟨rfl,fun u hu=>by injection hu with hu;subst hu;exact h1⟩
 |bool=>
  obtain⟨h1,h2⟩:=L.Aa .bool rfl h (d':=0) (w':=W'.w) (Vp:=W'.fz);subst h2;exact⟨rfl,fun u hu=>by injection hu with hu;subst hu;exact h1⟩
 |str=>
  obtain⟨h1,h2⟩:=L.Aa .str rfl h (d':=0) (w':=W'.w) (Vp:=W'.fz);subst h2;exact⟨rfl,fun u hu=>by injection hu with hu;subst hu;exact h1⟩
theorem KH{m:Nat}{lv:Lv}{AA gen:Nat}{t:TypeId}{e:Ls}{xs:List e.D}{d:Nat}(h:BT v m lv=.arr AA gen t e xs d):AA=v∧gen=v:=by
 obtain⟨l,x⟩:=lv;cases l with
 |sl t0 e0=>cases m with
  |zero=>cases h
  |succ m=>
   have h:LA.arr v v t0 e0 x (m+1)=_:=h;grind
 |_=>cases h
def E5(s:St)(v:Nat)(ls:List (L×Nat))(as:List LA)(vs:List Lv)(j:Nat)(u:Up):Prop:=
 ∃(p:L×Nat) (c:Loc) (lv:Lv) (AA gen:Nat) (t0:TypeId) (e0:Ls) (xs0:List e0.D) (d0:Nat) (F:List e0.D→List e0.D),ls[j]?=some p∧Bs p.1=true∧as[j]?=some (.ref c)∧vs[j]?=some lv∧s.leaf c.r c.j=.arr AA gen t0 e0 xs0 d0∧Hx (Oc lv) c.p t0 e0=some F∧
  u=⟨c.r,c.j,[.arr AA v t0 e0 (F xs0) d0]⟩
theorem E5.uniq{ls:List (L×Nat)}{as:List LA}{vs:List Lv}{j:Nat}{u u':Up}(h:E5 s v ls as vs j u)(h':E5 s v ls as vs j u'):u=u':=by
 obtain⟨p,c,lv,AA,gen,t0,e0,xs0,d0,F,h1,h2,h3,h4,h5,h6,rfl⟩:=h;obtain⟨p',c',lv',Z9,W5,t0',e0',xs0',d0',F',g1,g2,g3,g4,g5,g6,rfl⟩:=h';rw[h3]at g3;injection g3 with g3;injection g3 with g3;subst g3
 rw[h4]at g4;injection g4 with g4;subst g4
 rw[h5]at g5;injection g5 with a1 a2 a3 a4 a5 a6
 subst a1;subst a3;subst a4;grind
def Ka(s:St)(v:Nat)(ls:List (L×Nat))(as:List LA)(vs:List Lv)(us:List Up):Prop:=
 (∀u∈us,∃j,E5 s v ls as vs j u)∧∀(j:Nat)(p:L×Nat),ls[j]?=some p→Bs p.1=true→p.2≠4→∃u∈us,E5 s v ls as vs j u
theorem E5.succ{p:L×Nat}{a:LA}{lv:Lv}{ls:List (L×Nat)}{as:List LA}{vs:List Lv}{j:Nat}{u:Up}(h:E5 s v ls as vs j u):E5 s v (p::ls) (a::as) (lv::vs) (j+1) u:=by obtain⟨p,c,lv,AA,gen,t0,e0,xs0,d0,F,h1,h2,h3,h4,h5,h6,rfl⟩:=h;exact⟨p,c,lv,AA,gen,t0,e0,xs0,d0,F,by grind,h2,by grind,by grind,h5,h6,rfl⟩
theorem I4:∀(ls:List (L×Nat)) (as:List LA) (vs rest:List Lv) {ws:List Wr},vs.length=ls.length→putRow s v ls as (vs++rest)=some ws→∃us,ws=Ek us∧Ka s v ls as vs us
 | [],[],vs,rest,ws,hlen,h=>by simp only[putRow,Option.some.injEq]at h;subst h;exact⟨[],rfl,⟨fun u hu=>(by cases hu),fun j p hp=>(by simp at hp)⟩⟩
 | [],_::_,vs,rest,ws,hlen,h=>by simp[putRow]at h
 |_::_,[],vs,rest,ws,hlen,h=>by simp[putRow]at h
 |_::_,_::_,[],rest,ws,hlen,h=>by simp at hlen
 |(l,d)::ls,a::as,x::vs,rest,ws,hlen,h=>by
  simp only[lJ,putRow]at h;split at h
  ·rename_i XX YS;obtain⟨us,rfl,h1,h2⟩:=I4 ls as vs rest (by grind) YS
   have plain:(Bs l=false∨d=4)→some (Ek us)=some ws→∃us,ws=Ek us∧Ka s v ((l,d)::ls) (a::as) (x::vs) us:=by
    intro hs h;injection h with h
    refine⟨us,h.symm,fun u hu=>?_,fun j p hp XN dO=>?_⟩
    ·obtain⟨j,hj⟩:=h1 u hu;exact⟨j+1,hj.succ⟩
    ·cases j with
     |zero=>grind
     |succ j=>
      obtain⟨u,hu,hr⟩:=h2 j p (by grind) XN dO;exact⟨u,hu,hr.succ⟩
   cases l with
   |int i=>exact plain (.inl rfl) h
   |bool=>exact plain (.inl rfl) h
   |str=>exact plain (.inl rfl) h
   |sl t e=>
    by_cases al:d=4
    ·dsimp only at h;rw[kF (kI.2 al)]at h;exact plain (.inr al) h
    dsimp only at h;rw[kG (fun q=>al (kI.1 q))]at h;cases a with
    |ref c=>
     dsimp only at h;split at h
     ·rename_i AA gen t0 e0 xs0 d0 hq;split at h
      ·rename_i F hF;injection h with h
       have hu:E5 s v ((.sl t e,d)::ls) (.ref c::as) (x::vs) 0 ⟨c.r,c.j,[.arr AA v t0 e0 (F xs0) d0]⟩:=⟨_,c,x,AA,gen,t0,e0,xs0,d0,F,rfl,rfl,rfl,rfl,hq,hF,rfl⟩;refine⟨⟨c.r,c.j,[.arr AA v t0 e0 (F xs0) d0]⟩::us,?_,fun u Vy=>?_,fun j p hp XN dO=>?_⟩
       ·rw[←h];simp[Ek,BD]
       ·rcases kS.1 Vy with rfl|Vy
        ·grind
        ·obtain⟨j,hj⟩:=h1 u Vy;exact⟨j+1,hj.succ⟩
       ·cases j with
        |zero=>grind
        |succ j=>
         obtain⟨u,hu,hr⟩:=h2 j p (by grind) XN dO;exact⟨u,kB _ hu,hr.succ⟩
      ·cases h
     ·cases h
    |_=>cases h
  ·cases h
def NM(s:St)(v:Nat)(pm:PM)(av:AV)(vs:List Lv)(uo:List Up):Prop:=match pm with
 | .box ls=>∃r AA,av=.v false [.ptr r 0 AA]∧uo=[⟨r,0,AY s r v 0 ls vs⟩]
 | .row _ ls=>∃g as,av=.v g as∧Ka s v ls as vs uo
 |_=>uo=[]
theorem Gq:∀(ps:List PM)(WC:List AV) (Vn:List (List Lv)) {ws:List Wr},Vn.length=ps.length→(∀(i:Nat)(pm:PM)(vs:List Lv),ps[i]?=some pm→Vn[i]?=some vs→vs.length=pm.outs.length)→AX s v ps WC Vn.flatten=some ws→
  ∃U:List (List Up),ws=Ek U.flatten∧U.length=ps.length∧∀(i:Nat)(pm:PM)(av:AV)(vs:List Lv)(uo:List Up),ps[i]?=some pm→WC[i]?=some av→Vn[i]?=some vs→U[i]?=some uo→NM s v pm av vs uo
 | [],WC,[],ws,hlen,hv,h=>by
  cases WC with
  |nil=>simp[AX]at h;subst h;exact⟨[],rfl,rfl,fun i pm av vs uo h1=>by simp at h1⟩
  |cons a as=>simp[AX]at h
 | [],WC,_::_,ws,hlen,hv,h=>by simp at hlen
 |_::_,WC,[],ws,hlen,hv,h=>by simp at hlen
 |pm::ps,WC,vs::Vn,ws,hlen,hv,h=>by
  have WO:Vn.length=ps.length:=by simpa using hlen
  have W0:∀(i:Nat)(pm:PM)(vs:List Lv),ps[i]?=some pm→Vn[i]?=some vs→vs.length=pm.outs.length:=fun i ZF YW h1 h2=>hv (i+1) ZF YW (by grind) (by grind);have h0:=hv 0 pm vs rfl rfl;cases WC with
  |nil=>cases pm<;>simp[AX]at h
  |cons av WC=>
   have fin:∀(uo:List Up) {XX:List Wr},AX s v ps WC Vn.flatten=some XX→ws=Ek uo++XX→NM s v pm av vs uo→
     ∃U:List (List Up),ws=Ek U.flatten∧U.length=(pm::ps).length∧∀(i:Nat)(ZF:PM)(bE:AV)(YW:List Lv)(uo:List Up),(pm::ps)[i]?=some ZF→(av::WC)[i]?=some bE→(vs::Vn)[i]?=some YW→U[i]?=some uo→NM s v ZF bE YW uo:=by
    intro uo XX hp hw WQ;obtain⟨U,h1,h2,h3⟩:=Gq ps WC Vn WO W0 hp;refine⟨uo::U,?_,by simp[h2],?_⟩
    ·rw[hw,h1];simp[Ek]
    ·grind
   cases pm with
   |val g ls=>
    have XV:vs=[]:=kD (by simpa[PM.outs]using h0);subst XV;simp only[AX,kW,ku]at h;exact fin [] h rfl rfl
   |fn f=>
    have XV:vs=[]:=kD (by simpa[PM.outs]using h0);subst XV;simp only[AX,kW,ku]at h;exact fin [] h rfl rfl
   |box ls=>
    have WX:vs.length=ls.length:=by simpa[PM.outs]using h0
    simp only[kW]at h;unfold AX at h;split at h<;>try cases h
    ·rename_i e1 _;cases e1
    ·rename_i e1 _;cases e1
    ·rename_i e1 _;cases e1
    ·rename_i ZP aI r AA avs' e1 e2;injection e1 with e1 cS;injection e1 with e1;subst e1;subst cS
     injection e2 with e2 b8;subst e2;subst b8
     split at h
     ·rename_i XX YS;injection h with h;subst h
      rw[←WX,lI]at YS;refine fin [⟨r,0,AY s r v 0 ls vs⟩] YS ?_ ⟨r,AA,rfl,rfl⟩;rw[EE s r v 0 ls vs _ WX];simp[Ek]
     ·cases h
    grind
   |row g ls=>
    have WX:vs.length=ls.length:=by simpa[PM.outs]using h0
    simp only[kW]at h;cases av with
    |Dp bs=>simp[AX]at h
    |bx bs=>simp[AX]at h
    |v g' as=>
     simp only[AX]at h;split at h
     ·rename_i us XX bB YS;injection h with h;subst h
      rw[←WX,lI]at YS;obtain⟨uo,rfl,hr⟩:=I4 ls as vs _ WX bB;exact fin uo YS rfl ⟨g',as,rfl,hr⟩
     ·cases h
theorem J0(r j:Nat):∀(us:List Up)(a:LA),(∀u∈us,¬(r=u.r∧u.lo≤j∧j<u.lo+u.news.length))→us.foldl (fun a u=>if r=u.r∧u.lo≤j∧j<u.lo+u.news.length then nth .bad u.news (j-u.lo)else a) a=a
 | [],_,_=>rfl
 |u::us,a,h=>by rw[List.foldl_cons,kG (h u (by simp))];exact J0 r j us a fun x hx=>h x (kB _ hx)
theorem JH(r j:Nat){x:LA}:∀(us:List Up)(a:LA),(∀u∈us,r=u.r∧u.lo≤j∧j<u.lo+u.news.length→nth .bad u.news (j-u.lo)=x)→(a=x∨∃u∈us,r=u.r∧u.lo≤j∧j<u.lo+u.news.length)→
  us.foldl (fun a u=>if r=u.r∧u.lo≤j∧j<u.lo+u.news.length then nth .bad u.news (j-u.lo)else a) a=x
 | [],a,h,he=>by grind
 |u::us,a,h,he=>by rw[List.foldl_cons];refine JH r j us _ (fun y hy=>h y (kB _ hy)) ?_;grind
def Fg(w:World)(fz:Nat→Prop)(v:Nat)(b:LA)(y:Value)(o:List Nat):Prop:=match b with
 | .arr AA gen t e xs m=>AA=v∧gen=v∧AD e m w fz y xs o
 | .bad=>o=[]
 |_=>False
theorem Jq{w:World}{fz:Nat→Prop}{d:Nat}{om:Nat→List Nat}:∀(ls:List (L×Nat)) (vs rest:List Lv) (off:Nat) (G:Nat→Option Value) {as rs:List LA} {left:List Lv},vs.length=ls.length→(∀(j:Nat)(p:L×Nat)(lv:Lv),ls[j]?=some p→vs[j]?=some lv→∃y,G j=some y∧lv.l.rd p.2 w fz y lv.x (om (off+j)))→
  Jp d v ls (vs++rest) off=some (as,rs,left)→left=rest∧as.length=ls.length∧∃ys:List Value,ys.length=ls.length∧rs.length=ls.length∧(∀k,k<ls.length→ys[k]?=G k)∧(∀(k:Nat)(b:LA),rs[k]?=some b→∃y,ys[k]?=some y∧Fg w fz v b y (om (off+k)))∧
   ∀(s':St)(W':Wd),W'.w=w→W'.fz=fz→(∀k,k<ls.length→s'.leaf d (off+k)=nth .bad rs k∧W'.cv d (off+k)=ys[k]?)→∀(k:Nat)(b:LA),as[k]?=some b→∃y,ys[k]?=some y∧AP s' W' b y
 | [],vs,rest,off,G,as,rs,left,hlen,hv,h=>by have:vs=[]:=kD hlen;subst this;simp only[Jp,ku,Option.some.injEq,Prod.mk.injEq]at h;obtain⟨rfl,rfl,rfl⟩:=h;exact⟨rfl,rfl,[],rfl,rfl,(fun k hk=>by simp at hk),(fun k b hb=>by simp at hb),fun s' W' _ _ _ k b hb=>by simp at hb⟩
 |_::_,[],rest,off,G,as,rs,left,hlen,hv,h=>by simp at hlen
 |(l,m)::ls,lv::vs,rest,off,G,as,rs,left,hlen,hv,h=>by
  obtain⟨l',x⟩:=lv;simp only[lJ,Jp]at h;split at h
  ·rename_i Yy eL bC hb
   obtain⟨h1,h2,ys,h3,h4,h5,h6,h7⟩:=Jq ls vs rest (off+1) (fun j=>G (j+1)) (by grind) (fun j p lv hp W7=>by
    have:=hv (j+1) p lv (by grind) (by grind);rwa[show off+(j+1)=off+1+j by omega]at this) hb
   obtain⟨y,hy,hr⟩:=hv 0 (l,m) ⟨l',x⟩ rfl rfl;dsimp only[Nat.add_zero]at hr
   have fin:∀(a b:LA),(some (a::Yy,b::eL,bC)=some (as,rs,left))→Fg w fz v b y (om off)→(∀(s':St)(W':Wd),W'.w=w→W'.fz=fz→s'.leaf d off=b→W'.cv d off=some y→AP s' W' a y)→
     left=rest∧as.length=((l,m)::ls).length∧∃ys:List Value,ys.length=((l,m)::ls).length∧rs.length=((l,m)::ls).length∧(∀k,k<((l,m)::ls).length→ys[k]?=G k)∧(∀(k:Nat)(b:LA),rs[k]?=some b→∃y,ys[k]?=some y∧Fg w fz v b y (om (off+k)))∧
      ∀(s':St)(W':Wd),W'.w=w→W'.fz=fz→(∀k,k<((l,m)::ls).length→s'.leaf d (off+k)=nth .bad rs k∧W'.cv d (off+k)=ys[k]?)→∀(k:Nat)(b:LA),as[k]?=some b→∃y,ys[k]?=some y∧AP s' W' b y:=by
    intro a b he YQ ZU;injection he with he;injection he with e1 he;injection he with e2 e3
    subst e1;subst e2;subst e3;refine⟨h1,by simp[h2],y::ys,by simp[h3],by simp[h4],?_,?_,?_⟩
    ·grind
    ·grind
    ·intro s' W' hw hz hs k b' Vz;cases k with
     |zero=>
      simp at Vz;subst Vz;obtain⟨q1,q2⟩:=hs 0 (by simp);exact⟨y,rfl,ZU s' W' hw hz q1 q2⟩
     |succ k=>
      obtain⟨y',X5,ho⟩:=h7 s' W' hw hz (fun k hk=>by
       have:=hs (k+1) (by simp;omega);rw[show off+1+k=off+(k+1) by omega];exact⟨this.1.trans rfl,this.2.trans (by simp)⟩) k b' (by simpa using Vz)
      grind
   cases l' with
   |sl t e=>
    cases m with
    |zero=>
     refine fin _ _ h (AD.zero hr) fun s' W' hw hz _ _=>?_;have:=AD.zero hr;rw[this]at hr;show(L.sl t e).rd 0 W'.w W'.fz y x [];grind
    |succ m=>
     refine fin _ _ h ⟨rfl,rfl,hr⟩ fun s' W' hw hz hl hc=>?_;intro gen t' e' WW d' Ws hp;exact⟨y,e',hc,rfl,rfl⟩
   |int k=>
    obtain⟨q1,q2⟩:=L.Aa (.int k) rfl hr (d':=0) (w':=w) (Vp:=fz);rw[q2]at q1;exact fin _ _ h q2 fun s' W' hw hz _ _=>by show(L.int k).rd 0 W'.w W'.fz y x [];grind
   |bool=>
    obtain⟨q1,q2⟩:=L.Aa .bool rfl hr (d':=0) (w':=w) (Vp:=fz);rw[q2]at q1;exact fin _ _ h q2 fun s' W' hw hz _ _=>by show L.bool.rd 0 W'.w W'.fz y x [];grind
   |str=>
    obtain⟨q1,q2⟩:=L.Aa .str rfl hr (d':=0) (w':=w) (Vp:=fz);rw[q2]at q1;exact fin _ _ h q2 fun s' W' hw hz _ _=>by show L.str.rd 0 W'.w W'.fz y x [];grind
  ·cases h
theorem NC{s':St}{W':Wd}{g:Bool}{ls:List (L×Nat)}{u:Value}{as:List LA}(hlen:as.length=ls.length)(hg:match g with
  |true=>∃cs:Array Value,u=.agg cs∧cs.size=ls.length
  |false=>ls.length=1) (h:∀(k:Nat)(b:LA),as[k]?=some b→∃y,Ay g u k=some y∧AP s' W' b y):E6 s' W' g as u:=by
 cases g with
 |true=>
  obtain⟨cs,rfl,V7⟩:=hg;exact⟨cs,rfl,by rw[V7,hlen],h⟩
 |false=>
  match as,hlen with
  | [],h0=>dsimp only at hg;simp at h0;omega
  | [b],_=>
   obtain⟨y,hy,WQ⟩:=h 0 b rfl;simp[Ay]at hy;subst hy;exact WQ
  |_::_::_,h0=>dsimp only at hg;simp at h0;omega
theorem HW{w:World}{fz:Nat→Prop}{d:Nat}{om:Nat→List Nat}:∀(rs:List (Bool×List (L×Nat))) (rv:List Value) (vsR:List (List Lv)) (rest:List Lv) (off:Nat) {bs:List (Bool×List LA)} {own:List LA} {left:List Lv},EH w fz om rs rv vsR off→
  D3 d v rs (vsR.flatten++rest) off=some (bs,own,left)→left=rest∧bs.length=rv.length∧∃ys:List Value,ys.length=own.length∧(∀(k:Nat)(b:LA),own[k]?=some b→∃y,ys[k]?=some y∧Fg w fz v b y (om (off+k)))∧
   ∀(s':St)(W':Wd),W'.w=w→W'.fz=fz→(∀k,k<own.length→s'.leaf d (off+k)=nth .bad own k∧W'.cv d (off+k)=ys[k]?)→∀(i:Nat)(p:Bool×List LA)(u:Value),bs[i]?=some p→rv[i]?=some u→E6 s' W' p.1 p.2 u
 | [],[],[],rest,off,bs,own,left,hr,h=>by simp only[D3,List.flatten_nil,ku,Option.some.injEq,Prod.mk.injEq]at h;grind
 | [],[],_::_,rest,off,bs,own,left,hr,h=>hr.elim
 | [],_::_,_,rest,off,bs,own,left,hr,h=>by simp[EH]at hr
 |_::_,[],_,rest,off,bs,own,left,hr,h=>by simp[EH]at hr
 |_::_,_::_,[],rest,off,bs,own,left,hr,h=>by simp[EH]at hr
 |(g,ls)::rs,u::rv,vs::vsR,rest,off,bs,own,left,hr,h=>by
  obtain⟨⟨hm,hg,XV⟩,hr⟩:=hr;have WX:vs.length=ls.length:=by have:=congrArg List.length hm;simpa using this
  simp only[D3,kW,List.append_assoc]at h;split at h
  ·rename_i as own1 vs1 hb;obtain⟨h1,h2,ys,h3,h4,h5,h6,h7⟩:=Jq ls vs (vsR.flatten++rest) off (Ay g u) WX XV hb;subst h1;split at h
   ·rename_i cQ own2 bC Vz;injection h with h;injection h with e1 h;injection h with e2 e3
    subst e1;subst e2;subst e3;obtain⟨q1,q2,zs,q3,q4,q5⟩:=HW rs rv vsR rest (off+ls.length) hr Vz;refine⟨q1,by simp[q2],ys++zs,by grind,?_,?_⟩
    ·grind
    ·intro s' W' hw hz hs i p u' hi Vy;cases i with
     |zero=>
      simp at hi Vy;subst hi;subst Vy;refine NC h2 hg fun k b hk=>?_;have Vs:k<ls.length:=by rw[←h2];exact(j9.1 hk).1
      obtain⟨y,hy,WQ⟩:=h7 s' W' hw hz (fun k hk=>by
       obtain⟨a1,a2⟩:=hs k (by simp;omega);rw[a1,a2];refine⟨?_,?_⟩
       ·rw[Ai,Ai,lP (by omega)]
       ·rw[lP (by omega)]) k b hk
      grind
     |succ i=>
      refine q5 s' W' hw hz (fun k hk=>?_) i p u' (by simpa using hi) (by simpa using Vy);obtain⟨a1,a2⟩:=hs (ls.length+k) (by simp;omega);rw[show off+ls.length+k=off+(ls.length+k) by omega,a1,a2];refine⟨?_,?_⟩
      ·rw[Ai,Ai,lZ (by omega)];congr 2;omega
      grind
   ·cases h
  ·cases h
end
end Go.Ev
namespace Go.Ev
def Ao(T:Ia)(om:Key→List Nat):Key→List Nat
 | .AT i=>match T[i]? with
  |some (.box r)=>om (.AT r)
  |_=>[]
 | .lf i j=>match T[i]? with
  |some (.box r)=>om (.lf r j)
  |some (.row l)=>match l[j]? with
   |some (some p)=>p.2
   |_=>[]
  |_=>[]
 | .fl _=>[]
def Fj(T:Ia)(bk:Nat→Nat)(i:Nat):Nat:=match T[i]? with
 |some (.box r)=>bk r
 |_=>0
theorem GB:∀(ps:List PM)(WC:List AV)(i:Nat)(g:Bool)(ls:List L)(av:AV),ps[i]?=some (.val g ls)→WC[i]?=some av→∀r∈av.roots,r∈Aj ps WC
 | [],_,i,g,ls,av,h,_,r,hr=>by simp at h
 |_::_,[],i,g,ls,av,_,h,r,hr=>by simp at h
 |pm::ps,a::WC,0,g,ls,av,h1,h2,r,hr=>by simp at h1 h2;subst h1;subst h2;exact kK _ hr
 |pm::ps,a::WC,i+1,g,ls,av,h1,h2,r,hr=>by
  have:=GB ps WC i g ls av (by grind) (by grind) r hr;cases pm with
  |val g' ZP=>exact kH _ this
  |_=>exact this
section
variable {P:Program}{E:Cy}{s:St}{W:Wd}{v:Nat}{tm:Array Value}{cx:Cx}
structure Handed(s:St)(W:Wd)(ps:List PM)(WC:List AV)(us:List Value)(Vn:List (List Lv))(T:Ia):Prop where
 l1:WC.length=ps.length
 l2:us.length=ps.length
 l3:Vn.length=ps.length
 l4:T.length=ps.length
 nodup:(T.flatMap PT.EG).Pairwise NH
 each:∀(i:Nat)(pm:PM)(av:AV)(u:Value)(vs:List Lv)(tg:PT),ps[i]?=some pm→WC[i]?=some av→us[i]?=some u→Vn[i]?=some vs→T[i]?=some tg→HI s W pm av tg u vs
 apart:∀r∈Aj ps WC,∀(i:Nat)(p:PT),T[i]?=some p→∀x∈p.EG,x.1≠r
theorem BA{α:Type}{l:List α}{i n:Nat}(h:l.length=n)(hi:i<n):∃x,l[i]?=some x:=⟨l[i]'(by omega),j7 (by omega)⟩
theorem Handed.all{ps:List PM}{WC:List AV}{us:List Value}{Vn:List (List Lv)}{T:Ia}(hh:Handed s W ps WC us Vn T){i:Nat}{pm:PM}(hp:ps[i]?=some pm):
  ∃av u vs tg,WC[i]?=some av∧us[i]?=some u∧Vn[i]?=some vs∧T[i]?=some tg∧HI s W pm av tg u vs:=by
 have hi:i<ps.length:=(j9.1 hp).1;obtain⟨av,h1⟩:=BA hh.l1 hi;obtain⟨u,h2⟩:=BA hh.l2 hi;obtain⟨vs,h3⟩:=BA hh.l3 hi;obtain⟨tg,h4⟩:=BA hh.l4 hi;exact⟨av,u,vs,tg,h1,h2,h3,h4,hh.each i pm av u vs tg hp h1 h2 h3 h4⟩
theorem Handed.Pg{ps:List PM}{WC:List AV}{us:List Value}{Vn:List (List Lv)}{T:Ia}(hh:Handed s W ps WC us Vn T){i:Nat}{m:PT}(hT:T[i]?=some m):
  ∃pm av u vs,ps[i]?=some pm∧WC[i]?=some av∧us[i]?=some u∧Vn[i]?=some vs∧HI s W pm av m u vs:=by
 have hi:i<ps.length:=by rw[←hh.l4];exact(j9.1 hT).1
 obtain⟨pm,hp⟩:=BA rfl hi;obtain⟨av,u,vs,tg,h1,h2,h3,h4,h5⟩:=hh.all hp;grind
theorem Handed.Od{ps:List PM}{WC:List AV}{us:List Value}{Vn:List (List Lv)}{T:Ia}(hh:Handed s W ps WC us Vn T){i j:Nat}{l:List (Option (Loc×List Nat))}{c:Loc}{o:List Nat}(hT:T[i]?=some (.row l))(hj:l[j]?=some (some (c,o))):
  ∃g ls as u vs p lv y,ps[i]?=some (.row g ls)∧WC[i]?=some (.v g as)∧us[i]?=some u∧Vn[i]?=some vs∧ls[j]?=some p∧as[j]?=some (.ref c)∧vs[j]?=some lv∧Bs p.1=true∧vs.map (·.l)=ls.map (·.1)∧Ay g u j=some y∧Fh s W p.2 (.ref c) (some (c,o)) lv y:=by
 obtain⟨pm,av,u,vs,e1,e2,e3,e4,e5⟩:=hh.Pg hT;cases pm with
 |val g ls=>cases e5.1
 |fn f=>cases e5.1
 |box ls=>obtain⟨r,AA,_,q,_⟩:=e5;cases q
 |row g ls=>
  obtain⟨as,l',rfl,q2,q3,q4,q5,q6,q7⟩:=e5;injection q2 with q2;subst q2
  have Vs:j<ls.length:=by rw[←q4];exact(j9.1 hj).1
  have WX:vs.length=ls.length:=by have:=congrArg List.length q5;simpa using this
  obtain⟨p,hp⟩:=BA rfl Vs;obtain⟨a,ha⟩:=BA q3 Vs;obtain⟨lv,W7⟩:=BA WX Vs;obtain⟨y,hy,hr⟩:=q7 j p a lv _ hp ha W7 hj
  have hl:lv.l=p.1:=by have:=congrArg (·[j]?) q5;simp only[kN,hp,W7,lE,Option.some.injEq]at this;exact this
  have WV:=hr;rcases hr with⟨_,h0,_⟩|⟨_,_,h0,_⟩|⟨c',o',gen,t,e,xs,h,t',e',ys,rfl,h2,_,_,_,_,_,h3,_⟩
  ·cases h0
  ·cases h0
  ·injection h2 with h2;injection h2 with h2 X7;subst h2
   exact⟨g,ls,as,u,vs,p,lv,y,e1,e2,e3,e4,hp,ha,W7,by rw[←hl,h3];rfl,q5,hy,WV⟩
theorem Cb{ps:List PM}{WC:List AV}{us:List Value}{Vn:List (List Lv)}{T:Ia}(hh:Handed s W ps WC us Vn T){k:Key}{b:Nat}(h:b∈Ao T W.om k):∃a,AU T k=some a∧b∈W.om a:=by
 cases k with
 |fl k=>cases h
 |AT i=>
  simp only[Ao]at h;split at h
  ·rename_i r hT;exact⟨.AT r,by simp[AU,hT],h⟩
  ·cases h
 |lf i j=>
  simp only[Ao]at h;split at h
  ·rename_i r hT;exact⟨.lf r j,by simp[AU,hT],h⟩
  ·rename_i l hT;split at h
   ·rename_i p hp;obtain⟨c,o⟩:=p;obtain⟨g,ls,as,u,vs,p,lv,y,_,_,_,_,_,_,_,_,_,_,hr⟩:=hh.Od hT hp;refine⟨.lf c.r c.j,by simp[AU,hT,hp],?_⟩;rcases hr with⟨_,h0,_⟩|⟨_,_,h0,_⟩|⟨c',o',gen,t,e,xs,h',t',e',ys,_,h2,_,_,_,_,_,_,_,h4,_⟩
    all_goals grind
   ·cases h
  ·cases h
theorem Jo(h:AW E s tm W){ps:List PM}{WC:List AV}{us:List Value}{Vn:List (List Lv)}{T:Ia}(hh:Handed s W ps WC us Vn T)(k:Key):(Ao T W.om k).Nodup:=by
 cases k with
 |fl k=>exact kE
 |AT i=>
  simp only[Ao];split
  ·exact h.sep.nodup _
  grind
 |lf i j=>
  simp only[Ao];split
  ·exact h.sep.nodup _
  ·rename_i l hT;split
   ·rename_i p hp;obtain⟨c,o⟩:=p;obtain⟨g,ls,as,u,vs,p,lv,y,_,_,_,_,_,_,_,_,_,_,hr⟩:=hh.Od hT hp;rcases hr with⟨_,h0,_⟩|⟨_,_,h0,_⟩|⟨c',o',gen,t,e,xs,h',t',e',ys,_,h2,_,_,_,_,_,_,_,h4,h5⟩
    ·cases h0
    ·cases h0
    ·injection h2 with h2;injection h2 with h2 X7;subst h2;subst X7
     exact h5
   ·exact kE
  grind
theorem Handed.root{ps:List PM}{WC:List AV}{us:List Value}{Vn:List (List Lv)}{T:Ia}(hh:Handed s W ps WC us Vn T){k:Key}{r j:Nat}(h:AU T k=some (.lf r j)):r∉Aj ps WC:=by
 cases k with
 |fl k=>cases h
 |AT i=>obtain⟨r',e,_⟩:=BO h;cases e
 |lf i j'=>
  rcases BK h with⟨r',e,hT⟩|⟨l,c,o,e,hT,hl⟩
  ·injection e with e1 e2;subst e1
   exact fun hr=>hh.apart r hr i _ hT (r,none) (by simp[PT.EG]) rfl
  ·injection e with e1 e2
   exact fun hr=>hh.apart r hr i _ hT _ (IL hl) e1.symm
theorem OD(h:AW E s tm W){r j:Nat}(hj:(s.root r).ls.length≤j):W.om (.lf r j)=[]:=by obtain⟨h1,_⟩:=h.roots r;have:=h1 j;rw[A6 LA.bad hj]at this;exact this.1
theorem GH(h:AW E s tm W){ps:List PM}{WC:List AV}{us:List Value}{Vn:List (List Lv)}{T:Ia}(hh:Handed s W ps WC us Vn T):
  Ca ps W.w (Seen W (Aj ps WC)) us Vn (Fj T W.bk) (Ao T W.om) where
 len:=hh.l2
 BQ:=hh.l3
 each i pm u vs hp hu XV:=by
  obtain⟨av,u',YW,tg,h1,h2,h3,h4,h5⟩:=hh.all hp;rw[hu]at h2;injection h2 with h2;subst h2
  rw[XV]at h3;injection h3 with h3;subst h3
  cases pm with
  |val g ls=>
   obtain⟨_,q1,q2,q3⟩:=h5;refine⟨q1,q2,fun j p lv hj W7=>?_⟩;obtain⟨y,hy,hr⟩:=q3 j p lv hj W7;exact⟨y,hy,L.AI lv.l hr (fun _ _=>rfl) fun b hb=>hb.imp id fun⟨r,hr,x⟩=>⟨r,GB ps WC i g ls av hp h1 r hr,x⟩⟩
  |box ls=>
   obtain⟨r,AA,_,rfl,hb,hlen,Vy,ZE,V4⟩:=h5;obtain⟨_,WN⟩:=h.roots r;rw[kF hb]at WN;obtain⟨_,arr,T',fr,eB,V0,V7,WE⟩:=WN;have e1:Fj T W.bk i=W.bk r:=by simp[Fj,h4]
   show NF _ _ _ _ _ _ _;rw[e1];refine⟨Vy,ZE,arr,T',fr,eB,V0,by omega,fun j p lv hj W7=>?_⟩;have Vs:j<arr.size:=by rw[V7,hlen];exact(j9.1 hj).1
   refine⟨arr[j],kX Vs,?_⟩;have e2:Ao T W.om (.lf i j)=W.om (.lf r j):=by simp[Ao,h4]
   show lv.l.rd p.2 _ _ _ _ (Ao T W.om (.lf i j));rw[e2];exact L.AI lv.l (V4 j p lv arr[j] hj W7 (by grind)) (fun _ _=>rfl) fun b hb=>.inl hb
  |row g ls=>
   obtain⟨as,l,rfl,rfl,q3,q4,q5,q6,q7⟩:=h5;have WX:vs.length=ls.length:=by have:=congrArg List.length q5;simpa using this
   refine⟨⟨by simpa using q5,q6,fun j p lv hj W7=>?_⟩,fun j p hj XN dO=>?_⟩
   rotate_left
   ·have Vs:j<ls.length:=(j9.1 hj).1;obtain⟨a,ha⟩:=BA q3 Vs;obtain⟨o,ho⟩:=BA q4 Vs;obtain⟨lv,W7⟩:=BA WX Vs;obtain⟨y,hy,hr⟩:=q7 j p a lv o hj ha W7 ho
    have hl:lv.l=p.1:=by have:=congrArg (·[j]?) q5;simp only[kN,hj,W7,lE,Option.some.injEq]at this;exact this
    rcases hr with⟨hs,_⟩|⟨_,_,_,rfl,_⟩|⟨_,_,_,_,_,_,_,_,_,_,_,_,_,Vv,_⟩
    ·rw[hl,XN]at hs;cases hs
    ·exact hy
    ·exact(Vv dO).elim
   have Vs:j<ls.length:=(j9.1 hj).1;obtain⟨a,ha⟩:=BA q3 Vs;obtain⟨o,ho⟩:=BA q4 Vs;obtain⟨y,hy,hr⟩:=q7 j p a lv o hj ha W7 ho;refine⟨y,hy,?_⟩;rcases hr with⟨hs,rfl,hr⟩|⟨al,_,rfl,rfl,t',e',rfl⟩|⟨c,o',gen,t,e,xs,h',t',e',ys,_,rfl,_,_,_,_,_,rfl,hr,_⟩
   ·have e2:Ao T W.om (.lf i j)=[]:=by simp[Ao,h4,ho]
    show lv.l.rd p.2 _ _ _ _ (Ao T W.om (.lf i j));rw[e2];exact(L.Aa lv.l hs hr).1
   ·have e2:Ao T W.om (.lf i j)=[]:=by simp[Ao,h4,ho]
    show AD e' p.2 _ _ _ _ (Ao T W.om (.lf i j));rw[e2];exact Bm
   ·have e2:Ao T W.om (.lf i j)=o':=by simp[Ao,h4,ho]
    show AD e' p.2 _ _ _ _ (Ao T W.om (.lf i j));rw[e2];exact hr.frame (fun _ _=>rfl) fun b hb=>.inl hb
  |fn f=>exact h5.2
 AT i:=by
  cases hp:ps[i]? with
  |none=>
   have:T[i]?=none:=List.getElem?_eq_none (by have:=List.getElem?_eq_none_iff.1 hp;rw[hh.l4];exact this);simp[Ao,this]
  |some pm=>
   obtain⟨av,u',YW,tg,h1,h2,h3,h4,h5⟩:=hh.all hp;cases pm with
   |val g ls=>obtain⟨rfl,_⟩:=h5;simp[Ao,h4]
   |fn f=>obtain⟨rfl,_⟩:=h5;simp[Ao,h4]
   |row g ls=>obtain⟨as,l,_,rfl,_⟩:=h5;simp[Ao,h4]
   |box ls=>
    obtain⟨r,AA,_,rfl,hb,_⟩:=h5;obtain⟨_,WN⟩:=h.roots r;rw[kF hb]at WN;simp[Ao,Fj,h4,WN.1]
 none i gJ Y5 j:=by
  cases hp:ps[i]? with
  |none=>
   have:T[i]?=none:=List.getElem?_eq_none (by have:=List.getElem?_eq_none_iff.1 hp;rw[hh.l4];exact this);simp[Ao,this]
  |some pm=>
   obtain⟨av,u',YW,tg,h1,h2,h3,h4,h5⟩:=hh.all hp;cases pm with
   |val g ls=>obtain⟨rfl,_⟩:=h5;simp[Ao,h4]
   |fn f=>obtain⟨rfl,_⟩:=h5;simp[Ao,h4]
   |row g ls=>grind
   |box ls=>grind
 box i ls hp j hj:=by
  obtain⟨av,u',YW,tg,h1,h2,h3,h4,h5⟩:=hh.all hp;obtain⟨r,AA,_,rfl,hb,hlen,_⟩:=h5;have e2:Ao T W.om (.lf i j)=W.om (.lf r j):=by simp[Ao,h4]
  rw[e2];exact OD h (by omega)
 row i g ls hp j hj:=by obtain⟨av,u',YW,tg,h1,h2,h3,h4,h5⟩:=hh.all hp;obtain⟨as,l,_,rfl,_,hl,_⟩:=h5;have:l[j]?=none:=List.getElem?_eq_none (by omega);simp[Ao,h4,this]
 fl k:=rfl
 nodup k:=Jo h hh k
 Av k k' Vv b hb Vz:=by obtain⟨a,ha,hb⟩:=Cb hh hb;obtain⟨a',ai,Vz⟩:=Cb hh Vz;refine h.sep.Av a a' (fun e=>Vv ?_) b hb Vz;subst e;exact Ba hh.nodup ha ai
 own k b hb:=by
  obtain⟨a,ha,hb⟩:=Cb hh hb;obtain⟨q1,q2,q3⟩:=h.sep.own a b hb;refine⟨?_,q2⟩
  rintro (hz|⟨r,hr,j,hz⟩)
  ·exact q1 hz
  ·have aN:a=.lf r j:=kg fun Vv=>h.sep.Av a _ Vv b hb hz;subst aN;exact hh.root ha hr
 fz b hb:=by
  rcases hb with hz|⟨r,hr,j,hz⟩
  ·exact(h.sep.fz b hz).1
  ·exact(h.sep.own _ b hz).2.1
end
end Go.Ev
namespace Go.Ev
mutual
theorem L.Fb:∀(l:L) {w:World} {fz Vp:Nat→Prop} {v:Value} {x:l.D} {o:List Nat},l.rd 2 w fz v x o→l.rd 2 w Vp v x o
 | .int _,_,_,_,_,_,_,h=>h
 | .bool,_,_,_,_,_,_,h=>h
 | .str,_,_,_,_,_,_,h=>h
 | .sl _ e,w,fz,Vp,v,x,o,h=>by
  obtain⟨A,c,hv,hc,h⟩:=h;refine⟨A,c,hv,hc,?_⟩;cases A with
  |none=>exact h
  |some a=>
   rcases h with h|⟨g,os,Vr,V5,ho⟩
   ·exact .inl h
   ·exact .inr ⟨g,os,Vr,fun i hi=>Ls.Fb e (V5 i hi),ho⟩
theorem Ls.Fb:∀(ls:Ls) {w:World} {fz Vp:Nat→Prop} {g:Nat→Option Value} {x:ls.D} {o:List Nat},ls.rd 2 w fz g x o→ls.rd 2 w Vp g x o
 | .nil,_,_,_,_,_,_,h=>h
 | .one l,_,_,_,_,_,_,h=>by simp only[Ls.rd]at h ⊢;obtain⟨v,hg,h⟩:=h;exact⟨v,hg,L.Fb l h⟩
 | .cons l ls,_,_,_,_,_,_,h=>by simp only[Ls.rd]at h ⊢;obtain⟨v,o1,o2,hg,h1,h2,rfl⟩:=h;exact⟨v,o1,o2,hg,L.Fb l h1,Ls.Fb ls h2,rfl⟩
end
def Conv(ls:List (L×Nat))(w:World)(fz Vp:Nat→Prop):Prop:=∀p∈ls,∀(l:L)(x:l.D)(y:Value)(o:List Nat),l=p.1→l.rd p.2 w fz y x o→l.rd p.2 w Vp y x o
theorem Conv.mono{ls:List (L×Nat)}{w:World}{fz Vp:Nat→Prop}(h:∀b,fz b→Vp b):Conv ls w fz Vp:=fun p _ l x y o _ hr=>L.AI l hr (fun _ _=>rfl) h
theorem Conv.fresh{ls:List (L×Nat)}(hf:fresh ls=true)(w:World)(fz Vp:Nat→Prop):Conv ls w fz Vp:=by
 intro p hp l x y o hl hr;have:=kL.1 hf p hp;simp only[kU,kJ,kI,j8]at this;obtain⟨l',m⟩:=p;dsimp only at hl this hr ⊢;subst hl;rcases this with((h1|h1)|h1)|⟨h1,h2⟩
 ·exact(L.Aa l h1 hr).1
 ·subst h1;exact L.Fb l hr
 ·subst h1;exact(L.CU l).2 (L.Fb l ((L.CU l).1 hr))
 ·subst h1;cases l with
  |sl t e=>
   obtain⟨A,c,hv,hc,h⟩:=hr;refine⟨A,c,hv,hc,?_⟩;cases A with
   |none=>exact h
   |some a=>
    rcases h with h|⟨g,os,Vr,V5,ho⟩
    ·exact .inl h
    ·exact .inr ⟨g,os,Vr,fun i hi=>(Ls.Aa e h2 (V5 i hi)).1,ho⟩
  |int k=>exact hr
  |bool=>exact hr
  |str=>exact hr
theorem FK.conv{w:World}{fz Vp:Nat→Prop}{g:Bool}{ls:List (L×Nat)}{u:Value}{vs:List Lv}{own:Nat→List Nat}(h:FK w fz g ls u vs own)(hc:Conv ls w fz Vp):FK w Vp g ls u vs own:=by
 obtain⟨h1,h2,h3⟩:=h;refine⟨h1,h2,fun j p lv hp W7=>?_⟩;obtain⟨y,hy,hr⟩:=h3 j p lv hp W7
 have hl:lv.l=p.1:=by have:=congrArg (·[j]?) h1;simp only[kN,hp,W7,lE,Option.some.injEq]at this;exact this
 exact⟨y,hy,hc p (kC hp) lv.l lv.x y _ hl hr⟩
theorem EH.conv{w:World}{fz Vp:Nat→Prop}{om:Nat→List Nat}:∀ {rs:List (Bool×List (L×Nat))} {rv:List Value} {Vn:List (List Lv)} {off:Nat},EH w fz om rs rv Vn off→Conv (rs.flatMap (·.2)) w fz Vp→EH w Vp om rs rv Vn off
 | [],[],[],_,h,hc=>h
 | [],[],_::_,_,h,hc=>h.elim
 | [],_::_,_,_,h,hc=>by simp[EH]at h
 |_::_,[],_,_,h,hc=>by simp[EH]at h
 |_::_,_::_,[],_,h,hc=>by simp[EH]at h
 |(g,ls)::rs,u::us,vs::Vn,off,h,hc=>
  ⟨FK.conv h.1 fun p hp=>hc p (by simp[hp]),EH.conv h.2 fun p hp=>hc p (by
   grind)⟩
theorem Jj.conv{w:World}{fz Vp:Nat→Prop}{pm:PM}{u:Value}{vs:List Lv}{AT:Nat}{own:Nat→List Nat}(h:Jj w fz pm u vs AT own)(hc:Conv pm.outs w fz Vp):Jj w Vp pm u vs AT own:=by
 cases pm with
 |val g ls=>exact h
 |fn f=>exact h
 |box ls=>
  obtain⟨h1,h2,arr,T,fr,q1,q2,q3,h3⟩:=h;refine⟨h1,h2,arr,T,fr,q1,q2,q3,fun j p lv hp W7=>?_⟩;obtain⟨y,hy,hr⟩:=h3 j p lv hp W7
  have hl:lv.l=p.1:=by have:=congrArg (·[j]?) h2;simp only[kN,hp,W7,lE,Option.some.injEq]at this;exact this
  exact⟨y,hy,hc p (kC hp) lv.l lv.x y _ hl hr⟩
 |row g ls=>exact FK.conv h hc
theorem Jj.len{w:World}{fz:Nat→Prop}{pm:PM}{u:Value}{vs:List Lv}{AT:Nat}{own:Nat→List Nat}(h:Jj w fz pm u vs AT own):vs.length=pm.outs.length:=by
 cases pm with
 |val g ls=>rw[show vs=[]from h];rfl
 |fn f=>rw[show vs=[]from h];rfl
 |box ls=>have:=congrArg List.length h.2.1;simpa[PM.outs]using this
 |row g ls=>have:=congrArg List.length h.1;simpa[PM.outs]using this
open Classical in
noncomputable def LH (T:Ia) (om qf:Key→List Nat) (fl:Nat→List Nat):Key→List Nat
 | .fl n=>fl n
 | .AT r=>if h:∃c,AU T c=some (.AT r)then qf h.choose else om (.AT r)
 | .lf r j=>if h:∃c,AU T c=some (.lf r j)then qf h.choose else om (.lf r j)
theorem LW{T:Ia}{c:Key}{n:Nat}:AU T c≠some (.fl n):=by
 intro h;cases c with
 |fl c=>cases h
 |AT i=>obtain⟨r,e,_⟩:=BO h;cases e
 |lf i j=>rcases BK h with⟨r,e,_⟩|⟨l,c,o,e,_⟩<;>cases e
open Classical in
theorem M9{T:Ia}(hn:(T.flatMap PT.EG).Pairwise NH){om qf:Key→List Nat}{fl:Nat→List Nat}{c k:Key}(h:AU T c=some k):LH T om qf fl k=qf c:=by
 have hex:∃c,AU T c=some k:=⟨c,h⟩;have hc:hex.choose=c:=Ba hn hex.choose_spec h;cases k with
 |fl n=>exact absurd h LW
 |AT r=>
  show(if h:∃c,AU T c=some (.AT r)then qf h.choose else om (.AT r))=_;grind
 |lf r j=>
  show(if h:∃c,AU T c=some (.lf r j)then qf h.choose else om (.lf r j))=_;grind
theorem M8{T:Ia}{om qf:Key→List Nat}{fl:Nat→List Nat}{k:Key}(h:∀c,AU T c≠some k)(hk:∀n,k≠.fl n):LH T om qf fl k=om k:=by
 have hex:¬ ∃c,AU T c=some k:=fun⟨c,hc⟩=>h c hc;cases k with
 |fl n=>grind
 |AT r=>exact dif_neg hex
 |lf r j=>exact dif_neg hex
section
variable {P:Program}{E:Cy}{s:St}{W:Wd}{v:Nat}{tm:Array Value}{cx:Cx}
theorem J1(h:AW E s tm W)(hv:Af s v){ks:List (L×Nat)}{rs:List Nat}{fs:List Wr}{w':World}{Vp:Nat→Prop}(hf:(if fresh ks then some []else Az cx s rs)=some fs):
  ∃W1 fzB,AW E (s.app fs) tm W1∧Ji s (s.app fs) W W1 rs∧(∀b,W1.fz b→fzB b)∧(∀b,fzB b→W1.fz b∨(Vp b∧(Seen W rs b→W1.fz b)))∧Conv ks w' Vp fzB:=by
 split at hf
 ·rename_i We;injection hf with hf;subst hf
  exact⟨W,W.fz,h,⟨⟨rfl,rfl,fun _=>⟨rfl,rfl,rfl⟩⟩,rfl,rfl,rfl,fun _ _ _=>rfl,fun _ _=>.inl rfl,fun _ _ _=>rfl,fun _=>rfl,fun _ _ hb=>hb,fun _ hb=>hb,fun _ hb=>.inl hb⟩,fun _ hb=>hb,fun _ hb=>.inl hb,Conv.fresh We _ _ _⟩
 ·obtain⟨W1,h1,h2,h3⟩:=Eu h hv hf;exact⟨W1,fun b=>W1.fz b∨Vp b,h1,h2,fun b hb=>.inl hb,fun b hb=>hb.imp id fun hb=>⟨hb,h3 b⟩,Conv.mono fun b hb=>.inr hb⟩
theorem NO(h:AW E s tm W)(hv:Af s v){d:Nat}(hd:d<tm.size){g:Sm}{WC:List AV}{us:List Value}{Vn:List (List Lv)}{T:Ia}(hh:Handed s W g.ps WC us Vn T)
  {z:g.outs.D} {r:Value} {w':World} {Vp:Nat→Prop} {WR:Key→List Nat} {rv:List Value} {vsR vsP:List (List Lv)} (co:El g W.w (Seen W (Aj g.ps WC)) us (Fj T W.bk) (Ao T W.om) z r w' Vp WR rv vsR vsP)
  {fs pw:List Wr} {bs:List (Bool×List LA)} {own left:_} (hf:(if fresh g.Gx then some []else Az cx s (Aj g.ps WC))=some fs) (hb:D3 d v g.rs (unpack g.outs z) 0=some (bs,own,left)) (hp:AX s v g.ps WC left=some pw):
  ∃W',W'.w=w'∧AW E (s.app (fs++pw++[.root d ⟨false,v,own⟩,.slot d (Ku bs)])) (tm.setIfInBounds d r) W':=by
 have Vm:=GH h hh;obtain⟨W1,fzB,h1,We,Xv,Zm,ak⟩:=J1 (cx:=cx) (w':=w') (Vp:=Vp) h hv hf;have Zf:=We.H3 hv;have ZD:=EH.conv co.IG (Vp:=fzB) fun p hp=>ak p (kK _ hp)
 have X9:∀(i:Nat)(pm:PM)(u:Value)(vs:List Lv),g.ps[i]?=some pm→us[i]?=some u→vsP[i]?=some vs→Jj w' fzB pm u vs (Fj T W.bk i) fun j=>WR (.lf i j):=fun i pm u vs e1 e2 e3=>
  (co.each i pm u vs e1 e2 e3).conv fun p hp=>ak p (kH _ (kA.2 ⟨pm,kC e1,hp⟩))
 rw[co.outs]at hb;obtain⟨rfl,aA,ys,gV,YQ,fi⟩:=HW g.rs rv vsR vsP.flatten 0 ZD hb
 obtain⟨U,rfl,fy,hU⟩:=Gq (s:=s) (v:=v) g.ps WC vsP co.len (fun i pm vs e1 e2=>by
  obtain⟨av,u,_,_,_,q2,_⟩:=hh.all e1;exact(X9 i pm u vs e1 q2 e2).len) hp
 have fb:∀ {i:Nat} {m:PT},T[i]?=some m→∃pm av u vs vo uo,g.ps[i]?=some pm∧WC[i]?=some av∧us[i]?=some u∧vsP[i]?=some vo∧U[i]?=some uo∧HI s W pm av m u vs∧NM s v pm av vo uo∧Jj w' fzB pm u vo (Fj T W.bk i) (fun j=>WR (.lf i j)):=by intro i m hT;obtain⟨pm,av,u,vs,e1,e2,e3,e4,e5⟩:=hh.Pg hT;have hi:i<g.ps.length:=(j9.1 e1).1;obtain⟨vo,e6⟩:=BA co.len hi;obtain⟨uo,e7⟩:=BA fy hi;exact⟨pm,av,u,vs,vo,uo,e1,e2,e3,e6,e7,e5,hU i pm av vo uo e1 e2 e6 e7,X9 i pm u vo e1 e3 e6⟩
 have aQ:∀u∈U.flatten,(∃(i:Nat) (ls:List (L×Nat)) (vo:List Lv),T[i]?=some (.box u.r)∧U[i]?=some [u]∧u=⟨u.r,0,AY s u.r v 0 ls vo⟩∧vo.length=ls.length∧(s.root u.r).box=true∧(s.root u.r).ls.length=ls.length) ∨
   (∃(i:Nat) (l:List (Option (Loc×List Nat))) (j:Nat) (c:Loc) (o:List Nat) (g':Bool) (ls:List (L×Nat)) (as:List LA) (vo:List Lv),T[i]?=some (.row l)∧l[j]?=some (some (c,o))∧g.ps[i]?=some (.row g' ls)∧WC[i]?=some (.v g' as)∧vsP[i]?=some vo∧E5 s v ls as vo j u∧u.r=c.r∧u.lo=c.j∧u.news.length=1∧c.r<s.ro.length∧c.j<(s.root c.r).ls.length):=by
  intro u hu;obtain⟨uo,hm,hu⟩:=List.mem_flatten.1 hu;obtain⟨i,hi⟩:=ko hm;have Vs:i<g.ps.length:=by rw[←fy];exact(j9.1 hi).1
  obtain⟨m,hT⟩:=BA hh.l4 Vs;obtain⟨pm,av,u',vs,vo,uo',e1,e2,e3,e4,e5,e6,e7,e8⟩:=fb hT;rw[hi]at e5;injection e5 with e5;subst e5
  cases pm with
  |val g' ls=>rw[show uo=[]from e7]at hu;cases hu
  |fn f=>rw[show uo=[]from e7]at hu;cases hu
  |box ls=>
   obtain⟨r,AA,q1,q2⟩:=e7;obtain⟨r',Z9,q3,rfl,q4,q5,_⟩:=e6;rw[q1]at q3;injection q3 with _ q3;injection q3 with q3;injection q3 with q3
   subst q3;subst q2;have:=km.1 hu;subst this;exact .inl ⟨i,ls,vo,hT,hi,rfl,by simpa[PM.outs]using e8.len,q4,q5⟩
  |row g' ls=>
   obtain⟨as,l,rfl,rfl,q3,q4,q5,q6,q7⟩:=e6;obtain⟨g2,as2,q8,q9⟩:=e7;injection q8 with q8 fm;subst q8;subst fm
   obtain⟨j,hj⟩:=q9.1 u hu;have cF:=hj;obtain⟨p,c,lv2,AA,gen,t0,e0,xs0,d0,F,h1,h2,h3,h4,h5,h6,rfl⟩:=hj;have bT:j<ls.length:=(j9.1 h1).1;have WX:vs.length=ls.length:=by have:=congrArg List.length q5;simpa using this
   obtain⟨lv,W7⟩:=BA WX bT;obtain⟨o,ho⟩:=BA q4 bT;obtain⟨y,hy,hr⟩:=q7 j p _ lv o h1 h3 W7 ho
   have hl:lv.l=p.1:=by have:=congrArg (·[j]?) q5;simp only[kN,h1,W7,lE,Option.some.injEq]at this;exact this
   obtain⟨a1,a2⟩:=HA h5;rcases hr with⟨hs,_⟩|⟨_,k0,_⟩|⟨c',o',_,_,_,_,_,_,_,_,k1,k2,_⟩
   ·rw[hl,h2]at hs;cases hs
   ·cases k0
   ·injection k1 with k1;subst k1;subst k2
    exact .inr ⟨i,l,j,c,o',_,ls,as,vo,hT,ho,e1,e2,e4,cF,rfl,rfl,rfl,a1,a2⟩
 have WH:∀u∈U.flatten,(u.news=[]∨u.r<(s.app fs).ro.length)∧u.lo+u.news.length≤((s.app fs).root u.r).ls.length:=by
  intro u hu;rw[We.same.len,(We.same.box u.r).2.2];rcases aQ u hu with⟨i,ls,vo,hT,aK,he,WX,hb,hl⟩|⟨i,l,j,c,o,g',ls,as,vo,hT,hl,e1,e2,e3,hr,q1,q2,q3,q4,q5⟩
  ·refine⟨.inr (Ja hb),?_⟩;rw[hl,he];simp[DE s u.r v 0 ls vo WX]
  ·rw[q1,q2,q3];exact⟨.inr q4,q5⟩
 obtain⟨WM,WL⟩:=IX U.flatten (s.app fs) WH;rw[BF,BF];generalize s.app fs=s1 at h1 We WH WM WL Zf;generalize s1.app (Ek U.flatten)=s2 at WM WL
 have eV:∀u∈U.flatten,∀r j,r=u.r∧u.lo≤j∧j<u.lo+u.news.length→∃c,AU T c=some (.lf r j):=by
  intro u hu r j hc;rcases aQ u hu with⟨i,ls,vo,hT,aK,he,WX,hb,hl⟩|⟨i,l,jj,c,o,g',ls,as,vo,hT,hl,e1,e2,e3,hr,q1,q2,q3,q4,q5⟩
  ·exact⟨.lf i j,by rw[hc.1];simp[AU,hT]⟩
  ·have:j=c.j:=by omega
   subst this;exact⟨.lf i jj,by rw[hc.1,q1];simp[AU,hT,hl]⟩
 have gU:∀(r j:Nat),(∀c,AU T c≠some (.lf r j))→s2.leaf r j=s1.leaf r j:=by
  intro r j hn;rw[WL]
  exact J0 r j _ _ fun u hu hc=>by obtain⟨c,hk⟩:=eV u hu r j hc;exact hn c hk
 have Yt:∀k,∀b∈Ao T W.om k,∃a,AU T k=some a∧b∈W.om a:=fun k b hb=>Cb hh hb;have cu:∀b,W1.fz b→b<W.w.heap.size∧∀k,b∉Ao T W.om k:=fun b hb=>⟨Vm.fz b (We.fz b hb),fun k hk=>(Vm.own k b hk).1 (We.fz b hb)⟩
 have bQ:∀k,(∀c,AU T c≠some k)→∀b∈W1.om k,b<W.w.heap.size∧∀c,b∉Ao T W.om c:=by intro k hk b hb;have ZH:=We.sub k b hb;refine⟨(h.sep.own k b ZH).2.1,fun c hc=>?_⟩;obtain⟨a,ha,XP⟩:=Yt c b hc;exact h.sep.Av k a (fun e=>hk c (e▸ha)) b ZH XP
 have ZI:∀ {i r:Nat},T[i]?=some (.box r)→∃(ls:List (L×Nat)) (vo:List Lv) (arr:Array Value) (T':TypeId) (fr:Nat×Nat),(s.root r).ls.length=ls.length∧vo.length=ls.length∧w'.heap[W1.bk r]?=some (.cells arr T' fr)∧(∀j,j<arr.size→¬(fr.1≤j∧j<fr.2))∧arr.size=ls.length∧
   (∀(j:Nat)(p:L×Nat)(lv:Lv),ls[j]?=some p→vo[j]?=some lv→∃y,arr[j]?=some y∧lv.l.rd p.2 w' fzB y lv.x (WR (.lf i j)))∧(∀j,s2.leaf r j=if j<ls.length then nth .bad (AY s r v 0 ls vo) j else .bad)∧∀(j:Nat)(p:L×Nat),ls[j]?=some p→p.2=3→arr[j]?=W.cv r j:=by
  intro i r hT;obtain⟨pm,av,u',vs,vo,uo,e1,e2,e3,e4,e5,e6,e7,e8⟩:=fb hT;cases pm with
  |val g' ls=>cases e6.1
  |fn f=>cases e6.1
  |row g' ls=>obtain⟨_,_,_,q,_⟩:=e6;cases q
  |box ls=>
   obtain⟨r',Z9,q3,q4,X8,hlen,_⟩:=e6;injection q4 with q4;subst q4
   obtain⟨r2,ver2,q5,q6⟩:=e7;rw[q5]at q3;injection q3 with _ q3;injection q3 with q3;injection q3 with q3
   subst q3;subst q6;have WX:vo.length=ls.length:=by simpa[PM.outs]using e8.len
   obtain⟨b1,b2,arr,T',fr,b3,b4,b5,b6⟩:=e8;have Zb:Fj T W.bk i=W1.bk r2:=by rw[We.bk];simp[Fj,hT]
   rw[Zb]at b3
   have er:∀(j:Nat)(p:L×Nat),ls[j]?=some p→p.2=3→arr[j]?=W.cv r2 j:=by intro j p hj hp;have hq:=co.kept i ls j p e1 hj hp;obtain⟨_,q2⟩:=h.roots r2;rw[kF X8]at q2;obtain⟨_,arr0,T0,fr0,k1,_,_,k2⟩:=q2;rw[k2];rw[Zb]at hq;have gC:=b3;rw[We.bk]at hq gC;simpa[World.cell?,gC,k1]using hq
   refine⟨ls,vo,arr,T',fr,hlen,WX,b3,b4,b5,b6,fun j=>?_,er⟩;have XM:=DE s r2 v 0 ls vo WX;split
   ·rename_i hj;rw[WL];refine JH r2 j U.flatten _ (fun u hu hc=>?_) (.inr ⟨⟨r2,0,AY s r2 v 0 ls vo⟩,List.mem_flatten.2 ⟨_,kC e5,List.mem_singleton_self _⟩,rfl,Nat.zero_le _,by rw[XM];omega⟩);rcases aQ u hu with⟨i',ZP,fq,WY,aK,he,_⟩|⟨i',l,jj,c,o,g',ZP,as,fq,WY,hl,_,_,_,hr,q1,q2,q3,_⟩
    ·have YK:Key.AT i'=.AT i:=Ba hh.nodup (a:=.AT r2) (by rw[hc.1];simp[AU,WY]) (by simp[AU,hT]);injection YK with YK;subst YK
     rw[e5]at aK;injection aK with aK;injection aK with aK;subst aK
     simp
    ·have:j=c.j:=by omega
     subst this;have YK:Key.lf i' jj=.lf i c.j:=Ba hh.nodup (a:=.lf r2 c.j) (by rw[hc.1,q1];simp[AU,WY,hl]) (by simp[AU,hT]);injection YK with YK;subst YK
     rw[hT]at WY;cases WY
   ·rename_i hj;unfold St.leaf;rw[A6];rw[(WM.box r2).2.2,(We.same.box r2).2.2,hlen];omega
 have Z4:∀ {i jj:Nat} {l:List (Option (Loc×List Nat))} {c:Loc} {o:List Nat},T[i]?=some (.row l)→l[jj]?=some (some (c,o))→∃(q:List Nat) (AA gen:Nat) (t t0:TypeId) (e:Ls) (xs WW:List e.D) (d0:Nat) (u:Value),s.leaf c.r c.j=.arr AA gen t e xs d0∧s2.leaf c.r c.j=.arr AA v t0 e WW d0∧W1.cv c.r c.j=some u∧AD e d0 w' fzB u WW q∧N9 (W.om (.lf c.r c.j)) o (WR (.lf i jj)) q:=by
  intro i jj l c o hT hl;obtain⟨pm,av,u',vs,vo,uo,e1,e2,e3,e4,e5,e6,e7,e8⟩:=fb hT;cases pm with
  |val g' ls=>cases e6.1
  |fn f=>cases e6.1
  |box ls=>obtain⟨_,_,_,q,_⟩:=e6;cases q
  |row g' ls=>
   obtain⟨g2,ls2,as,u2,vs2,p,lv,y,f1,f2,f3,f4,f5,f6,f7,f8,f9,f10,hr⟩:=hh.Od hT hl;rw[e1]at f1;injection f1 with f1;injection f1 with f1 gh;subst f1;subst gh
   rw[e2]at f2;injection f2 with f2;subst f2
   rw[e3]at f3;injection f3 with f3;subst f3
   obtain⟨g3,as3,q8,q9⟩:=e7;injection q8 with q8 fm;subst q8;subst fm
   obtain⟨u,hu,gQ⟩:=q9.2 jj p f5 f8 (by rcases hr with⟨_,h0,_⟩|⟨_,_,h0,_⟩|⟨_,_,_,_,_,_,_,_,_,_,_,_,_,Vv,_⟩;cases h0;cases h0;exact Vv);have fW:=gQ;obtain⟨p',c',lo,AA,gen,t0,e0,xs0,d0,F,XS,X7,b9,gm,eM,gn,cL⟩:=gQ;rw[f5]at XS;injection XS with XS;subst XS
   rw[f6]at b9;injection b9 with b9;injection b9 with b9;subst b9
   have hk:AU T (.lf i jj)=some (.lf c.r c.j):=by simp[AU,hT,hl]
   have Vl:s2.leaf c.r c.j=.arr AA v t0 e0 (F xs0) d0:=by
    rw[WL];have a8:nth .bad u.news (c.j-u.lo)=.arr AA v t0 e0 (F xs0) d0:=by rw[cL];simp[nth]
    refine JH c.r c.j U.flatten _ (fun u2 cK hc=>?_) (.inr ⟨u,List.mem_flatten.2 ⟨_,kC e5,hu⟩,by rw[cL];simp⟩);rcases aQ u2 cK with⟨i',ZP,fq,WY,aK,he,_⟩|⟨i',l',j',c',o',g',ZP,Yy,fq,WY,Ws,g1,g2,g3,WV,q1,q2,q3,_⟩
    ·have YK:Key.lf i' c.j=.lf i jj:=Ba hh.nodup (a:=.lf c.r c.j) (by rw[hc.1];simp[AU,WY]) hk;injection YK with YK;subst YK
     rw[hT]at WY;cases WY
    ·have dz:c.j=c'.j:=by omega
     have YK:Key.lf i' j'=.lf i jj:=Ba hh.nodup (a:=.lf c.r c.j) (by rw[hc.1,q1,dz];simp[AU,WY,Ws]) hk;injection YK with YK eC;subst YK;subst eC
     rw[e1]at g1;injection g1 with g1;injection g1 with g1 gj;subst g1;subst gj
     rw[e2]at g2;injection g2 with g2;injection g2 with g2 gk;subst gk
     rw[e4]at g3;injection g3 with g3;subst g3
     rw[←WV.uniq fW]at a8;exact a8
   obtain⟨m1,m2,m3⟩:=(show FK w' fzB _ ls u' vo (fun j=>WR (.lf i j))from e8);obtain⟨y',X5,XE⟩:=m3 jj p lo f5 gm;rw[f10]at X5;injection X5 with X5;subst X5
   rcases hr with⟨_,k0,_⟩|⟨_,k0,_⟩|⟨c2,o2,gen2,t2,b8,xs2,ek,t',e',ys,k1,k2,k3,_,k4,k5,k6,k7,k8,k9,k10⟩
   ·cases k0
   ·cases k0
   ·injection k1 with k1;subst k1
    injection k2 with k2;injection k2 with k2 iZ;subst iZ
    rw[eM]at k3;injection k3 with a1 a2 a3 a4 a5 a6
    subst a1;subst a2;subst a3;subst a4;have a5:=eq_of_heq a5;subst a5;obtain⟨uu,eI,Vw⟩:=(h.roots c.r).row eM;rw[k5]at eI;injection eI with eI;subst eI
    rw[a6]at Vw;obtain⟨t3,fn,zs,po,n1,n2,n3,n4,n5⟩:=OR c.p gn Vw k6 k4 (h.sep.nodup _);obtain⟨z1,z2⟩:=n2.uniq k8;subst z1;subst z2
    have XI:lo.l=.sl t3 e'∧∃fv,HEq lo.x fv∧fn zs=fv:=by
     unfold Oc at n1;split at n1
     ·rename_i yy iX;obtain⟨b1,b2⟩:=L.AH iX;injection n1 with n1
      refine⟨b1,yy,?_,by rw[←n1]⟩;obtain⟨ll,xx⟩:=lo;dsimp only at b1 b2 ⊢;subst b1;exact heq_of_eq b2
     ·cases n1
    obtain⟨dD,fv,dE,ew⟩:=XI
    have bj:AD e' p.2 w' fzB y (fn zs) (WR (.lf i jj)):=by obtain⟨ll,xx⟩:=lo;dsimp only at dD dE XE;subst dD;have:=eq_of_heq dE;subst this;rw[ew];exact XE
    obtain⟨q,dR,dS⟩:=n5 w' fzB (WR (.lf i jj)) bj {
     nd:=co.nodup _
     new:=fun b hb gD=>by
      rcases(co.own _ b hb).2.2 with Wg|⟨k0,Zd⟩
      ·have:=(h.sep.own _ b gD).2.1;omega
      ·obtain⟨a,ha,cX⟩:=Yt k0 b Zd;have:a=.lf c.r c.j:=kg fun Vv=>h.sep.Av a _ Vv b cX gD;subst this;have:=Ba hh.nodup ha hk;subst this;have e9:Ao T W.om (.lf i jj)=po:=by simp[Ao,hT,hl]
       rw[←e9];exact Zd
     rest:=fun b hb=>by
      refine co.frame b ?_ fun k0 Zd=>?_
      ·rcases hb with hb|hb
       ·exact(h.sep.own _ b hb.1).2.1
       ·exact(h.sep.fz b hb).1
      ·rcases hb with hb|hb
       ·obtain⟨a,ha,cX⟩:=Yt k0 b Zd;have:a=.lf c.r c.j:=kg fun Vv=>h.sep.Av a _ Vv b cX hb.1;subst this;have:=Ba hh.nodup ha hk;subst this;have e9:Ao T W.om (.lf i jj)=po:=by simp[Ao,hT,hl]
        rw[e9]at Zd;exact hb.2 Zd
       ·exact(Vm.own k0 b Zd).1 (.inl hb)
     fz:=fun b hb=>Xv b (We.up b hb) }
    exact⟨q,_,_,_,t0,e0,xs0,F xs0,d0,ek,eM,Vl,by rw[We.cv];exact k5,by rw[a6];exact dR,dS⟩
 have iF:∀c,∃q:List Nat,∀k,AU T c=some k→q.Nodup∧(∀b∈q,b∈WR c∨(b∈W1.om k∧b<W.w.heap.size∧∀c',b∉Ao T W.om c'))∧(∀r,k=.AT r→q=WR c)∧
   (∀i j r,c=.lf i j→T[i]?=some (.box r)→q=if j<(s.root r).ls.length then WR c else [])∧
   (∀i j l cc o,c=.lf i j→T[i]?=some (.row l)→l[j]?=some (some (cc,o))→∃(AA gen:Nat) (t t0:TypeId) (e:Ls) (xs WW:List e.D) (d0:Nat) (u:Value),s.leaf cc.r cc.j=.arr AA gen t e xs d0∧s2.leaf cc.r cc.j=.arr AA v t0 e WW d0∧W1.cv cc.r cc.j=some u∧AD e d0 w' fzB u WW q):=by
  intro c;cases hk:AU T c with
  |none=>exact⟨[],fun k Wq=>by cases Wq⟩
  |some k=>
   cases c with
   |fl n=>cases hk
   |AT i=>
    obtain⟨r,rfl,hT⟩:=BO hk;refine⟨WR (.AT i),fun k Wq=>?_⟩;injection Wq with Wq;subst Wq
    exact⟨co.nodup _,fun b hb=>.inl hb,fun _ _=>rfl,fun _ _ _ e=>by(cases e),fun _ _ _ _ _ e=>by(cases e)⟩
   |lf i j=>
    rcases BK hk with⟨r,rfl,hT⟩|⟨l,cc,o,rfl,hT,hl⟩
    ·refine⟨if j<(s.root r).ls.length then WR (.lf i j)else [],fun k Wq=>?_⟩;injection Wq with Wq;subst Wq
     refine⟨?_,?_,fun _ e=>by(cases e),?_,?_⟩
     ·split
      ·exact co.nodup _
      ·exact kE
     ·intro b hb;split at hb
      ·exact .inl hb
      ·cases hb
     ·intro i' j' r' e WY;injection e with e1 e2;subst e1;subst e2
      rw[hT]at WY;injection WY with WY;injection WY with WY;subst WY
      rfl
     ·intro i' j' l' gZ o' e WY;injection e with e1 e2;subst e1;subst e2
      rw[hT]at WY;cases WY
    ·obtain⟨q,AA,gen,t,t0,e,xs,WW,d0,u,p1,p2,p3,p4,p5,p6⟩:=Z4 hT hl;refine⟨q,fun k Wq=>?_⟩;injection Wq with Wq;subst Wq
     have e9:Ao T W.om (.lf i j)=o:=by simp[Ao,hT,hl]
     refine⟨p5,fun b hb=>?_,fun _ e=>by(cases e),?_,?_⟩
     ·rcases p6 b hb with hb|⟨XP,XT⟩
      ·exact .inl hb
      ·refine .inr ⟨by rw[We.om _ _ (hh.root hk)];exact XP,(h.sep.own _ b XP).2.1,fun c' WS=>?_⟩;obtain⟨a,ha,cX⟩:=Yt c' b WS;have:a=.lf cc.r cc.j:=kg fun Vv=>h.sep.Av a _ Vv b cX XP;subst this;have:=Ba hh.nodup ha hk;subst this;rw[e9]at WS;exact XT WS
     ·intro i' j' r' e WY;injection e with e1 e2;subst e1;subst e2
      rw[hT]at WY;cases WY
     ·intro i' j' l' gZ o' e WY Ws;injection e with e1 e2;subst e1;subst e2
      rw[hT]at WY;injection WY with WY;injection WY with WY;subst WY
      rw[hl]at Ws;injection Ws with Ws;injection Ws with Ws;injection Ws with q1 q2;subst q1
      exact⟨AA,gen,t,t0,e,xs,WW,d0,u,p1,p2,p3,p4⟩
 obtain⟨qf,eF⟩:=Classical.axiomOfChoice iF
 let chb:Nat→Prop:=fun r=>∃i:Nat,T[i]?=some (.box r)
 let chk:Nat→Nat→Prop:=fun r j=>∃c,AU T c=some (.lf r j)
 let newcv:Nat→Nat→Option Value:=fun r j=>match w'.heap[W1.bk r]? with
  |some (.cells arr _ _)=>arr[j]?
  |_=>none
 open Classical in
 let W2:Wd:={
  w:=w'
  fz:=fzB
  cv:=fun r j=>if chb r then newcv r j else W1.cv r j
  bk:=W1.bk
  om:=LH T W1.om qf fun n=>WR (.fl n) }
 have hW2om:∀k,W2.om k=LH T W1.om qf (fun n=>WR (.fl n)) k:=fun _=>rfl;have ct:∀k,W2.om (.fl k)=WR (.fl k):=fun k=>rfl;have aM:∀ {c k},AU T c=some k→W2.om k=qf c:=fun hk=>M9 hh.nodup hk;have aL:∀ {k},(∀c,AU T c≠some k)→(∀n,k≠.fl n)→W2.om k=W1.om k:=fun hk hn=>M8 hk hn
 have ae:∀k,∀b∈W2.om k,(∃c,(AU T c=some k∨∃n,k=.fl n∧c=.fl n)∧b∈WR c)∨(b∈W1.om k∧b<W.w.heap.size∧∀c,b∉Ao T W.om c):=by
  intro k b hb;by_cases hk:∃c,AU T c=some k
  ·obtain⟨c,hk⟩:=hk;rw[aM hk]at hb;rcases(eF c k hk).2.1 b hb with hb|hb
   ·exact .inl ⟨c,.inl hk,hb⟩
   ·exact .inr hb
  ·have hk:∀c,AU T c≠some k:=fun c hc=>hk ⟨c,hc⟩;by_cases hn:∃n,k=.fl n
   ·obtain⟨n,rfl⟩:=hn;exact .inl ⟨.fl n,.inr ⟨n,rfl,rfl⟩,hb⟩
   ·rw[aL hk fun n e=>hn ⟨n,e⟩]at hb;exact .inr ⟨hb,bQ k hk b hb⟩
 have fE:∀c,∀b∈WR c,¬fzB b:=by
  intro c b hb hz;obtain⟨q1,q2,q3⟩:=co.own c b hb;rcases Zm b hz with hz|⟨hz,Z5⟩
  ·obtain⟨p1,p2⟩:=cu b hz;rcases q3 with q3|⟨k0,q3⟩
   ·omega
   ·exact p2 k0 q3
  ·exact q1 hz
 have Y8:∀b,(b<W.w.heap.size∧∀c,b∉Ao T W.om c)→∀c,b∉WR c:=by
  intro b hb c hc;rcases(co.own c b hc).2.2 with q|⟨k0,q⟩
  ·omega
  ·exact hb.2 k0 q
 have XR:Sep E W2:={
  nodup:=by
   intro k;by_cases hk:∃c,AU T c=some k
   ·obtain⟨c,hk⟩:=hk;rw[aM hk];exact(eF c k hk).1
   ·have hk:∀c,AU T c≠some k:=fun c hc=>hk ⟨c,hc⟩;by_cases hn:∃n,k=.fl n
    ·obtain⟨n,rfl⟩:=hn;exact co.nodup _
    ·rw[aL hk fun n e=>hn ⟨n,e⟩];exact h1.sep.nodup _
  Av:=by
   intro k k' Vv b hb Vz;rcases ae k b hb with⟨c,hc,hb⟩|⟨hb,gy⟩
   ·rcases ae k' b Vz with⟨c',WS,Vz⟩|⟨Vz,cp⟩
    ·refine co.Av c c' (fun e=>Vv ?_) b hb Vz;subst e;rcases hc with q|⟨n,q1,q2⟩
     ·rcases WS with q'|⟨n',gY,cO⟩
      ·rw[q]at q';injection q'
      ·subst cO;cases q
     ·rcases WS with q'|⟨n',gY,cO⟩
      ·subst q2;cases q'
      ·rw[q2]at cO;injection cO with cO;rw[q1,gY,cO]
    ·exact Y8 b cp c hb
   ·rcases ae k' b Vz with⟨c',WS,Vz⟩|⟨Vz,cp⟩
    ·exact Y8 b gy c' Vz
    ·exact h1.sep.Av k k' Vv b hb Vz
  own:=by
   intro k b hb;rcases ae k b hb with⟨c,hc,hb⟩|⟨hb,p1,p2⟩
   ·obtain⟨q1,q2,q3⟩:=co.own c b hb;refine⟨fE c b hb,q2,?_⟩;rcases q3 with q3|⟨k0,q3⟩
    ·left;have:=h.sep.size;omega
    ·obtain⟨a,_,ha⟩:=Yt k0 b q3;exact(h.sep.own a b ha).2.2
   ·obtain⟨q1,q2,q3⟩:=h1.sep.own k b hb;refine⟨fun hz=>?_,lB p1 co.size,q3⟩;rcases Zm b hz with hz|⟨hz,Z5⟩
    ·exact q1 hz
    ·rcases(co.fz b hz).2 with h3|h3|⟨k0,h3⟩
     ·exact q1 (Z5 h3)
     ·omega
     ·exact p2 k0 h3
  fz:=by
   intro b hb;rcases Zm b hb with hz|⟨hz,Z5⟩
   ·have:=h1.sep.fz b hz;rw[We.w]at this;exact⟨lB this.1 co.size,this.2⟩
   ·obtain⟨q1,q2⟩:=co.fz b hz;refine⟨q1,?_⟩;rcases q2 with q2|q2|⟨k0,q2⟩
    ·rcases q2 with q2|⟨r,hr,j,q2⟩
     ·exact(h.sep.fz b q2).2
     ·exact .inr (h.sep.own _ b q2).2.2
    ·right;left;have:=h.sep.size;omega
    ·obtain⟨a,_,ha⟩:=Yt k0 b q2;exact .inr (h.sep.own a b ha).2.2
  frame:=by
   intro b XP XT;refine(co.frame b (by have:=h.sep.size;omega) fun k hk=>?_).trans (h.sep.frame b XP XT);obtain⟨a,_,ha⟩:=Yt k b hk;rcases(h.sep.own a b ha).2.2 with q|q
   ·omega
   ·exact XT q
  size:=kv h.sep.size co.size
  rest:=⟨co.rest.1.trans h.sep.rest.1,co.rest.2.1.trans h.sep.rest.2.1,co.rest.2.2.trans h.sep.rest.2.2⟩ }
 have ab:Jl s s2:=⟨WM.sl.trans We.same.sl,WM.len.trans We.same.len,fun x=>⟨(WM.box x).1.trans (We.same.box x).1,(WM.box x).2.1.trans (We.same.box x).2.1,(WM.box x).2.2.trans (We.same.box x).2.2⟩⟩;have bL:∀r,¬chb r→∀j,W2.cv r j=W1.cv r j:=fun r hr j=>kG hr;have bK:∀r,chb r→∀j,W2.cv r j=newcv r j:=fun r hr j=>kF hr
 have ZL:∀ {i j r j0:Nat} {l:List (Option (Loc×List Nat))} {c:Loc} {o:List Nat},T[i]?=some (.row l)→l[j]?=some (some (c,o))→¬chb c.r:=by
  rintro i j r j0 l c o hT hl ⟨i',WY⟩
  have YK:Key.lf i' c.j=.lf i j:=Ba hh.nodup (a:=.lf c.r c.j) (by simp[AU,WY]) (by simp[AU,hT,hl]);injection YK with YK;subst YK
  rw[hT]at WY;cases WY
 have Z3:AW E s2 tm W2:=by
  refine h1.Mf Zf WM chk chb (fun r j hn=>gU r j fun c hc=>hn ⟨c,hc⟩) bL (fun r j ⟨i,hT⟩=>⟨.lf i j,by simp[AU,hT]⟩) (fun _=>rfl) ?_ ?_ ?_ (fun b hb=>Xv b hb) ?_ XR ?_ ?_
  ·intro r j hn;exact aL (fun c hc=>hn ⟨c,hc⟩) fun n e=>by cases e
  ·intro r;by_cases hk:∃c,AU T c=some (.AT r)
   ·obtain⟨c,hk⟩:=hk;rw[aM hk,(eF c _ hk).2.2.1 r rfl];cases c with
    |fl c=>cases hk
    |lf i j=>rcases BK hk with⟨r',e,_⟩|⟨l,c,o,e,_⟩<;>cases e
    |AT i=>
     obtain⟨r',e,hT⟩:=BO hk;injection e with e;subst e
     rw[co.AT,We.Pl];simp[Ao,hT]
   ·exact aL (fun c hc=>hk ⟨c,hc⟩) fun n e=>by cases e
  ·intro b hb
   have:b<W.w.heap.size∧∀k,b∉Ao T W.om k:=by
    rcases hb with hb|⟨r,hr,hb⟩|⟨r,j,hr,hb⟩
    ·exact cu b hb
    ·refine bQ (.AT r) (fun c hc=>?_) b hb;cases c with
     |fl c=>cases hc
     |AT i=>obtain⟨r',e,hT⟩:=BO hc;injection e with e;subst e;exact hr ⟨i,hT⟩
     |lf i j=>rcases BK hc with⟨r',e,_⟩|⟨l,c,o,e,_⟩<;>cases e
    ·exact bQ (.lf r j) (fun c hc=>hr ⟨c,hc⟩) b hb
   show w'.heap[b]?=_;rw[co.frame b this.1 this.2,We.w]
  ·intro r j AA gen t e xs d0 hc hl Vv;obtain⟨c,hk⟩:=hc;cases c with
   |fl c=>cases hk
   |AT i=>obtain⟨r',e,hT⟩:=BO hk;cases e
   |lf i jj=>
    rcases BK hk with⟨r',e,hT⟩|⟨l,cc,o,e,hT,aE⟩
    ·injection e with e1 e2;subst e1;subst e2
     obtain⟨ls,vo,arr,T',fr,c1,c2,c3,c4,c5,c6,c7,c8⟩:=ZI hT;rw[c7]at hl;split at hl
     ·rename_i hj;have cG:j<vo.length:=by omega
      rw[Ai,CO s r v 0 ls vo j ls[j] vo[j] (j7 hj) (j7 cG),kO]at hl;rcases DD (s.leaf r j) v ls[j].2 vo[j]with hq|⟨ver0,gen0,t0,e0,xs0,y0,q1,q2,q3,q4⟩
      ·rw[hq]at hl;exact absurd (KH hl).1 Vv
      ·rw[q4]at hl
       replace hl:LA.arr ver0 v t0 e0 y0 2=.arr AA gen t e xs d0:=hl
       injection hl with f1 f2 f3 f4 f5 f6
       subst f1;subst f2;subst f4;refine⟨?_,gen0,t0,xs0,2,by rw[We.leaf _ _ (hh.root hk)];exact q2,fun hg=>absurd rfl hg⟩;rw[bK r ⟨i,hT⟩ j,We.cv,←c8 j ls[j] (j7 hj) q1]
       show(match w'.heap[W1.bk r]? with
        |some (.cells arr _ _)=>arr[j]?
        |_=>none)=_
       rw[c3]
     ·cases hl
    ·injection e with e1 e2;subst e1;subst e2
     obtain⟨_,ver0,gen0,t1,t0,e0,xs0,WW,d1,u,c1,c2,c3,c4⟩:=Z4 hT aE;rw[c2]at hl;injection hl with f1 f2 f3 f4 f5 f6
     subst f1;subst f2;subst f4;exact⟨bL _ (ZL hT aE (r:=0) (j0:=0)) _,gen0,t1,xs0,d1,by rw[We.leaf _ _ (hh.root hk)];exact c1,fun hg=>absurd rfl hg⟩
  ·intro WD r j hc;obtain⟨c,hk⟩:=hc;cases c with
   |fl c=>cases hk
   |AT i=>obtain⟨r',e,hT⟩:=BO hk;cases e
   |lf i jj=>
    rw[aM hk];obtain⟨_,_,_,iG,iH⟩:=eF _ _ hk;rcases BK hk with⟨r',e,hT⟩|⟨l,cc,o,e,hT,aE⟩
    ·injection e with e1 e2;subst e1;subst e2
     obtain⟨ls,vo,arr,T',fr,c1,c2,c3,c4,c5,c6,c7,c8⟩:=ZI hT;rw[iG i j r rfl hT,c1]
     have WE:W2.cv r j=arr[j]?:=by
      rw[bK r ⟨i,hT⟩ j]
      show(match w'.heap[W1.bk r]? with
       |some (.cells arr _ _)=>arr[j]?
       |_=>none)=_
      rw[c3]
     rw[c7,WE];by_cases hj:j<ls.length
     ·rw[kF hj,kF hj];have cG:j<vo.length:=by omega
      obtain⟨y,hy,hr⟩:=c6 j ls[j] vo[j] (j7 hj) (j7 cG);rw[Ai,CO s r v 0 ls vo j ls[j] vo[j] (j7 hj) (j7 cG),hy];rcases DD (s.leaf r (0+j)) v ls[j].2 vo[j]with hq|⟨ver0,gen0,t0,e0,xs0,y0,q1,q2,q3,q4⟩
      ·rw[hq];exact FZ hr
      ·rw[q4];refine⟨y,rfl,?_⟩;rw[q1]at hr;generalize vo[j]=lv at q3 hr;subst q3;exact(L.CU (.sl t0 e0)).1 hr
     ·rw[kG hj,kG hj];exact⟨rfl,fun _ _=>trivial⟩
    ·injection e with e1 e2;subst e1;subst e2
     obtain⟨ver0,gen0,t1,t0,e0,xs0,WW,d1,u,c1,c2,c3,c4⟩:=iH i jj l cc o rfl hT aE;rw[c2,bL cc.r (ZL hT aE (r:=0) (j0:=0)) cc.j];exact⟨u,c3,c4⟩
  ·rintro r ⟨i,hT⟩ X8
   obtain⟨ls,vo,arr,T',fr,c1,c2,c3,c4,c5,c6,c7,c8⟩:=ZI hT;refine⟨arr,T',fr,c3,c4,?_,fun j=>?_⟩
   ·rw[(We.same.box r).2.2,c5,c1]
   ·rw[bK r ⟨i,hT⟩ j]
    show(match w'.heap[W1.bk r]? with
     |some (.cells arr _ _)=>arr[j]?
     |_=>none)=_
    rw[c3]
 have bt:Af s2 v:=by
  refine⟨fun t=>?_,fun r j=>?_,hv.2.2⟩
  ·have:s2.slot t=s.slot t:=by show nth _ s2.sl t=_;rw[ab.sl];rfl
   rw[this];exact hv.1 t
  ·by_cases hc:chk r j
   ·obtain⟨c,hk⟩:=hc;cases c with
    |fl c=>cases hk
    |AT i=>obtain⟨r',e,hT⟩:=BO hk;cases e
    |lf i jj=>
     rcases BK hk with⟨r',e,hT⟩|⟨l,cc,o,e,hT,aE⟩
     ·injection e with e1 e2;subst e1;subst e2
      obtain⟨ls,vo,arr,T',fr,c1,c2,c3,c4,c5,c6,c7,c8⟩:=ZI hT;rw[c7];split
      ·rename_i hj;have cG:j<vo.length:=by omega
       rw[Ai,CO s r v 0 ls vo j ls[j] vo[j] (j7 hj) (j7 cG)];rcases DD (s.leaf r (0+j)) v ls[j].2 vo[j]with hq|⟨ver0,gen0,t0,e0,xs0,y0,q1,q2,q3,q4⟩
       rotate_left
       ·rw[q4];left;rfl
       rw[hq];generalize vo[j]=lv;obtain⟨l,x⟩:=lv;cases l with
       |sl t e=>cases ls[j].2 with
        |zero=>right;simp[BT,LA.AG]
        |succ m=>left;rfl
       |_=>right;simp[BT,LA.AG]
      ·right;simp[LA.AG]
     ·injection e with e1 e2;subst e1;subst e2
      obtain⟨_,ver0,gen0,t1,t0,e0,xs0,WW,d1,u,c1,c2,c3,c4⟩:=Z4 hT aE;rw[c2];exact .inl rfl
   ·rw[gU r j fun c WS=>hc ⟨c,WS⟩];exact Zf.2.1 r j
 have aw:∀(k:Nat)(b:LA),own[k]?=some b→∃y,ys[k]?=some y∧Fg w' fzB v b y (WR (.fl k)):=fun k b hk=>by have:=YQ k b hk;rwa[kO]at this
 let oj:Nat→List Nat:=fun k=>if k<own.length then WR (.fl k)else []
 have fG:∀k,∀b∈oj k,b∈WR (.fl k):=by
  intro k b hb;have hb:b∈(if k<own.length then WR (.fl k)else []):=hb;split at hb
  ·exact hb
  ·cases hb
 generalize aj:Ku bs=av;refine⟨AN W2 w' [] d (fun k=>ys[k]?) 0 [] oj,rfl,?_⟩;refine Z3.Kp bt (us:=[]) hd (x:=⟨false,v,own⟩) (a:=av) (u:=r) (w':=w') (cvd:=fun k=>ys[k]?) (bkd:=0) (ob:=[]) (oj:=oj) rfl ?_ (fun _ _=>rfl) (fun b h1 h2=>rfl) (kT _) ⟨rfl,rfl,rfl⟩ kE ?_ (fun _ _ hb=>by cases hb) ?_ ?_ ?_ ?_
 ·intro j AA gen t e xs dd hl;rw[Ai]at hl;cases hq:own[j]? with
  |none=>rw[hq]at hl;cases hl
  |some b=>
   rw[hq]at hl;obtain⟨y,_,ho⟩:=aw j b hq;have hl:b=.arr AA gen t e xs dd:=hl;subst hl;exact ho.1
 ·intro j;show(if j<own.length then WR (.fl j)else []).Nodup;split
  ·exact co.nodup _
  ·exact kE
 ·intro i j aC b hb Vz;exact co.Av (.fl i) (.fl j) (fun e=>aC (by injection e)) b (fG i b hb) (fG j b Vz)
 ·intro b hb;rcases hb with hb|⟨j,hb⟩
  ·cases hb
  ·exact .inl ⟨.fl j,fun hk=>hk,by rw[ct];exact fG j b hb⟩
 ·intro WD WG;refine⟨fun j=>?_,?_⟩
  ·have e1:(AN W2 w' [] d (fun k=>ys[k]?) 0 [] oj).cv d j=ys[j]?:=by simp[AN]
   have e2:(AN W2 w' [] d (fun k=>ys[k]?) 0 [] oj).om (.lf d j)=oj j:=by simp[AN]
   rw[e1,e2];show Ab _ _ (nth LA.bad own j) _ _;rw[Ai];cases hq:own[j]? with
   |none=>
    have hj:¬j<own.length:=by have:=List.getElem?_eq_none_iff.1 hq;omega
    have:oj j=[]:=kG hj;rw[this];exact⟨rfl,fun _ _=>trivial⟩
   |some b=>
    have hj:j<own.length:=(j9.1 hq).1;have:oj j=WR (.fl j):=kF hj;rw[this];obtain⟨y,hy,ho⟩:=aw j b hq;show Ab _ _ b _ _;rw[hy];cases b with
    |arr AA gen t e xs m=>exact⟨y,rfl,ho.2.2⟩
    |bad=>exact⟨ho,fun _ _=>trivial⟩
    |_=>exact ho.elim
  ·show(if false=true then _ else _);rw[kG (by simp)];simp[AN]
 ·intro WD WG
  have af:=fi (s2.app (gone []++[.root d ⟨false,v,own⟩,.slot d av])) (AN W2 w' [] d (fun k=>ys[k]?) 0 [] oj) rfl rfl (fun k hk=>by
   rw[kO];refine⟨?_,by simp[AN]⟩;unfold St.leaf;rw[WG])
  rw[co.res];generalize s2.app (gone []++[.root d ⟨false,v,own⟩,.slot d av])=s3 at af;generalize AN W2 w' [] d (fun k=>ys[k]?) 0 [] oj=W3 at af;rw[←aj]
  have di:∀ {bs:List (Bool×List LA)} {rv:List Value},bs.length=rv.length→(∀(i:Nat)(p:Bool×List LA)(u:Value),bs[i]?=some p→rv[i]?=some u→E6 s3 W3 p.1 p.2 u)→BU s3 W3 (.Dp bs) (.tuple rv.toArray):=by
   intro bs rv hl hh;refine⟨rv.toArray,rfl,by simp[hl],fun j p hj=>?_⟩;have Vs:j<rv.length:=by rw[←hl];exact(j9.1 hj).1
   exact⟨rv[j],by simp[Vs],hh j p rv[j] hj (j7 Vs)⟩
  match bs,rv,aA,af with
  | [],[],aA,af=>exact di aA af
  | [(g',as)],[u],aA,af=>exact af 0 (g',as) u rfl rfl
  |p::q::bs,u::u'::rv,aA,af=>exact di aA af
end
end Go.Ev
namespace Go.Ev
section
variable {P:Program}{E:Cy}{s:St}{W:Wd}{tm:Array Value}{v:Nat}
def F0(W:Wd)(w':World)(Vp:Nat→Prop)(b0:Nat):Wd:=
 { W with w:=w',fz:=fun x=>W.fz x∨Vp x,om:=fun k=>match k with
   | .fl n=>if n=0 then [b0]else []
   |k=>W.om k }
theorem AW.O7(h:AW E s tm W)(hv:Af s v){b0:Nat}{w':World}{Vp:Nat→Prop}
  (hold:∀b,b<W.w.heap.size→w'.heap[b]?=W.w.heap[b]?) (WZ:W.w.heap.size≤w'.heap.size) (V2:w'.os=W.w.os∧w'.tape=W.w.tape∧w'.output=W.w.output)
  (XA:∀x,Vp x→x<w'.heap.size∧(W.fz x∨W.w.heap.size≤x)) (hb:W.w.heap.size≤b0∧b0<w'.heap.size∧¬Vp b0):AW E s tm (F0 W w' Vp b0):=by
 have hs:=h.sep
 have YM:∀k b,b∈(F0 W w' Vp b0).om k→(b∈W.om k∧∀n,k≠.fl n)∨(k=.fl 0∧b=b0):=by
  intro k b hk;cases k with
  |fl n=>
   have hk:b∈(if n=0 then [b0]else([]:List Nat)):=hk;by_cases hn:n=0
   ·rw[kF hn]at hk;exact .inr ⟨by rw[hn],km.1 hk⟩
   ·rw[kG hn]at hk;cases hk
  |AT r=>exact .inl ⟨hk,by simp⟩
  |lf r j=>exact .inl ⟨hk,by simp⟩
 have WD:EL v s s W (F0 W w' Vp b0):={
  fz:=fun b hb=>.inl hb
  Le:=fun b hb=>hold b (hs.fz b hb).1
  leaf:=fun r j AA gen t e xs dd hl Vv=>⟨rfl,gen,t,xs,dd,hl,fun _=>⟨rfl,fun p h' e' u WS hn=>by
   obtain⟨u0,Wj,Vw⟩:=(h.roots r).row hl;rw[WS]at Wj;injection Wj with Wj;subst Wj
   exact BM p Vw hn fun b hb=>hold b (hb.elim (fun hb=>(hs.own _ b hb).2.1) fun hb=>(hs.fz b hb).1)⟩⟩
  box:=fun r hb Vv=>⟨hb,rfl,rfl⟩ }
 refine h.IE hv WD ?_ h.DM h.BQ (fun t=>.inl ⟨rfl,rfl⟩) fun r=>?_
 ·exact {
   nodup:=fun k=>by
    cases k with
    |fl n=>
     show(if n=0 then [b0]else([]:List Nat)).Nodup;split<;>simp
    |AT r=>exact hs.nodup (.AT r)
    |lf r j=>exact hs.nodup (.lf r j)
   Av:=fun k k' Vv b h1 h2=>by
    rcases YM k b h1 with⟨h1,n1⟩|⟨rfl,rfl⟩<;>rcases YM k' b h2 with⟨h2,n2⟩|⟨rfl,h2⟩
    ·exact hs.Av k k' Vv b h1 h2
    ·have:=(hs.own k b h1).2.1;omega
    ·have:=(hs.own k' _ h2).2.1;omega
    ·exact Vv rfl
   own:=fun k b h1=>by
    rcases YM k b h1 with⟨h1,_⟩|⟨rfl,rfl⟩
    ·obtain⟨a1,a2,a3⟩:=hs.own k b h1;refine⟨fun hz=>hz.elim a1 fun hz=>?_,lB a2 WZ,a3⟩;rcases(XA b hz).2 with h|h
     ·exact a1 h
     ·omega
    ·refine⟨fun hz=>hz.elim (fun hz=>?_) hb.2.2,hb.2.1,.inl (kv hs.size hb.1)⟩;have:=(hs.fz _ hz).1;omega
   fz:=fun b hz=>by
    rcases hz with hz|hz
    ·obtain⟨a1,a2⟩:=hs.fz b hz;exact⟨lB a1 WZ,a2⟩
    ·obtain⟨a1,a2⟩:=XA b hz;refine⟨a1,a2.elim (fun h=>(hs.fz b h).2) fun h=>.inr (.inl (kv hs.size h))⟩
   frame:=fun b h1 h2=>(hold b (lB h1 hs.size)).trans (hs.frame b h1 h2)
   size:=kv hs.size WZ
   rest:=⟨V2.1.trans hs.rest.1,V2.2.1.trans hs.rest.2.1,V2.2.2.trans hs.rest.2.2⟩ }
 ·obtain⟨h1,h2⟩:=h.roots r;refine⟨fun j=>?_,?_⟩
  ·exact Ab.DL WD (by have:=hv.2.1 r j;exact this) (fun b hb=>hold b (hs.own _ b hb).2.1) (h1 j)
  ·show(if(s.root r).box=true then _ else _);split
   ·rename_i hb;rw[kF hb]at h2;obtain⟨Xd,W4,T',aJ,Yr,a1,a2,a3⟩:=h2;refine⟨Xd,W4,T',aJ,(hold _ ?_).trans Yr,a1,a2,a3⟩;exact(lD.1 Yr).1
   ·rename_i hb;rw[kG hb]at h2;exact h2
theorem AW.Lt(h:AW E s tm W)(hv:Af s v){d:Nat}(hd:d<tm.size){bs:List LA}{cs:Array Value}{T:TypeId}{fr:Nat×Nat}{b0:Nat}{w':World}{Vp:Nat→Prop}
  (hold:∀b,b<W.w.heap.size→w'.heap[b]?=W.w.heap[b]?) (WZ:W.w.heap.size≤w'.heap.size) (V2:w'.os=W.w.os∧w'.tape=W.w.tape∧w'.output=W.w.output)
  (XA:∀x,Vp x→x<w'.heap.size∧(W.fz x∨W.w.heap.size≤x)) (hb:W.w.heap.size≤b0∧b0<w'.heap.size∧¬Vp b0) (V6:w'.heap[b0]?=some (.cells cs T fr)) (We:∀j,j<cs.size→¬(fr.1≤j∧j<fr.2)) (hlen:cs.size=bs.length)
  (Xk:∀(j:Nat)(b:LA),bs[j]?=some b→∃(l:L) (x:l.D) (y:Value),b=.sc l x∧cs[j]?=some y∧l.rd 0 w' Vp y x []):
  ∃W',W'.w=w'∧AW E (s.app (GQ d v bs)) (tm.setIfInBounds d (.pointer (some ⟨b0,0,none⟩))) W':=by
 have h1:=h.O7 hv hold WZ V2 XA hb
 have eH:∀j,(∃(l:L) (x:l.D) (y:Value),nth .bad bs j=.sc l x∧cs[j]?=some y∧l.rd 0 w' Vp y x [])∨nth .bad bs j=.bad:=by
  intro j;rcases kq j bs.length with hj|hj
  ·left;have:=Xk j bs[j] (j7 hj);rw[Ai,j7 hj];exact this
  ·right;exact A6 _ hj
 refine⟨AN (F0 W w' Vp b0) w' [] d (fun j=>cs[j]?) b0 [b0] (fun _=>[]),rfl,?_⟩;refine h1.Kp (us:=[]) hv hd (x:=⟨true,v,bs⟩) (a:=one (.ptr d 0 v)) rfl ?_ (fun b _=>rfl) (fun b _ _=>rfl) (kT _) ⟨rfl,rfl,rfl⟩ (kQ.2 ⟨by simp,kE⟩) (fun _=>kE) (fun _ _ _ hb=>by cases hb) (fun _ _ _ _ hb=>by cases hb) ?_ ?_ ?_
 ·intro j AA gen t e xs dd hl;dsimp only at hl;rcases eH j with⟨l,x,y,h1,_⟩|h1<;>rw[h1]at hl<;>cases hl
 ·intro b hb;rcases hb with hb|⟨j,hb⟩
  ·simp at hb;subst hb;exact .inl ⟨.fl 0,id,by simp[F0]⟩
  ·cases hb
 ·intro _ _;refine⟨fun j=>?_,?_⟩
  ·have e1:(AN (F0 W w' Vp b0) w' [] d (fun j=>cs[j]?) b0 [b0] (fun _=>[])).cv d j=cs[j]?:=by simp[AN]
   have e2:(AN (F0 W w' Vp b0) w' [] d (fun j=>cs[j]?) b0 [b0] (fun _=>[])).om (.lf d j)=[]:=by simp[AN]
   rw[e1,e2];show Ab _ _ (nth LA.bad bs j) _ _;rcases eH j with⟨l,x,y,h1,h2,h3⟩|h1
   ·rw[h1];refine⟨rfl,fun u hu=>?_⟩;rw[h2]at hu;injection hu with hu;subst hu
    exact L.AI l h3 (fun b _=>rfl) (fun b hb=>.inr hb)
   ·rw[h1];exact⟨rfl,fun _ _=>trivial⟩
  ·show(if true=true then _ else _);rw[kF rfl];have Zb:(AN (F0 W w' Vp b0) w' [] d (fun j=>cs[j]?) b0 [b0] (fun _=>[])).bk d=b0:=by simp[AN]
   refine⟨by simp[AN],cs,T,fr,?_,We,hlen,fun j=>by simp[AN]⟩;rw[Zb];exact V6
 ·intro _ _;intro _ _;have Zb:(AN (F0 W w' Vp b0) w' [] d (fun j=>cs[j]?) b0 [b0] (fun _=>[])).bk d=b0:=by simp[AN]
  rw[Zb]
end
end Go.Ev
namespace Go.Ev
open Go.Sort (Holds insertionSort)
section
variable {α β:Type}[Inhabited α][Inhabited β]
theorem KT(d:Array α)(i j:Nat):(Go.Sort.swp d i j).size=d.size:=by simp[Go.Sort.swp]
theorem get_map(f:α→β)(d:Array α)(i:Nat)(hi:i<d.size):(d.map f)[i]! = f d[i]! := by
 grind
theorem Nw(f:α→β)(d:Array α)(i j:Nat)(hi:i<d.size)(hj:j<d.size):Go.Sort.swp (d.map f) i j=(Go.Sort.swp d i j).map f:=by unfold Go.Sort.swp;grind
theorem Fu(f:α→β)(lt:α→α→Bool)(X6:β→β→Bool)(h:∀x y,X6 (f x) (f y)=lt x y)(a:Nat):∀(j:Nat)(d:Array α),j<d.size→Go.Sort.insInner X6 a j (d.map f)=(Go.Sort.insInner lt a j d).map f∧(Go.Sort.insInner lt a j d).size=d.size
 |0,d,_=>⟨rfl,rfl⟩
 |j+1,d,hj=>by
  simp only[Go.Sort.insInner];rw[get_map f d (j+1) hj,get_map f d j (by omega),h];split
  ·rw[Nw f d (j+1) j hj (by omega)];obtain⟨e1,e2⟩:=Fu f lt X6 h a j (Go.Sort.swp d (j+1) j) (by rw[KT];omega);exact⟨e1,e2.trans (KT _ _ _)⟩
  grind
theorem Gl(lt:α→α→Bool)(a b i:Nat)(d:Array α)(h:i<b):Go.Sort.insOuter lt a b i d=Go.Sort.insOuter lt a b (i+1) (Go.Sort.insInner lt a i d):=by rw[Go.Sort.insOuter,kF h]
theorem DU(lt:α→α→Bool)(a b i:Nat)(d:Array α)(h:¬i<b):Go.Sort.insOuter lt a b i d=d:=by rw[Go.Sort.insOuter,kG h]
theorem Fv(f:α→β)(lt:α→α→Bool)(X6:β→β→Bool)(h:∀x y,X6 (f x) (f y)=lt x y)(a b:Nat):∀(n i:Nat)(d:Array α),b-i≤n→b≤d.size→Go.Sort.insOuter X6 a b i (d.map f)=(Go.Sort.insOuter lt a b i d).map f∧(Go.Sort.insOuter lt a b i d).size=d.size
 |0,i,d,hn,hb=>by rw[DU X6 a b i _ (by omega),DU lt a b i _ (by omega)];grind
 |n+1,i,d,hn,hb=>by
  by_cases hi:i<b
  ·rw[Gl X6 a b i _ hi,Gl lt a b i _ hi];obtain⟨e1,e2⟩:=Fu f lt X6 h a i d (by omega);rw[e1];obtain⟨e3,e4⟩:=Fv f lt X6 h a b n (i+1) (Go.Sort.insInner lt a i d) (by omega) (by rw[e2];exact hb);grind
  ·rw[DU X6 a b i _ hi,DU lt a b i _ hi];grind
theorem Fw(f:α→β)(lt:α→α→Bool)(X6:β→β→Bool)(h:∀x y,X6 (f x) (f y)=lt x y)(d:Array α)(b:Nat)(hb:b≤d.size):insertionSort X6 (d.map f) 0 b=(insertionSort lt d 0 b).map f∧(insertionSort lt d 0 b).size=d.size:=
 Fv f lt X6 h 0 b b 1 d (by omega) hb
theorem KN(enc:α→Value)(w:World)(AT off:Nat)(d:Array α){arr:Array Value}{T:TypeId}{fr:Nat×Nat}(h:w.heap[AT]?=some (.cells arr T fr)):(Go.Sort.putRow enc w AT off d).heap[AT]?=some (.cells (Go.Sort.putCells enc off d arr) T fr):=by simp[Go.Sort.putRow,Go.Sort.mapBlock,Array.getElem?_modify,h,Go.Sort.onCells]
theorem Gr(enc:α→Value)(w:World)(AT off:Nat)(d:Array α){b:Nat}(h:b≠AT):(Go.Sort.putRow enc w AT off d).heap[b]?=w.heap[b]?:=by simp[Go.Sort.putRow,Go.Sort.mapBlock,Array.getElem?_modify,Ne.symm h]
end
section
variable {P:Program}{E:Cy}{s:St}{W:Wd}{o:Oper}{a:Act}{ws:List Wr}{cx:Cx}{v:Nat}{tm:Array Value}
def KY(W:Wd)(r:Nat)(b:Nat):Prop:=W.fz b∨∃k,(∀j,k≠.lf r j)∧b∈W.om k
theorem HJ.frame{w w':World}{fz:Nat→Prop}{ls:List L}{u:Value}{vs:List Lv}(h:HJ w fz ls u vs)(hf:∀b,fz b→w'.heap[b]?=w.heap[b]?):HJ w' fz ls u vs:=by
 obtain⟨b,arr,T,fr,hu,hz,hh,hs,hm,hr⟩:=h;exact⟨b,arr,T,fr,hu,hz,(hf b hz).trans hh,hs,hm,fun j lv hj=>let ⟨y,hy,hl⟩:=hr j lv hj;⟨y,hy,L.AI lv.l hl (fun b hb=>hf b (hb.elim (fun hb=>by cases hb) id)) fun _ hb=>hb⟩⟩
theorem Dy.frame{w w':World}{fz:Nat→Prop}(hf:∀b,fz b→w'.heap[b]?=w.heap[b]?):∀ {bs:List (List L)} {us:List Value} {vs:List Lv},Dy w fz bs us vs→Dy w' fz bs us vs
 | [],[],vs,h=>h
 |ls::bs,u::us,vs,h=>by obtain⟨x,y,e,h1,h2⟩:=h;exact⟨x,y,e,h1.frame hf,Dy.frame hf h2⟩
 | [],_::_,vs,h=>h.elim
 |_::_,[],vs,h=>h.elim
theorem Ky.frame{w w':World}{fz:Nat→Prop}{rv:Value}(hf:∀b,fz b→w'.heap[b]?=w.heap[b]?){c:KW}{u:Value}{vs:List Lv}(h:Ky w fz rv c u vs):Ky w' fz rv c u vs:=by
 cases c with
 |box ls=>exact HJ.frame h hf
 |EI g bs=>
  obtain⟨b,T,fr,lb,hu,hz,hh,hb⟩:=h;exact⟨b,T,fr,lb,hu,hz,(hf b hz).trans hh,hb.frame hf⟩
 |row=>
  obtain⟨e,b,T,fr,hu,hz,hh⟩:=h;exact⟨e,b,T,fr,hu,hz,(hf b hz).trans hh⟩
theorem EJ.frame{w w':World}{fz:Nat→Prop}{rv:Value}(hf:∀b,fz b→w'.heap[b]?=w.heap[b]?):∀ {cs:List KW} {us:List Value} {vs:List Lv},EJ w fz rv cs us vs→EJ w' fz rv cs us vs
 | [],[],vs,h=>h
 |c::cs,u::us,vs,h=>by obtain⟨x,y,e,h1,h2⟩:=h;exact⟨x,y,e,h1.frame hf,EJ.frame hf h2⟩
 | [],_::_,vs,h=>h.elim
 |_::_,[],vs,h=>h.elim
def Jg(s:St)(W:Wd)(ps:List (Nat×Nat))(bs:List Nat):Prop:=bs.length=ps.length∧∀(k:Nat)(p:Nat×Nat)(b:Nat),ps[k]?=some p→bs[k]?=some b→(s.root p.1).box=true→(s.root p.1).AA=p.2→b=W.bk p.1
theorem Jg.cons{p:Nat×Nat}{ps:List (Nat×Nat)}{bs:List Nat}(h:Jg s W (p::ps) bs):∃b cQ,bs=b::cQ∧((s.root p.1).box=true→(s.root p.1).AA=p.2→b=W.bk p.1)∧Jg s W ps cQ:=by
 obtain⟨h1,h2⟩:=h
 match bs,h1 with
 |b::bs,h1=>exact⟨b,bs,rfl,h2 0 p b rfl rfl,by grind,fun k q c hq hc=>h2 (k+1) q c (by grind) (by grind)⟩
theorem Jg.nil{bs:List Nat}(h:Jg s W [] bs):bs=[]:=kD h.1
def Ns(b:Nat):Value:=.pointer (some ⟨b,0,none⟩)
theorem OH(h:AW E s tm W){not r:Nat}{ls:List L}(hb:(s.root r).box=true)(Vv:r≠not)(hlen:(s.root r).ls.length=ls.length)(Ze:(s.root r).ls.all N2=true){β:Type}{z:β}{k:List Lv→Step β}(hl:(s.data ls (A5 r 0 (s.root r).ls) k).leads z):
  ∃x,(k x).leads z∧HJ W.w (KY W not) ls (Ns (W.bk r)) x:=by
 obtain⟨_,WN⟩:=h.roots r;rw[kF hb]at WN;obtain⟨au,arr,T,fr,hh,V0,V7,WE⟩:=WN
 obtain⟨vs,hl,WX,ZE,XV⟩:=Es h (g:=fun j=>arr[j]?) (fun j b hj=>by
  rw[Cz]at hj;cases hq:(s.root r).ls[j]? with
  |none=>grind
  |some y=>
   rw[hq]at hj;injection hj with hj
   have Vs:j<(s.root r).ls.length:=(j9.1 hq).1;have Vl:s.leaf r j=y:=by unfold St.leaf;rw[Ai,hq];rfl
   have V6:W.cv r j=some (arr[j]'(by omega)):=by rw[WE];exact kX _
   refine⟨arr[j]'(by omega),kX _,?_⟩;rw[←hj,kO];exact LF h Vl V6) hl
 refine⟨vs,hl,W.bk r,arr,T,fr,rfl,.inr ⟨.AT r,(fun j e=>by cases e),by grind⟩,hh,by omega,ZE,fun j lv hj=>?_⟩;obtain⟨u,hu,hr⟩:=XV j lv hj;refine⟨u,hu,L.AI lv.l hr (fun _ _=>rfl) fun b hb=>?_⟩;rcases hb with hb|⟨r',WV,j',hb⟩
 ·exact .inl hb
 ·refine .inr ⟨.lf r' j',fun j e=>?_,hb⟩;injection e with e1 e2
  have:r'=r:=by
   obtain⟨y,hy,X5⟩:=kA.1 WV;obtain⟨i,hi⟩:=ko hy;rw[Cz]at hi;cases hq:(s.root r).ls[i]? with
   |none=>rw[hq]at hi;cases hi
   |some y0=>
    rw[hq]at hi;injection hi with hi
    subst hi;have:=kL.1 Ze y0 (kC hq);cases y0 with
    |arr=>simpa[seen,LA.roots]using X5
    |sc=>simp[seen,LA.roots]at X5
    |_=>cases this
  omega
theorem Hb(h:AW E s tm W){not:Nat}{β:Type}{z:β}:∀ {bs:List (List L)} {ps:List (Nat×Nat)} {ks:List Nat} {k:List Lv→Step β},Jg s W ps ks→(DP s not bs ps k).leads z→∃x,(k x).leads z∧Dy W.w (KY W not) bs (ks.map Ns) x
 | [],[],ks,k,hk,hl=>by rw[hk.nil];exact⟨[],hl,rfl⟩
 |ls::bs,(r,AA)::ps,ks,k,hk,hl=>by
  obtain⟨b,fj,rfl,ZH,Wq⟩:=hk.cons;simp only[DP]at hl;split at hl
  ·rename_i hc;simp only[j8,kI,bne_iff_ne,ne_eq]at hc;obtain⟨⟨⟨⟨hb,Vu⟩,Vv⟩,hlen⟩,Wa⟩:=hc;obtain⟨x,hl,hx⟩:=OH h hb Vv hlen Wa hl;obtain⟨y,hl,hy⟩:=Hb h Wq hl;have e:b=W.bk r:=ZH hb Vu;exact⟨_,hl,x,y,rfl,by grind,hy⟩
  ·exact hl.elim
 | [],_::_,ks,k,hk,hl=>hl.elim
 |_::_,[],ks,k,hk,hl=>hl.elim
theorem G6(h:AW E s tm W){c:Loc}{qs:List (Nat×Nat)}{rv:Value}(aF:W.cv c.r c.j=some rv){β:Type}{z:β}:∀ {cs:List KW} {ps:List (Nat×Nat)} {ks:List Nat} {k:List Lv→Step β},Jg s W ps ks→(Bw s c qs cs ps k).leads z→∃x,(k x).leads z∧EJ W.w (KY W c.r) rv cs (ks.map Ns) x
 | [],[],ks,k,hk,hl=>by rw[hk.nil];exact⟨[],hl,rfl⟩
 | .box ls::cs,p::ps,ks,k,hk,hl=>by
  obtain⟨b,fj,rfl,ZH,Wq⟩:=hk.cons;simp only[Bw]at hl
  have aD:Jg s W [p] [b]:=⟨rfl,fun i q d hq hd=>by
   grind⟩
  obtain⟨x,hl,hx⟩:=Hb h aD hl;obtain⟨y,hl,hy⟩:=G6 h aF Wq hl;obtain⟨x1,x2,e,h1,h2⟩:=hx;have e2:x2=[]:=h2;subst e2;exact⟨_,hl,x,y,rfl,by rw[e,kh];exact h1,hy⟩
 | .EI g bs::cs,(r,AA)::ps,ks,k,hk,hl=>by
  obtain⟨b,fj,rfl,ZH,Wq⟩:=hk.cons;simp only[Bw]at hl;split at hl
  ·rename_i g' aI ib XK;split at hl
   ·rename_i hc;simp only[j8,kI,bne_iff_ne,ne_eq]at hc;obtain⟨⟨⟨⟨hb,Vu⟩,Vv⟩,hg⟩,Wa⟩:=hc;subst hg;obtain⟨Ze,WN⟩:=h.roots r;rw[kF hb]at WN;obtain⟨au,arr,T,fr,hh,V0,V7,WE⟩:=WN;rw[XK]at V7;have V7:arr.size=1:=V7
    obtain⟨u,hu⟩:∃u,arr = #[u]:=by
     match arr,V7 with
     |⟨[u]⟩,_=>grind
    have XB:=Ze 0;rw[XK]at XB;have XB:[]=W.om (.lf r 0)∨True:=.inr trivial;have Xo:=Ze 0;rw[XK]at Xo;have eU:AP s W (.EI g aI ib) u:=Xo.2 u (by grind);obtain⟨ks2,bt,YB,cz⟩:=eU;obtain⟨x,hl,hx⟩:=Hb h (ks:=ks2) ⟨YB,cz⟩ hl;obtain⟨y,hl,hy⟩:=G6 h aF Wq hl;have e:b=W.bk r:=ZH hb Vu;refine⟨_,hl,x,y,rfl,?_,hy⟩;refine⟨W.bk r,T,fr,_,by rw[e];rfl,.inr ⟨.AT r,(fun j e=>by cases e),by grind⟩,?_,hx⟩;rw[hh,hu,bt];rfl
   ·exact hl.elim
  ·exact hl.elim
 | .row::cs,(r,AA)::ps,ks,k,hk,hl=>by
  obtain⟨b,fj,rfl,ZH,Wq⟩:=hk.cons;simp only[Bw]at hl;split at hl
  ·rename_i hc;simp only[j8,kI]at hc;obtain⟨⟨⟨⟨hb,Vu⟩,hr⟩,hj⟩,hlen⟩:=hc;obtain⟨y,hl,hy⟩:=G6 h aF Wq hl;obtain⟨Ze,WN⟩:=h.roots r;rw[kF hb]at WN;obtain⟨au,arr,T,fr,hh,V0,V7,WE⟩:=WN
   obtain⟨u,hu⟩:∃u,arr = #[u]:=by
    have V7:arr.size=1:=by rw[V7,hlen]
    match arr,V7 with
    |⟨[u]⟩,_=>exact⟨u,rfl⟩
   have dX:=aF;rw[←hr,hj,WE,hu]at dX;have hurv:u=rv:=by simpa using dX
   have e:b=W.bk r:=ZH hb Vu;refine⟨_,hl,[],y,rfl,⟨rfl,W.bk r,T,fr,by rw[e];rfl,.inr ⟨.AT r,(fun j e=>by cases e),by rw[au];simp⟩,?_⟩,hy⟩;grind
  ·exact hl.elim
 | [],_::_,ks,k,hk,hl=>hl.elim
 | .box _::_,[],ks,k,hk,hl=>hl.elim
 | .EI _ _::_,[],ks,k,hk,hl=>hl.elim
 | .row::_,[],ks,k,hk,hl=>hl.elim
theorem GP(hc:Db P cx)(h:AW E s a.tmps W){t:TypeId}{x:Operand}(ho:o.op=.makeInterface t x)(hl:(AB cx v o s).leads ws):Bc P E o a W.w (s.app ws):=by
 simp only[AB,ho]at hl;have h1:=Ah h x;split at hl
 ·rename_i ty c ht hx;split at hl
  ·exact hl.elim
  ·rename_i Xi;split at hl
   ·rename_i t' e XK;rw[AM hl];rw[hx]at h1;have WI:P.underlying t=some (.slice t'):=(CC hc ht XK (by grind):GY P t (.sl t' e)).1;refine AR h (u:=.iface t (a.eval x)) ?_ (show AP s W (.JJ t c) _ from⟨_,rfl,h1⟩);simp[execOp,ho,Instr.makeInterface,run_underlying WI]
   ·exact hl.elim
 ·exact hl.elim
theorem K9(h:AW E s a.tmps W):∀ {xs:List Operand} {ps:List (Nat×Nat)},Dj s (xs.map s.Au)=some ps→xs.map a.eval=(ps.map fun p=>W.bk p.1).map (fun b=>Value.pointer (some ⟨b,0,none⟩))
 | [],ps,hp=>by simp only[List.map_nil,Dj,Option.some.injEq]at hp;subst hp;rfl
 |x::xs,ps,hp=>by
  have hx:=A8 h x;rw[lQ]at hp;unfold Dj at hp;split at hp
  ·grind
  ·rename_i r AA vs e;injection e with e1 e2
   split at hp
   ·rename_i hc;simp only[j8,kI]at hc;split at hp
    ·rename_i aI aY;injection hp with hp
     subst hp;rw[←e2]at aY;have ih:=K9 h aY;rw[e1]at hx;have hx:a.eval x=.pointer (some ⟨W.bk r,0,none⟩):=hx hc.1 hc.2;grind
    ·cases hp
   ·cases hp
  ·cases hp
theorem KJ(h:AW E s a.tmps W){fn:Fn}{xs ys:Array Operand}(ho:o.op=.makeFunc fn xs ys)(hl:(AB cx v o s).leads ws):Bc P E o a W.w (s.app ws):=by
 cases fn with
 |func g=>
  simp only[AB,ho]at hl;split at hl
  ·rename_i V7;split at hl
   ·rename_i ps XN;rw[AM hl];have hp:=K9 h XN;have YT:xs = #[]:=Array.size_eq_zero_iff.1 (by simpa using V7);refine AR h (u:=.func (.func g) #[] (ys.map a.eval)) ?_ (show AP s W (.EI g ps (behind s ps)) _ from⟨ps.map fun p=>W.bk p.1,?_,by simp,fun k p b hk hb _ _=>?_⟩)
    ·simp[execOp,ho,Instr.makeFunc,YT]
    ·rw[←hp,←lU,lG]
    grind
   ·exact hl.elim
  ·exact hl.elim
 |_=>simp only[AB,ho]at hl;exact hl.elim
theorem NB{l:List Operand}{f:Operand→AV}{p q:AV}(h:l.map f=[p,q]):∃x y,l=[x,y]∧f x=p∧f y=q:=by
 match l,h with
 | [x,y],h=>grind
theorem L1(h:AW E s a.tmps W)(hv:Af s v){fid g:FuncId}{σ:Ow}(br:Nz P fid g σ){cl:Loc}{gen:Nat}{t0:TypeId}{xs zs:List Int}{ks:List Nat}{vs:List Lv}{u:Value}{y:(E4 (σ.JG.flatMap KW.kinds)).D}
  (Vl:s.leaf cl.r cl.j=.arr cl.AA gen t0 (.one (.int .i64)) xs 2) (WE:W.cv cl.r cl.j=some u) (Vw:AD (.one (.int .i64)) 2 W.w W.fz u xs (W.om (.lf cl.r cl.j))) (Zk:EJ W.w (KY W cl.r) u σ.JG (ks.map Ns) vs) (hy:pack (E4 (σ.JG.flatMap KW.kinds)) vs=some y)
  (Ya:M6 (σ.lt y) xs=some zs):Calls P fid #[.iface σ.t u,.func (.func g) #[] (ks.map fun b=>Value.pointer (some ⟨b,0,none⟩)).toArray] W.w fun en w'=>en=.returned (.tuple #[])∧
   ∃W1:Wd,W1.w=w'∧AW E (s.app [.leaf cl.r cl.j (.arr cl.AA v t0 (.one (.int .i64)) zs 2)]) a.tmps W1:=by
 have Wh:∀b,KY W cl.r b→b∉W.om (.lf cl.r cl.j):=by
  intro b hb Vm;rcases hb with hb|⟨k,hk,hb⟩
  ·exact(h.sep.own _ b Vm).1 hb
  ·exact h.sep.Av k _ (hk _) b hb Vm
 have eZ:∀b,KY W cl.r b→b<W.w.heap.size:=by
  intro b hb;rcases hb with hb|⟨k,hk,hb⟩
  ·exact(h.sep.fz b hb).1
  ·exact(h.sep.own _ b hb).2.1
 have Oi:xs.length≤1→Calls P fid #[.iface σ.t u,.func (.func g) #[] (ks.map fun b=>Value.pointer (some ⟨b,0,none⟩)).toArray] W.w (fun en w'=>en=.returned (.tuple #[])∧∃os,w'=Go.Sort.grow W.w os):=by intro hlen;obtain⟨A,cc,Yx,bH,_⟩:=Vw.KX;rw[Yx];exact br.sort.Oi A _ cc hlen _ _ _ _
 unfold M6 at Ya;by_cases YA:xs.length≤1
 ·rw[show decide (xs.length≤1)=true by simpa using YA]at Ya;injection Ya with Ya
  refine(Oi YA).mono ?_
  rintro en w' ⟨rfl,os,rfl⟩
  refine⟨rfl,?_⟩;have ZZ:=h.JY hv (e:=.one (.int .i64)) (WW:=xs) Vl WE Vw (fun b _=>rfl) rfl ⟨rfl,rfl,rfl⟩;rw[Ya]at ZZ;refine⟨_,rfl,ZZ.world (w':=Go.Sort.grow W.w os) (ZZ.KQ fun b hb=>Go.Sort.heap_grow_old _ _ hb) (fun b hb _=>Go.Sort.heap_grow_old _ _ (by have:=h.sep.size;omega)) (by show W.w.heap.size≤(Go.Sort.grow W.w os).heap.size;rw[Go.Sort.size_grow];omega) ⟨rfl,rfl,rfl⟩⟩
 ·rw[show decide (xs.length≤1)=false by grind,cond_false]at Ya;cases WQ:(decide (xs.length≤20)&&xs.all fun x=>xs.all fun z=>(σ.lt y x z).isSome)with
  |false=>grind
  |true=>
   rw[WQ,cond_true]at Ya;injection Ya with Ya
   simp only[j8,kV]at WQ;obtain⟨gl,Wa⟩:=WQ;obtain⟨A,cc,Yx,bH,Xc,WK⟩:=Vw.KX;have bH:xs.length≤cc:=bH;cases A with
   |none=>grind
   |some ad=>
    obtain⟨arr,T,fr,os1,XO,hh,WH,Wk,V5,fM,_⟩:=WK ad rfl (.inr (by omega));have V0:=Wk (by omega);obtain⟨AT,off,sp⟩:=ad;dsimp only at XO hh WH V5 fM;subst XO;have WH:off+cc*1≤arr.size:=WH;have Wu:AT∈W.om (.lf cl.r cl.j):=by rw[fM (by omega)];exact kR
    have cY:AT<W.w.heap.size:=(h.sep.own _ AT Wu).2.1
    have bJ:∀i (hi:i<xs.length),arr[off+i]?=some (.int .i64 (xs[i])):=by intro i hi;have h3:=V5 i hi;simp only[Ls.rd]at h3;obtain⟨w3,dn,h4,_⟩:=h3;have dn:arr[off+(i*1+0)]?=some w3:=dn;rw[Nat.mul_one,kz]at dn;rw[dn];exact congrArg some h4
    obtain⟨x0,YT⟩:∃x0,x0∈xs:=by
     match hq:xs,YA with
     |x::_,_=>grind
    letI:Inhabited {x:Int // x∈xs}:=⟨⟨x0,YT⟩⟩
    let D:Array {x:Int // x∈xs}:=xs.attach.toArray
    have dy:D.size=xs.length:=by simp[D]
    have gp:D.map Subtype.val=xs.toArray:=by simp[D]
    let enc:{x:Int // x∈xs}→Value:=fun x=>.int .i64 x.1
    let X6:{x:Int // x∈xs}→{x:Int // x∈xs}→Bool:=fun p q=>O6 (σ.lt y) p.1 q.1
    have YJ:Holds enc W.w AT off D:=by
     intro j hj;rw[dy]at hj;refine⟨?_,?_⟩
     ·simp only[World.cell?,hh];grind
     ·have Vs:off+j<arr.size:=by omega
      have:=V0 (off+j) Vs;obtain⟨lo,hi⟩:=fr;simp only[World.frozen?,hh];grind
    have dC:∀(m:Nat)(os:Array Obj)(dk:Array {x:Int // x∈xs}),dk.size=D.size→∀i j:Nat,i<D.size→j<D.size→
      Calls P g (#[.int .i64 i,.int .i64 j]++(ks.map fun b=>Value.pointer (some ⟨b,0,none⟩)).toArray) (Go.Sort.grow (Go.Sort.putRow enc (Go.Sort.ahead W.w m) AT off dk) os) fun e w'=>e=.returned (.bool (X6 dk[i]! dk[j]!))∧∃q Wc,w'=Go.Sort.grow ((Go.Sort.grow (Go.Sort.putRow enc (Go.Sort.ahead W.w m) AT off dk) os).drewN q) Wc:=by
     intro m os dk gv i j hi hj
     have XQ:∀b,KY W cl.r b→(Go.Sort.grow (Go.Sort.putRow enc (Go.Sort.ahead W.w m) AT off dk) os).heap[b]?=W.w.heap[b]?:=by intro b hb;rw[Go.Sort.heap_grow_old _ _ (by rw[Go.Sort.size_putRow];exact eZ b hb),Gr enc _ AT off dk (b:=b) (fun e=>Wh b hb (e▸Wu))];rfl
     have gE:=Zk.frame XQ;rw[Yx]at gE
     have XG:σ.lt y dk[i]!.1 dk[j]!.1=some (X6 dk[i]! dk[j]!):=by have h5:=kL.1 Wa dk[i]!.1 dk[i]!.2;have h6:=kL.1 h5 dk[j]!.1 dk[j]!.2;obtain⟨b,hb⟩:=Option.isSome_iff_exists.1 h6;show _=some (O6 (σ.lt y) dk[i]!.1 dk[j]!.1);unfold O6;rw[hb]
     exact br.less _ _ _ _ y AT off xs.length cc (fun t=>dk[t]!.1) gE hy (fun t ht=>by
      rw[Go.Sort.cell?_grow _ _ _ (by show AT<_;rw[Go.Sort.size_putRow];exact cY)];exact Go.Sort.cell?_putRow enc (Go.Sort.ahead W.w m) AT off D dk YJ gv t (by omega)) gl i j (by omega) (by omega) _ XG
    have WB:=br.sort.many _ enc (fun _=>rfl) X6 g (ks.map fun b=>Value.pointer (some ⟨b,0,none⟩)).toArray br.enters AT off cc D (by omega) (by omega) W.w dC YJ cY;rw[dy]at WB;rw[Yx];refine WB.mono ?_
    rintro en w' ⟨rfl,n,os,rfl⟩
    refine⟨rfl,?_⟩;obtain⟨ZV,WZ⟩:=Fw Subtype.val X6 (O6 (σ.lt y)) (fun _ _=>rfl) D xs.length (by omega);rw[gp]at ZV;generalize hS:insertionSort X6 D 0 xs.length=S at ZV WZ;rw[ZV]at Ya
    have cN:zs.length=xs.length:=by rw[←Ya];simp[WZ,dy]
    have dt:∀i (hi:i<xs.length),zs[i]?=some S[i]!.1:=by intro i hi;rw[←Ya,getElem!_pos S i (by omega)];simp[WZ,dy,hi]
    have V1:NL W.w (Go.Sort.putRow enc (Go.Sort.ahead W.w n) AT off S) AT (Go.Sort.putCells enc off S arr) T fr:={
     here:=KN enc (Go.Sort.ahead W.w n) AT off S hh
     CJ:=fun b hb=>Gr enc (Go.Sort.ahead W.w n) AT off S hb
     size:=Go.Sort.size_putRow enc (Go.Sort.ahead W.w n) AT off S
     rest:=⟨rfl,rfl,rfl⟩ }
    have hpsz:(Go.Sort.putCells enc off S arr).size=arr.size:=by simp[Go.Sort.putCells]
    have Vr:AD (.one (.int .i64)) 2 (Go.Sort.putRow enc (Go.Sort.ahead W.w n) AT off S) W.fz (.slice (some ⟨AT,off,none⟩) zs.length cc) zs (AT::(List.range zs.length).flatMap fun _=>[]):=by
     refine FD (e:=.one (.int .i64)) (xs:=zs) (ad:=⟨AT,off,none⟩) V1.here rfl (by grind) (by grind) (show zs.length≤cc by omega) ?_;intro i hi;have hi:i<zs.length:=hi;rw[cN]at hi;simp only[Ls.rd]
     have V6:(Go.Sort.putCells enc off S arr)[off+i]?=some (enc S[i]!):=by simp only[Go.Sort.putCells,Array.getElem?_mapIdx,bJ i hi,lE];rw[kF ⟨by omega,by omega⟩,show off+i-off=i by omega]
     refine⟨enc S[i]!,?_,?_,rfl⟩
     ·show(Go.Sort.putCells enc off S arr)[off+(i*1+0)]?=_;grind
     ·have h7:=dt i hi;rw[j7 (by omega)]at h7;injection h7 with h7
      exact(congrArg (Value.int .i64) h7).symm
    have iB:(AT::(List.range zs.length).flatMap fun _=>([]:List Nat))=W.om (.lf cl.r cl.j):=by
     rw[fM (by omega)];congr 1
     have:(List.range xs.length).flatMap os1=[]:=by rw[List.flatMap_eq_nil_iff];intro i hi;have h3:=V5 i (kM.1 hi);simp only[Ls.rd]at h3;obtain⟨w3,dn,_,h4⟩:=h3;exact h4
     rw[DS];exact this.symm
    rw[iB,cN]at Vr;rw[Yx]at WE;have ZZ:=h.JY hv (e:=.one (.int .i64)) (WW:=zs) Vl WE Vr (fun b hb=>V1.CJ b fun e=>hb (e▸Wu)) V1.size V1.rest;refine⟨_,rfl,ZZ.world (w':=Go.Sort.grow (Go.Sort.putRow enc (Go.Sort.ahead W.w n) AT off S) os) (ZZ.KQ fun b hb=>Go.Sort.heap_grow_old _ _ hb) (fun b hb Yt=>Go.Sort.heap_grow_old _ _ (by show b<(Go.Sort.putRow enc (Go.Sort.ahead W.w n) AT off S).heap.size;rw[V1.size];have:=h.sep.size;omega)) (by show _≤(Go.Sort.grow (Go.Sort.putRow enc (Go.Sort.ahead W.w n) AT off S) os).heap.size;rw[Go.Sort.size_grow];grind) ⟨rfl,rfl,rfl⟩⟩
theorem L2(V8:DN P E cx.env)(h:AW E s a.tmps W)(hv:Af s v){c:Call}{f:Operand}{fid:FuncId}{d:Nat}(ho:o.op=.call c)(hb:c.callee=.value f)(WT:o.dst=some d)(hdlt:d<a.tmps.size)(hf:a.eval f=.func (.func fid) #[] #[])
  (hl:(Dw cx s d v fid (c.args.toList.map s.Au) fun ws=>.go ws).leads ws):Bc P E o a W.w (s.app ws):=by
 unfold Dw at hl;split at hl
 ·rename_i t cl g ps qs WJ;split at hl
  ·rename_i σ hσ;split at hl
   ·rename_i AA gen t0 xs Vl;split at hl
    ·rename_i Vt;simp only[j8,kI,kJ]at Vt;obtain⟨⟨⟨Vu,hp⟩,Yk⟩,iO⟩:=Vt;subst Vu;subst iO;have hp:cl.p=[]:=by cases hq:cl.p<;>simp_all[isNil]
     obtain⟨x1,x2,iV,Xs,XW⟩:=NB WJ;have bF:c.args = #[x1,x2]:=by grind
     have h1:=A8 h x1;have h2:=A8 h x2;rw[Xs]at h1;rw[XW]at h2;obtain⟨u,iP,cK⟩:AP s W (.JJ σ.t cl) (a.eval x1):=h1;obtain⟨ks,aD,cz⟩:AP s W (.EI g ps qs) (a.eval x2):=h2;obtain⟨h',e',WE,hn⟩:=cK _ _ _ _ _ Vl (.inl hp);rw[hp]at hn;obtain⟨rfl,rfl⟩:=hn;obtain⟨u',Vy,Vw⟩:=(h.roots cl.r).row Vl;rw[WE]at Vy;injection Vy with Vy;subst Vy
     obtain⟨vs,hl,Zk⟩:=G6 h WE (ks:=ks) cz hl;split at hl
     ·rename_i y hy;obtain⟨zs,Ya,hl⟩:=hl;have hl:_=ws:=hl;have br:=V8.1.PZ fid g σ hσ;obtain⟨fn,cb,Zo,Zp,Xy⟩:=br.sort.body
      have dW:(execOp a.eval o).run P W.w=.ok (.enter fid #[a.eval x1,a.eval x2]) W.w:=by
       have Xy : ¬ fn.name = "runtime.NumGoroutine" := by simpa using Xy
       simp[execOp,ho,hb,bF,resolve,invoke,hf,Deferred.ofValue,callFunc,Zo,Zp,Xy]
      have fin:∀w':World,(∃W1:Wd,W1.w=w'∧AW E (s.app [.leaf cl.r cl.j (.arr cl.AA v t0 (.one (.int .i64)) (show List Int from zs) 2)]) a.tmps W1)→∀(next:Act→World→Prop),(∀a' W',a'.defers=a.defers→AW E (s.app ws) a'.tmps W'→next a' W'.w)→next (a.put o.dst (.tuple #[])) w':=by
       intro w' ⟨W1,eO,Vo⟩ next X1
       have hs:=Vo.slot d (x:=.Dp []) (u:=.tuple #[]) ⟨#[],rfl,rfl,fun j p hj=>by simp at hj⟩;rw[←eO];refine X1 _ W1 (by rw[WT];rfl) ?_;rw[←hl,WT];exact hs
      intro next Q X1
      unfold Oper.wp;rw[dW,Oper.upon_enter,iP,aD];have cZ:=L1 (v:=v) (zs:=zs) h hv br Vl WE Vw Zk hy Ya;refine cZ.mono ?_
      rintro en w' ⟨rfl,W1,eO,Vo⟩
      exact fin _ ⟨W1,eO,Vo⟩ next X1
     ·exact hl.elim
    ·exact hl.elim
   ·exact hl.elim
  ·exact hl.elim
 ·exact hl.elim
end
end Go.Ev
namespace Go.Ev
section
variable {P:Program}{E:Cy}{s:St}{W:Wd}{o:Oper}{a:Act}{ws:List Wr}{cx:Cx}{v:Nat}{tm:Array Value}
theorem Nj(V8:DN P E cx.env)(h:AW E s a.tmps W)(hv:Af s v){c:Call}{f:Operand}(ho:o.op=.call c)(hb:c.callee=.value f)(hd:∀d,o.dst=some d→d<a.tmps.size)(hl:(AB cx v o s).leads ws):Bc P E o a W.w (s.app ws):=by
 simp only[AB,ho,hb]at hl;have hf:=Ah h f;split at hl
 ·rename_i fid d ef WT;rw[ef]at hf;have hf:a.eval f=.func (.func fid) #[] #[]:=hf;unfold call at hl;split at hl
  ·exact L2 V8 h hv ho hb WT (hd d WT) hf hl
  ·rename_i g hg;cases X0:g.s.mk? with
   |true=>
    rw[X0,kF rfl]at hl
    obtain⟨Vn,T,hl,l1,l3,l4,hn,X9⟩:=JE h g.s.ps (c.args.toList.map s.Au) (c.args.toList.map a.eval) (by simp) (fun i av u h1 h2=>by
     rw[kN]at h1 h2;cases hx:c.args.toList[i]? with
     |none=>rw[hx]at h1;cases h1
     |some x=>
      rw[hx]at h1 h2;injection h1 with h1;injection h2 with h2
      subst h1;subst h2;exact A8 h x) hl
    split at hl
    ·rename_i ZQ;simp only[j8]at ZQ;obtain⟨Xu,eJ⟩:=ZQ
     have eJ:Aj g.s.ps (c.args.toList.map s.Au)=[]:=by
      revert eJ
      cases Aj g.s.ps (c.args.toList.map s.Au)with
      |nil=>intro _;rfl
      |cons=>intro h;cases h
     split at hl
     ·exact hl.elim
     ·rename_i y hy;obtain⟨z,hz,hl⟩:=hl;have hl:_=ws:=hl
      have hh:Handed s W g.s.ps (c.args.toList.map s.Au) (c.args.toList.map a.eval) Vn T:={
       l1:=l1
       l2:=by rw[←l1];simp
       l3:=l3
       l4:=l4
       nodup:=hn
       each:=X9
       apart:=fun r hr=>by rw[eJ]at hr;cases hr }
      obtain⟨YH,fn,cb,Zo,Zp,Xy⟩:=V8.1.fns fid g hg;have WB:=YH (c.args.toList.map a.eval) W.w (Seen W (Aj g.s.ps (c.args.toList.map s.Au))) Vn _ _ y z (V8.Pd h.sep fun k b hb=>let ⟨a,_,h2⟩:=Cb hh hb;⟨a,h2⟩) (GH h hh) hy hz;rw[X0]at WB;intro next Q X1
      have Vx:(execOp a.eval o).run P W.w=.ok (.enter fid (c.args.toList.map a.eval).toArray) W.w:=by
       have:(c.args.toList.map a.eval).toArray=c.args.map a.eval:=by rw[←lU,lG]
       rw[this]
       have Xy : ¬ fn.name = "runtime.NumGoroutine" := by simpa using Xy
       simp[execOp,ho,hb,resolve,invoke,hf,Deferred.ofValue,callFunc,Zo,Zp,Xy]
      unfold Oper.wp;rw[Vx,Oper.upon_enter];refine WB.mono ?_
      rintro en w' ⟨r,Vp,b0,rfl,mo⟩
      obtain⟨rfl,bV,cs,T0,fr,V6,We,hlen,ZM⟩:=mo.box;have WX:(unpack g.s.outs z).length=g.s.Gx.length:=by have:=congrArg List.length bV;simpa using this
      have hzero:∀p∈g.s.Gx,p.2=0:=fun p hp=>by unfold Sm.plain at Xu;simp only[j8]at Xu;simpa using kL.1 Xu.2 p hp
      obtain⟨W',Wl,Vo⟩:=h.Lt hv (hd d WT) (bs:=AZ v g.s.Gx (unpack g.s.outs z)) mo.frame mo.size mo.rest (fun x hx=>by
       obtain⟨a1,a2⟩:=mo.fz x hx;refine⟨a1,a2.imp (fun h=>?_) id⟩;rcases h with h|⟨r,hr,_⟩
       ·exact h
       ·rw[eJ]at hr;cases hr) mo.new V6 We (by rw[Bk _ _ _ WX];exact hlen) (fun j b hj=>by
       have bT:j<g.s.Gx.length:=by have:=(j9.1 hj).1;rwa[Bk _ _ _ WX]at this
       have q1:=j7 bT;have q2:=j7 (show j<(unpack g.s.outs z).length by omega);have q3:=B6 v _ _ j _ _ q1 q2;rw[q3]at hj;injection hj with hj
       obtain⟨y',X5,hr⟩:=ZM j _ _ q1 q2;rw[hzero _ (List.getElem_mem bT)]at hr hj;refine⟨_,_,y',?_,X5,hr⟩;rw[←hj];generalize (unpack g.s.outs z)[j]=lv;obtain⟨l,x⟩:=lv;cases l<;>rfl)
      rw[←hl,WT]at *;rw[←Wl];exact X1 _ W' rfl Vo
    ·exact hl.elim
   |false=>
   rw[X0]at hl;simp only[lh,if_false]at hl
   obtain⟨Vn,T,hl,l1,l3,l4,hn,X9⟩:=JE h g.s.ps (c.args.toList.map s.Au) (c.args.toList.map a.eval) (by simp) (fun i av u h1 h2=>by
    rw[kN]at h1 h2;cases hx:c.args.toList[i]? with
    |none=>rw[hx]at h1;cases h1
    |some x=>
     rw[hx]at h1 h2;injection h1 with h1;injection h2 with h2
     subst h1;subst h2;exact A8 h x) hl
   split at hl
   ·rename_i ZQ;split at hl
    ·exact hl.elim
    ·rename_i y hy;obtain⟨z,hz,hl⟩:=hl;cases Xm:D3 d v g.s.rs (unpack g.s.outs z) 0 with
     |none=>simp only[Xm]at hl;exact hl.elim
     |some bol=>
      obtain⟨bs,own,left⟩:=bol;simp only[Xm]at hl;generalize Xg:(if fresh g.s.Gx=true then some []else Az cx s (Aj g.s.ps (c.args.toList.map s.Au)))=fso at hl;split at hl
      ·rename_i pw fs gO;have hl:_=ws:=hl
       have hh:Handed s W g.s.ps (c.args.toList.map s.Au) (c.args.toList.map a.eval) Vn T:={
        l1:=l1
        l2:=by rw[←l1];simp
        l3:=l3
        l4:=l4
        nodup:=hn
        each:=X9
        apart:=fun r hr i p hT x hx e=>by
         have h1:=kL.1 ZQ r hr;simp only[kJ]at h1;have h2:Ft (T.flatMap PT.EG) (r,none)=true:=lK.2 ⟨x,kA.2 ⟨p,kC hT,hx⟩,by simp[Tg.Dh,e]⟩;rw[h1]at h2;cases h2 }
       obtain⟨YH,fn,cb,Zo,Zp,Xy⟩:=V8.1.fns fid g hg;have WB:=YH (c.args.toList.map a.eval) W.w (Seen W (Aj g.s.ps (c.args.toList.map s.Au))) Vn _ _ y z (V8.Pd h.sep fun k b hb=>let ⟨a,_,h2⟩:=Cb hh hb;⟨a,h2⟩) (GH h hh) hy hz;rw[X0]at WB;intro next Q X1
       have Vx:(execOp a.eval o).run P W.w=.ok (.enter fid (c.args.toList.map a.eval).toArray) W.w:=by
        have:(c.args.toList.map a.eval).toArray=c.args.map a.eval:=by rw[←lU,lG]
        rw[this]
        have Xy : ¬ fn.name = "runtime.NumGoroutine" := by simpa using Xy
        simp[execOp,ho,hb,resolve,invoke,hf,Deferred.ofValue,callFunc,Zo,Zp,Xy]
       unfold Oper.wp;rw[Vx,Oper.upon_enter];refine WB.mono ?_
       rintro en w' ⟨r,Vp,WR,rv,vsR,vsP,rfl,co⟩
       obtain⟨W',Wl,Vo⟩:=NO (cx:=cx) h hv (hd d WT) hh co Xg Xm gO;rw[←hl,WT]at *;rw[←Wl];exact X1 _ W' rfl Vo
      ·exact hl.elim
   ·exact hl.elim
 ·exact hl.elim
end
end Go.Ev
namespace Go.Ev
section
variable {P:Program}{E:Cy}{s:St}{W:Wd}{o:Oper}{a:Act}{ws:List Wr}{cx:Cx}{v:Nat}{tm:Array Value}
theorem Mr(hc:Db P cx)(V8:DN P E cx.env)(h:AW E s a.tmps W)(hv:Af s v)(hd:∀d,o.dst=some d→d<a.tmps.size)(hl:(AB cx v o s).leads ws):Bc P E o a W.w (s.app ws):=by
 cases ho:o.op with
 |move x=>
  cases hn:Hu (s.Au x)with
  |true=>exact Ko h hv ho hn hd hl
  |false=>exact Nl h ho hn hl
 |assign x=>exact Lq h hv ho hd hl
 |pick x y z=>exact Nn h ho hl
 |alloc t=>exact Ml hc V8.1.O1 h hv ho hd hl
 |box t x=>exact OW hc h hv ho hd hl
 |build t ps=>exact Mn hc h ho hl
 |buildSlice t n ps=>exact Ic hc h hv ho hd hl
 |load t x=>exact Nk hc h ho hl
 |store t x y=>exact Ms hc V8.1.O1 h hv ho hl
 |makeInterface t x=>exact GP hc h ho hl
 |makeFunc fn xs ys=>exact KJ h ho hl
 |nilCheck x=>exact KK h ho hl
 |binOp op tx x y ty=>exact Mm hc h ho hl
 |unOp op tx x=>exact Np h ho hl
 |convert t1 t2 x=>exact Km hc h hv ho hd hl
 |makeSlice t x y=>exact JV hc h hv ho hd hl
 |slice ti x lo hi m=>
  cases m with
  |none=>exact Mq hc h ho hl
  |some m=>simp only[AB,ho]at hl;exact hl.elim
 |fieldAddr t x f=>exact JT hc h ho hl
 |field t x f=>exact Mo hc h ho hl
 |indexAddr t x i=>exact JU hc h ho hl
 |index t x i=>exact Mp hc h ho hl
 |extract x i=>exact Kn h ho hl
 |call c=>
  cases hb:c.callee with
  |builtin b=>
   cases b with
   |len=>exact OX hc h ho hb hl
   |append=>exact Lp hc h hv ho hb hd hl
   |min=>exact OZ h ho hb hl
   |max=>exact OY h ho hb hl
   |_=>simp only[AB,ho,hb]at hl;exact hl.elim
  |value f=>exact Nj V8 h hv ho hb hd hl
  |invoke r n=>simp only[AB,ho,hb]at hl;exact hl.elim
 |_=>simp only[AB,ho]at hl;exact hl.elim
end
end Go.Ev
namespace Go.Ev
section
variable {s s':St}{cx:Cx}{v:Nat}{β:Type}
theorem Ak{r:Nat}(h:s'.root r=s.root r)(j:Nat):s'.leaf r j=s.leaf r j:=by unfold St.leaf;rw[h]
theorem Bb{c:Loc}(h:s'.root c.r=s.root c.r)(k:(t:TypeId)→(e:Ls)→List e.D→Nat→Step β):s'.content c k=s.content c k:=by unfold St.content;rw[Ak h]
def A7(s s':St)(rs:List Nat):Prop:=∀r∈rs,s'.root r=s.root r
theorem B5{l:L}{la:LA}(h:A7 s s' la.roots)(k:l.D→Step β):s'.datum l la k=s.datum l la k:=by
 cases la with
 |ref c=>exact Bb (h c.r (by simp[LA.roots])) _
 |win c lo hi=>exact Bb (h c.r (by simp[LA.roots])) _
 |_=>rfl
theorem DR:∀ {ls:List L} {as:List LA} (h:A7 s s' (as.flatMap LA.roots)) (k:List Lv→Step β),s'.data ls as k=s.data ls as k
 | [],[],h,k=>rfl
 | [],_::_,h,k=>rfl
 |_::_,[],h,k=>rfl
 |l::ls,a::as,h,k=>by simp only[St.data];rw[B5 fun r hr=>h r (by simp[hr])];congr 1;funext x;exact DR (fun r hr=>h r (by grind)) _
theorem KB{la:LA}(h:A7 s s' la.roots)(n:Nat)(k:List LA→Step β):s'.DG la n k=s.DG la n k:=by
 cases la with
 |ptr r j AA=>simp only[St.DG];rw[h r (by simp[LA.roots])]
 |Bl c=>
  simp only[St.DG];split
  ·rfl
  ·rename_i q i off hq;have hg:s'.J3 c.r c.j=s.J3 c.r c.j:=by unfold St.J3;rw[Ak (h c.r (by simp[LA.roots]))]
   rw[hg];exact Bb (c:={ c with p:=q }) (h c.r (by simp[LA.roots])) _
 |_=>rfl
theorem Eo{a:AV}(h:A7 s s' a.roots):A7 s s' a.one?.roots:=by
 cases a with
 |Dp vs=>intro r hr;cases hr
 |bx as=>intro r hr;cases hr
 |v g as=>
  cases g with
  |true=>intro r hr;cases hr
  |false=>cases as with
   |nil=>intro r hr;cases hr
   |cons b bs=>cases bs with
    |nil=>intro r hr;exact h r (kA.2 ⟨b,by simp,hr⟩)
    |cons=>intro r hr;cases hr
theorem Lj{a:AV}(h:A7 s s' a.roots)(n:Nat)(k:List LA→Step β):s'.FW a n k=s.FW a n k:=by
 cases a with
 |bx as=>rfl
 |v g as=>exact KB (Eo h) n k
 |Dp vs=>exact KB (Eo h) n k
theorem K4:∀ {as:List LA},A7 s s' (as.flatMap LA.roots)→MY s' as=MY s as
 | [],_=>rfl
 |a::as,h=>by
  unfold MY;simp only[List.any_cons];have ih:=K4 (as:=as) fun r hr=>h r (by grind);unfold MY at ih;rw[ih];congr 1;cases a with
  |ref c=>simp only;rw[h c.r (by simp[LA.roots])]
  |_=>rfl
theorem EN{la:LA}(h:A7 s s' la.roots):s'.alive la=s.alive la:=by
 cases la with
 |ptr r j AA=>simp only[St.alive];rw[h r (by simp[LA.roots])]
 |Bl c=>simp only[St.alive];rw[Ak (h c.r (by simp[LA.roots]))]
 |_=>rfl
theorem Nu{la:LA}(h:A7 s s' la.roots):s'.sure la=s.sure la:=by
 cases la with
 |ptr r j AA=>simp only[St.sure];rw[h r (by simp[LA.roots])]
 |ref c=>simp only[St.sure];rw[Ak (h c.r (by simp[LA.roots]))]
 |win c lo hi=>simp only[St.sure];rw[Ak (h c.r (by simp[LA.roots]))]
 |Bl c=>simp only[St.sure];exact EN h
 |_=>rfl
theorem LJ{la:LA}(h:A7 s s' la.roots)(l:L)(k:LA→List (Nat×Nat)→Step β):s'.take cx v la l k=s.take cx v la l k:=by
 cases la with
 |ptr r j AA=>simp only[St.take];rw[h r (by simp[LA.roots])]
 |ref c=>simp only[St.take];rw[Ak (h c.r (by simp[LA.roots]))];simp only[Bb (h c.r (by simp[LA.roots]))]
 |win c lo hi=>simp only[St.take];rw[Ak (h c.r (by simp[LA.roots]))]
 |_=>rfl
theorem Eh:∀ {ls:List L} {as:List LA} (h:A7 s s' (as.flatMap LA.roots)) (k:List LA→List (Nat×Nat)→Step β),s'.F9 cx v ls as k=s.F9 cx v ls as k
 | [],[],h,k=>rfl
 | [],_::_,h,k=>rfl
 |_::_,[],h,k=>rfl
 |l::ls,a::as,h,k=>by simp only[St.F9];rw[LJ fun r hr=>h r (by simp[hr])];congr 1;funext b us;exact Eh (fun r hr=>h r (by grind)) _
theorem M4{c:Loc}(h:s'.root c.r=s.root c.r)(g:Nat)(vs:List Lv):s'.KO g c vs=s.KO g c vs:=by unfold St.KO;rw[Ak h]
theorem I6{la:LA}(h:A7 s s' la.roots){as:List LA}(h2:A7 s s' (as.flatMap LA.roots))(ls:List L)(k:List Wr→Step β):s'.GX cx v la ls as k=s.GX cx v la ls as k:=by
 cases la with
 |ptr r j AA=>simp only[St.GX];rw[h r (by simp[LA.roots]),Eh h2]
 |Bl c=>
  simp only[St.GX];have hh:s'.half c.r c.j=s.half c.r c.j:=by unfold St.half;rw[Ak (h c.r (by simp[LA.roots]))]
  have hs:s'.C4 v c ls as k=s.C4 v c ls as k:=by unfold St.C4;rw[Ak (h c.r (by simp[LA.roots]))];simp only[DR h2]
  rw[DR h2,Eh h2,Ak (h c.r (by simp[LA.roots])),hh,hs];congr 2;funext vs;rw[M4 (h c.r (by simp[LA.roots]))]
 |_=>rfl
theorem MW{la:LA}(h:A7 s s' la.roots)(k:Int→Step β):lenOf s' la k=lenOf s la k:=by
 cases la with
 |ref c=>exact Bb (h c.r (by simp[LA.roots])) _
 |win c lo hi=>exact Bb (h c.r (by simp[LA.roots])) _
 |_=>rfl
theorem GN{la:LA}(h:A7 s s' la.roots)(t:TypeId)(e:Ls)(k:List e.D→List (Nat×Nat)→Step β):Ec cx s' la t e k=Ec cx s la t e k:=by
 unfold Ec;rw[B5 h];cases la with
 |ref c=>simp only;rw[Ak (h c.r (by simp[LA.roots]))]
 |_=>rfl
theorem Jn{la lb:LA}(h:A7 s s' la.roots)(h2:A7 s s' lb.roots)(d v:Nat)(t:TypeId)(e:Ls)(k:List Wr→Step β):C7 cx s' d v t e la lb k=C7 cx s d v t e la lb k:=by
 cases la with
 |CP=>simp only[C7];exact GN h2 _ _ _
 |ref c=>
  simp only[C7];rw[Ak (h c.r (by simp[LA.roots]))];cases s.leaf c.r c.j with
  |arr AA gen t' e' xs dd=>
   simp only;split
   ·split
    ·exact GN h2 _ _ _
    ·rfl
   ·rfl
  |_=>rfl
 |win c lo hi=>
  simp only[C7];rw[Ak (h c.r (by simp[LA.roots]))];cases s.leaf c.r c.j with
  |arr AA gen t' e' xs dd=>
   simp only;split
   ·split
    ·exact GN h2 _ _ _
    ·rfl
   ·rfl
  |_=>rfl
 |_=>rfl
theorem JD{la lb:LA}(h:A7 s s' la.roots)(h2:A7 s s' lb.roots)(d v:Nat)(t:TypeId)(e:Ls)(k:List Wr→Step β):Dq cx s' d v t e la lb k=Dq cx s d v t e la lb k:=by
 unfold Dq;cases hn:nested la with
 |none=>
  have hh:EY s' la=EY s la:=by
   cases la with
   |ref c=>
    unfold EY St.half;simp only[Ak (h c.r (by simp[LA.roots]))]
   |_=>rfl
  dsimp only;rw[hh];cases hq:EY s la with
  |none=>exact Jn h h2 d v t e k
  |some c=>
   have hc:c.r∈la.roots:=by
    unfold EY at hq;split at hq
    ·split at hq
     ·split at hq
      ·injection hq with hq;subst hq;simp[LA.roots]
      ·cases hq
     ·cases hq
    ·cases hq
   dsimp only;unfold D0;rw[Ak (h c.r hc)];simp only[B5 h2]
 |some c=>
  have hc:c.r∈la.roots:=by
   unfold nested at hn;split at hn
   ·split at hn
    ·injection hn with hn;subst hn;simp[LA.roots]
    ·cases hn
   ·cases hn
  dsimp only;unfold D1;rw[Ak (h c.r hc)];simp only[Bb (h c.r hc),B5 h2]
theorem Jw{fs:List (Nat×TypeId)}:∀ {ps:List (Nat×Operand)} (h:∀p∈ps,s'.Au p.2=s.Au p.2∧A7 s s' (s.Au p.2).roots) (ls:List LA),Hm cx s' fs ps ls=Hm cx s fs ps ls
 | [],h,ls=>rfl
 |(i,x)::ps,h,ls=>by
  obtain⟨h1,h2⟩:=h (i,x) (by simp);dsimp only at h1 h2;simp only[Hm];rw[h1];generalize s.Au x=p at h2;cases p with
  |Dp vs=>rfl
  |bx as=>rfl
  |v g as=>
   have:as.all s'.sure=as.all s.sure:=by rw[Bool.eq_iff_iff,kL,kL];refine forall_congr' fun b=>forall_congr' fun hb=>?_;rw[Nu fun r hr=>h2 r (kA.2 ⟨b,hb,hr⟩)]
   cases H5 fs i with
   |none=>rfl
   |some q=>
    obtain⟨off,t⟩:=q;dsimp only;cases cx.ty t with
    |none=>rfl
    |some tf=>
     dsimp only;rw[this];split
     ·exact Jw (fun p hp=>h p (kB _ hp)) _
     ·rfl
theorem Hh{e:Ls}:∀ {ps:List (Nat×Operand)} (h:∀p∈ps,s'.Au p.2=s.Au p.2∧A7 s s' (s.Au p.2).roots) (n:Nat) (k:List e.D→List (Nat×Nat)→Step β),Cm cx s' v e ps n k=Cm cx s v e ps n k
 | [],h,n,k=>rfl
 |(i,x)::ps,h,n,k=>by
  obtain⟨h1,h2⟩:=h (i,x) (by simp);dsimp only at h1 h2;have ih:∀(n:Nat) (k:List e.D→List (Nat×Nat)→Step β),Cm cx s' v e ps n k=Cm cx s v e ps n k:=Hh fun p hp=>h p (kB _ hp);simp only[Cm];rw[h1];generalize s.Au x=p at h2;cases p with
  |Dp vs=>rfl
  |bx as=>rfl
  |v g as=>
   have h2:A7 s s' (as.flatMap LA.roots):=h2;simp only[DR h2,Eh h2,ih]
theorem EF:∀ {as:List LA} {c:Loc},Cf as=some c→c.r∈as.flatMap LA.roots
 | [],c,h=>by cases h
 |a::as,c,h=>by
  rw[ke];unfold Cf at h;split at h
  ·rename_i c' WS;injection h with h;subst h
   obtain⟨e1,_⟩:=FY WS;exact kK _ (by rw[e1];simp[LA.roots])
  ·exact kH _ (EF h)
theorem Li{e:Ls}{ps:List (Nat×Operand)}(h:∀p∈ps,s'.Au p.2=s.Au p.2∧A7 s s' (s.Au p.2).roots):EA s' e ps=EA s e ps:=by
 unfold EA;split
 ·rfl
 ·split
  ·rename_i x;rw[(h (0,x) (by simp)).1]
  ·rfl
theorem JF{e:Ls}{ps:List (Nat×Operand)}(h:∀p∈ps,s'.Au p.2=s.Au p.2∧A7 s s' (s.Au p.2).roots){x:Operand}{c:Loc}(hl:EA s e ps=some (x,c))(d v:Nat)(t:TypeId)(k:List Wr→Step β):
  C2 cx s' d v t e x c k=C2 cx s d v t e x c k:=by
 unfold EA at hl;split at hl
 ·cases hl
 ·split at hl
  ·rename_i x';split at hl
   ·rename_i g as Y9;split at hl
    ·rename_i c' WS;injection hl with hl
     injection hl with e1 e2
     subst e1;subst e2;obtain⟨h1,h2⟩:=h (0,x') (by simp);dsimp only at h1 h2;rw[Y9]at h2;have h2:A7 s s' (as.flatMap LA.roots):=h2;unfold C2;rw[h1,Y9];dsimp only;rw[Ak (h2 c'.r (EF WS))];simp only[DR h2]
    ·cases hl
   ·cases hl
  ·cases hl
theorem He(r:Nat):∀(ls:List (L×Nat)) (as:List LA) (j:Nat),EU ls as=true→∀b∈A5 r j as,∀r'∈b.roots,r'=r
 | [],[],j,h,b,hb,r',hr=>by cases hb
 | [],_::_,j,h,b,hb,r',hr=>by cases h
 |_::_,[],j,h,b,hb,r',hr=>by cases h
 |(l,m)::ls,a::as,j,h,b,hb,r',hr=>by
  simp only[EU,j8]at h;rcases kS.1 hb with hb|hb
  ·subst hb;cases a with
   |arr AA gen t e xs d=>simpa[seen,LA.roots]using hr
   |sc l x=>simp[seen,LA.roots]at hr
   |_=>simp at h
  ·exact He r ls as (j+1) h.2 b hb r' hr
theorem Ly{la:LA}(h:A7 s s' la.roots)(l:L)(d:Nat)(k:Lv→List Tg→Step β):Jb s' l d la k=Jb s l d la k:=by
 cases l with
 |sl t e=>
  cases la with
  |ref c=>
   show(if d != 4&&(match s'.leaf c.r c.j with
    | .arr _ _ _ _ _ dd=>dd==d&&(isNil c.p||d==2)
    |_=>false)then s'.datum (.sl t e) (.ref c) _ else Step.none)=(if d != 4&&(match s.leaf c.r c.j with
    | .arr _ _ _ _ _ dd=>dd==d&&(isNil c.p||d==2)
    |_=>false)then s.datum (.sl t e) (.ref c) _ else Step.none)
   rw[Ak (h c.r (by simp[LA.roots])),B5 h]
  |_=>rfl
 |int i=>exact B5 h _
 |bool=>exact B5 h _
 |str=>exact B5 h _
theorem IJ:∀ {ls:List (L×Nat)} {as:List LA} (h:A7 s s' (as.flatMap LA.roots)) (k:List Lv→List Tg→Step β),Ez s' ls as k=Ez s ls as k
 | [],[],h,k=>rfl
 | [],_::_,h,k=>rfl
 |_::_,[],h,k=>rfl
 |(l,d)::ls,a::as,h,k=>by simp only[Ez];rw[Ly fun r hr=>h r (by simp[hr])];congr 1;funext x us;exact IJ (fun r hr=>h r (by grind)) _
theorem I3:∀ {ls:List (L×Nat)} {as:List LA} (h:A7 s s' (as.flatMap LA.roots)) (vs:List Lv),putRow s' v ls as vs=putRow s v ls as vs
 | [],[],h,vs=>rfl
 | [],_::_,h,vs=>by simp[putRow]
 |_::_,[],h,vs=>by simp[putRow]
 |_::_,_::_,h,[]=>by simp[putRow]
 |(l,d)::ls,a::as,h,x::vs=>by
  simp only[putRow];rw[I3 (fun r hr=>h r (by grind)) vs];cases a with
  |ref c=>
   have e:s'.leaf c.r c.j=s.leaf c.r c.j:=Ak (h c.r (by simp[LA.roots])) c.j;simp only[e]
  |_=>rfl
theorem GI:∀ {ps:List PM} {vs:List AV} (h:∀a∈vs,A7 s s' a.roots) (k:List Lv→List Tg→Step β),Aq s' ps vs k=Aq s ps vs k
 | [],[],h,k=>rfl
 | [],_::_,h,k=>by simp only[Aq]
 |pm::ps,[],h,k=>by cases pm<;>simp only[Aq]
 |pm::ps,a::vs,h,k=>by
  have ih:∀(k:List Lv→List Tg→Step β),Aq s' ps vs k=Aq s ps vs k:=GI fun a ha=>h a (kB _ ha);have ha:=h a (by simp);cases pm with
  |val g ls=>
   cases a with
   |Dp vs=>simp only[Aq]
   |bx as=>simp only[Aq]
   |v g' as=>
    simp only[Aq];rw[DR (show A7 s s' (as.flatMap LA.roots)from ha)];grind
  |fn f=>
   unfold Aq;grind
  |box ls=>
   unfold Aq;split
   all_goals (try rename_i e1 e2;try cases e1;try cases e2;try rfl)
   rename_i r AA;have hr:s'.root r=s.root r:=ha r (by simp[AV.roots,LA.roots])
   ·rw[hr];by_cases hc:((s.root r).box&&(s.root r).AA==AA&&EU ls (s.root r).ls)=true
    ·rw[kF hc,kF hc];have Zl:EU ls (s.root r).ls=true:=by simp only[j8]at hc;exact hc.2
     have hd:A7 s s' ((A5 r 0 (s.root r).ls).flatMap LA.roots):=fun r' WV=>by obtain⟨b,hb,Vz⟩:=kA.1 WV;rw[He r ls _ 0 Zl b hb r' Vz];exact hr
     simp only[ih];exact DR hd _
    grind
   all_goals rfl
  |row g ls=>
   cases a with
   |Dp vs=>simp only[Aq]
   |bx as=>simp only[Aq]
   |v g' as=>
    simp only[Aq];rw[IJ (show A7 s s' (as.flatMap LA.roots)from ha)];grind
theorem FC{r:Nat}(hr:s'.root r=s.root r):∀(k:Nat) (ls:List (L×Nat)) (vs:List Lv),AY s' r v k ls vs=AY s r v k ls vs
 |_,[],_=>by simp only[AY]
 |_,_::_,[]=>by simp only[AY]
 |k,(l,m)::ls,x::xs=>by simp only[AY,FC hr (k+1) ls xs,Ak hr]
theorem Gp:∀ {ps:List PM} {WC:List AV} (h:∀a∈WC,A7 s s' a.roots) (vs:List Lv),AX s' v ps WC vs=AX s v ps WC vs
 | [],[],h,[]=>rfl
 | [],[],h,_::_=>rfl
 | [],_::_,h,vs=>by simp only[AX]
 |pm::ps,[],h,vs=>by cases pm<;>simp only[AX]
 |pm::ps,a::WC,h,vs=>by
  have ih:∀vs,AX s' v ps WC vs=AX s v ps WC vs:=Gp fun a ha=>h a (kB _ ha);have ha:=h a (by simp);cases pm with
  |val g ls=>simp only[AX,ih]
  |fn f=>simp only[AX,ih]
  |box ls=>
   unfold AX;split
   all_goals (try rename_i e1 e2;try cases e1;try cases e2;try rfl)
   ·rename_i r AA;have hr:s'.root r=s.root r:=ha r (by simp[AV.roots,LA.roots]);rw[ih,FC hr]
   all_goals rfl
  |row g ls=>
   cases a with
   |Dp vs=>simp only[AX]
   |bx as=>simp only[AX]
   |v g' as=>
    simp only[AX];rw[I3 (show A7 s s' (as.flatMap LA.roots)from ha)];grind
theorem FM{not:Nat}:∀ {bs:List (List L)} {ps:List (Nat×Nat)} (h:∀p∈ps,s'.root p.1=s.root p.1) (k:List Lv→Step β),DP s' not bs ps k=DP s not bs ps k
 | [],[],h,k=>rfl
 | [],_::_,h,k=>rfl
 |_::_,[],h,k=>rfl
 |ls::bs,(r,AA)::ps,h,k=>by
  have hr:s'.root r=s.root r:=h (r,AA) (by simp);simp only[DP];rw[hr];split
  ·rename_i hc;simp only[j8]at hc;have Wa:=hc.2
   have dY:A7 s s' ((A5 r 0 (s.root r).ls).flatMap LA.roots):=fun r' WV=>by
    obtain⟨y,hy,X5⟩:=kA.1 WV;obtain⟨i,hi⟩:=ko hy;rw[Cz]at hi;cases hq:(s.root r).ls[i]? with
    |none=>grind
    |some y0=>
     rw[hq]at hi;injection hi with hi
     subst hi;have:=kL.1 Wa y0 (kC hq);cases y0 with
     |arr=>
      have:r'=r:=by simpa[seen,LA.roots]using X5
      grind
     |sc=>simp[seen,LA.roots]at X5
     |_=>cases this
   rw[DR dY];congr 1;funext x;exact FM (fun p hp=>h p (kB _ hp)) _
  ·rfl
theorem D6{c:Loc}{qs:List (Nat×Nat)}(hq:∀p∈qs,s'.root p.1=s.root p.1):∀ {cs:List KW} {ps:List (Nat×Nat)} (h:∀p∈ps,s'.root p.1=s.root p.1) (k:List Lv→Step β),Bw s' c qs cs ps k=Bw s c qs cs ps k
 | [],[],h,k=>rfl
 | [],_::_,h,k=>rfl
 | .box _::_,[],h,k=>rfl
 | .EI _ _::_,[],h,k=>rfl
 | .row::_,[],h,k=>rfl
 | .box ls::cs,p::ps,h,k=>by simp only[Bw];rw[FM (fun q hq=>h q (by grind))];congr 1;funext x;exact D6 hq (fun p hp=>h p (kB _ hp)) _
 | .EI g bs::cs,(r,AA)::ps,h,k=>by
  have hr:s'.root r=s.root r:=h (r,AA) (by simp);simp only[Bw];rw[hr];split
  ·split
   ·rename_i hc;simp only[j8]at hc;have Wa:=hc.2;rw[FM (fun p hp=>hq p (by grind))];congr 1;funext x;exact D6 hq (fun p hp=>h p (kB _ hp)) _
   ·rfl
  ·rfl
 | .row::cs,(r,AA)::ps,h,k=>by
  have hr:s'.root r=s.root r:=h (r,AA) (by simp);simp only[Bw];rw[hr];split
  ·exact D6 hq (fun p hp=>h p (kB _ hp)) _
  ·rfl
theorem KP{WC:List AV}(h:∀a∈WC,A7 s s' a.roots)(d:Nat)(f:FuncId)(k:List Wr→Step β):Dw cx s' d v f WC k=Dw cx s d v f WC k:=by
 unfold Dw;split
 ·rename_i t c g ps qs;have h1:=h (.v false [.JJ t c]) (by simp);have h2:=h (.v false [.EI g ps qs]) (by simp);have hc:s'.root c.r=s.root c.r:=h1 c.r (by simp[AV.roots,LA.roots]);have XN:∀p∈ps,s'.root p.1=s.root p.1:=fun p hp=>h2 p.1 (kA.2 ⟨.EI g ps qs,by simp,kK _ (kt.2 ⟨p,hp,rfl⟩)⟩);have gP:∀p∈qs,s'.root p.1=s.root p.1:=fun p hp=>h2 p.1 (kA.2 ⟨.EI g ps qs,by simp,kH _ (kt.2 ⟨p,hp,rfl⟩)⟩);rw[Ak hc];simp only[D6 gP XN]
 ·rfl
theorem I2:∀ {vs:List AV} (h:∀a∈vs,A7 s s' a.roots),Dj s' vs=Dj s vs∧∀ps,Dj s vs=some ps→behind s' ps=behind s ps
 | [],h=>⟨rfl,fun ps hp=>by simp only[Dj,Option.some.injEq]at hp;subst hp;rfl⟩
 |a::vs,h=>by
  obtain⟨ih1,ih2⟩:=I2 (vs:=vs) fun b hb=>h b (kB _ hb);have ha:=h a (by simp);unfold Dj;split
  ·rename_i e;exact absurd e (by simp)
  ·rename_i r AA YW e;injection e with e1 e2
   subst e1;subst e2;have hr:s'.root r=s.root r:=ha r (by simp[AV.roots,LA.roots]);rw[hr,ih1];refine⟨rfl,fun ps hp=>?_⟩;split at hp
   ·split at hp
    ·rename_i aI aY;injection hp with hp
     subst hp;simp only[behind];rw[hr,ih2 aI aY]
    ·cases hp
   ·cases hp
  grind
theorem L5{t:TypeId}{q:LA}{p:AV}{dst:Option Tmp}(h:A7 s s' q.roots):IQ cx s' t q p dst=IQ cx s t q p dst:=by
 unfold IQ;split
 ·split
  ·split
   ·rename_i r j AA;rw[h r (by simp[LA.roots])]
   ·rfl
  ·rfl
 ·rfl
theorem FT:∀ {rs:List Nat} (h:A7 s s' rs),Az cx s' rs=Az cx s rs
 | [],h=>rfl
 |r::rs,h=>by
  have hr:=h r (by simp)
  have hw:DB s' r=DB s r:=by
   unfold DB;have:s'.B2 r=s.B2 r:=by unfold St.B2;rw[hr]
   rw[this,hr]
  simp only[Az];rw[FT (fun r hr=>h r (kB _ hr)),hw]
theorem GC:∀(ps:List PM)(WC:List AV)(r:Nat),r∈Aj ps WC→∃a∈WC,r∈a.roots
 | [],_,r,h=>by simp[Aj]at h
 |pm::_,[],r,h=>by cases pm<;>simp[Aj]at h
 |pm::ps,a::WC,r,h=>by
  have ih:=GC ps WC r;have sub:r∈Aj ps WC→∃b∈a::WC,r∈b.roots:=fun h=>let ⟨b,hb,hr⟩:=ih h;⟨b,kB _ hb,hr⟩
  cases pm with
  |val g ls=>
   rcases lW.1 (show r∈a.roots++Aj ps WC from h)with h|h
   all_goals grind
  |_=>exact sub h
theorem NS{WC:List AV}(h:∀a∈WC,A7 s s' a.roots)(d:Nat)(f:FuncId)(k:List Wr→Step β):call cx s' d v f WC k=call cx s d v f WC k:=by
 unfold call;cases cx.env.fn f with
 |none=>exact KP h d f k
 |some g=>
  dsimp only;cases g.s.mk? with
  |true=>simp only[if_true];rw[GI h]
  |false=>
  simp only[lh,if_false];rw[GI h];have h2:∀vs,AX s' v g.s.ps WC vs=AX s v g.s.ps WC vs:=Gp h;have h3:Az cx s' (Aj g.s.ps WC)=Az cx s (Aj g.s.ps WC):=FT fun r hr=>let ⟨a,ha,WV⟩:=GC _ _ r hr;h a ha r WV
  grind
def Wr.JL:Wr→Bool
 | .leaf _ _ _=>true
 |_=>false
theorem EO(s:St)(r j:Nat)(a:LA)(r':Nat):(s.AF (.leaf r j a)).root r'=if r=r' then { s.root r with ls:=CZ (s.root r).ls j a }else s.root r':=by
 show nth dead (CZ s.ro r _) r'=_;rw[A4];by_cases h:r=r'
 ·subst h;by_cases hl:r<s.ro.length
  ·grind
  ·rw[kG (fun hh=>hl hh.2),kF rfl];have:s.root r=dead:=A6 _ (lA hl);show s.root r=_;rw[this];rfl
 ·rw[kG (fun hh=>h hh.1),kG h];rfl
theorem A7.app{rs:List Nat}(h:A7 s s' rs):∀ {fs:List Wr},(∀w∈fs,w.JL=true)→A7 (s.app fs) (s'.app fs) rs:=by
 intro fs hf r hr
 have key:∀(fs:List Wr)(s s':St),(∀w∈fs,w.JL=true)→s'.root r=s.root r→(s'.app fs).root r=(s.app fs).root r:=by
  intro fs
  induction fs with
  |nil=>intro s s' _ h;exact h
  |cons w fs ih=>
   intro s s' hf h;have hw:=hf w kR;refine ih _ _ (fun x hx=>hf x (kB _ hx)) ?_;cases w with
   |leaf r0 j a=>
    rw[EO,EO];grind
   |slot t a=>cases hw
   |root r x=>cases hw
   |half r j v=>cases hw
 exact key fs s s' hf (h r hr)
theorem Fy:∀(r j:Nat)(ls:List LA),∀w∈BD r j ls,w.JL=true
 |_,_,[],w,hw=>by cases hw
 |r,j,a::as,w,hw=>by
  rcases kS.1 hw with e|hw
  ·subst e;rfl
  ·exact Fy r (j+1) as w hw
theorem Fo:∀ {rs:List Nat} {fs:List Wr},Az cx s rs=some fs→∀w∈fs,w.JL=true
 | [],fs,h,w,hw=>by injection h with h;grind
 |r::rs,fs,h,w,hw=>by
  simp only[Az]at h;split at h
  ·cases h
  ·split at h
   ·rename_i XX YS;injection h with h;subst h
    rcases lW.1 hw with hw|hw
    ·unfold DB at hw;split at hw
     ·cases hw
     ·exact Fy r 0 _ w hw
    ·exact Fo YS w hw
   ·cases h
theorem Ew:∀ {as:List LA} {r:Nat},r∈H0 as→r∈as.flatMap LA.roots
 | [],r,h=>by cases h
 |a::as,r,h=>by
  rw[ke];refine lW.2 ?_;cases a with
  |ref c=>
   simp only[H0]at h;split at h
   ·exact .inr (Ew h)
   ·rcases kS.1 h with e|h
    ·subst e;exact .inl (by simp[LA.roots])
    ·exact .inr (Ew h)
  |_=>exact .inr (Ew (by simpa[H0]using h))
theorem Lm{q:LA}{as:List LA}{r:Nat}(h:r∈Mh q as):r∈as.flatMap LA.roots:=by
 cases q with
 |ptr=>exact Ew h
 |_=>cases h
def LA.norm:LA→LA
 | .arr AA _ t e xs (_+1)=>.arr AA 0 t e xs 1
 |a=>a
def Bo.norm(x:Bo):Bo:={ x with ls:=x.ls.map LA.norm }
def Ny(m:Nat)(s s':St):Prop:=(∀t,m.testBit (2*t)=true→s'.slot t=s.slot t)∧(∀r,m.testBit (4*r+1)=true→m.testBit (4*r+3)=true→s'.root r=s.root r)∧∀r,m.testBit (4*r+1)=true→(s'.root r).norm=(s.root r).norm
end
end Go.Ev
namespace Go.Ev
section
variable {s s':St}{cx:Cx}{v:Nat}{β:Type}
def Ga(s s':St)(x:Operand):Prop:=s'.Au x=s.Au x∧A7 s s' (s.Au x).roots
theorem Ga.one{x:Operand}(h:Ga s s' x):s'.Al x=s.Al x∧A7 s s' (s.Al x).roots:=by
 refine⟨by unfold St.Al;rw[h.1],fun r hr=>h.2 r ?_⟩;unfold St.Al at hr;cases hq:s.Au x with
 |Dp vs=>rw[hq]at hr;cases hr
 |bx as=>rw[hq]at hr;cases hr
 |v g as=>
  rw[hq]at hr;cases g with
  |true=>cases hr
  |false=>cases as with
   |nil=>cases hr
   |cons b bs=>cases bs with
    |nil=>exact kA.2 ⟨b,by simp,hr⟩
    |cons=>cases hr
theorem En{x:Option Operand}(h:∀y,x=some y→Ga s s' y)(d:Int)(k:Int→Step β):Df s' x d k=Df s x d k:=by
 cases x with
 |none=>rfl
 |some y=>simp only[Df];rw[(h y rfl).one.1]
theorem La{o:Oper}{c:Call}(ho:o.op=.call c)(WJ:∀x∈c.args.toList,Ga s s' x)(YH:∀f,c.callee=.value f→Ga s s' f):AB cx v o s'=AB cx v o s:=by
 cases hb:c.callee with
 |builtin b=>
  cases b with
  |len=>
   simp only[AB,ho,hb];split
   ·rename_i x t hx ht;have hx:=(WJ x (by rw[hx];simp)).one;simp only[hx.1,MW hx.2]
   ·rfl
  |append=>
   simp only[AB,ho,hb];split
   ·rename_i x y t1 t2 ty d hx _ _ _;have Xs:=(WJ x (by rw[hx];simp)).one;have bw:=(WJ y (by rw[hx];simp)).one;simp only[Xs.1,bw.1,JD Xs.2 bw.2]
   ·rfl
  |min=>
   simp only[AB,ho,hb];split
   ·rename_i x y hx;have Xs:=(WJ x (by rw[hx];simp)).one;have bw:=(WJ y (by rw[hx];simp)).one;grind
   ·rfl
  |max=>
   simp only[AB,ho,hb];split
   ·rename_i x y hx;have Xs:=(WJ x (by rw[hx];simp)).one;have bw:=(WJ y (by rw[hx];simp)).one;grind
   ·rfl
  |_=>simp only[AB,ho,hb]
 |value f=>
  have hf:=(YH f hb).one;have ZV:c.args.toList.map s'.Au=c.args.toList.map s.Au:=List.map_congr_left fun x hx=>(WJ x hx).1
  have Wx:∀a∈c.args.toList.map s.Au,A7 s s' a.roots:=fun a ha=>by obtain⟨x,hx,rfl⟩:=kt.1 ha;exact(WJ x hx).2
  simp only[AB,ho,hb];rw[hf.1,ZV];simp only[NS Wx]
 |invoke r n=>simp only[AB,ho,hb]
theorem H6{o:Oper}(h:∀x∈o.op.operands.toList,Ga s s' x):AB cx v o s'=AB cx v o s:=by
 by_cases WB:∃c,o.op=.call c
 ·obtain⟨c,ho⟩:=WB;exact La ho (fun x hx=>h x (by rw[ho];simp[Op.operands,Call.operands];grind)) fun f hb=>h f (by rw[ho];simp[Op.operands,Call.operands,hb])
 unfold AB;cases ho:o.op with
 |move x=>
  have hx:=h x (by rw[ho];simp[Op.operands]);simp only[hx.1]
 |assign x=>
  have hx:=(h x (by rw[ho];simp[Op.operands])).one;simp only[hx.1];cases o.dst with
  |none=>rfl
  |some d=>
   have XW:=hx.2;generalize s.Al x=p at XW;cases p<;>first|rfl|simp only[LJ XW]
 |pick x y z=>
  have hx:=(h x (by rw[ho];simp[Op.operands])).one;have hy:=h y (by rw[ho];simp[Op.operands]);have hz:=h z (by rw[ho];simp[Op.operands]);simp only[hx.1,hy.1,hz.1]
 |alloc t=>rfl
 |box t x=>
  have hx:=h x (by rw[ho];simp[Op.operands]);simp only[hx.1];have XW:=hx.2;generalize s.Au x=p at XW;cases cx.ty t with
  |none=>rfl
  |some ty=>cases o.dst with
   |none=>rfl
   |some d=>cases p with
    |Dp vs=>rfl
    |bx as=>rfl
    |v g as=>
     simp only[K4 (show A7 s s' (as.flatMap LA.roots)from XW),Eh (show A7 s s' (as.flatMap LA.roots)from XW)]
 |build t ps=>
  have hp:∀p∈ps.toList,s'.Au p.2=s.Au p.2∧A7 s s' (s.Au p.2).roots:=fun p hp=>h p.2 (by rw[ho];simp only[Op.operands,List.toList_toArray];grind);simp only[Jw hp]
 |buildSlice t n ps=>
  have hp:∀p∈ps.toList,s'.Au p.2=s.Au p.2∧A7 s s' (s.Au p.2).roots:=fun p hp=>h p.2 (by rw[ho];simp only[Op.operands,List.toList_toArray];grind);simp only[Hh hp,Li hp];cases cx.ty t with
  |none=>rfl
  |some ty=>cases o.dst with
   |none=>rfl
   |some d=>
    dsimp only;split
    ·rfl
    ·cases ty.ls with
     |one l=>cases l with
      |sl t' e=>
       dsimp only;split
       ·cases hq:EA s e ps.toList with
        |none=>rfl
        |some q=>exact JF hp hq _ _ _ _
       ·rfl
      |_=>rfl
     |_=>rfl
 |load t x=>
  have hx:=h x (by rw[ho];simp[Op.operands]);simp only[hx.1,Lj hx.2]
 |store t x y=>
  have hx:=(h x (by rw[ho];simp[Op.operands])).one;have hy:=h y (by rw[ho];simp[Op.operands]);simp only[hx.1,hy.1];have bz:=hy.2;generalize s.Au y=p at bz;cases cx.ty t with
  |none=>
   have XW:=hx.2;generalize s.Al x=q at XW;exact L5 XW
  |some ty=>cases p with
   |Dp vs=>rfl
   |bx as=>rfl
   |v g as=>
    have bz:A7 s s' (as.flatMap LA.roots):=bz;dsimp only;cases hn:Mh (s.Al x) as with
    |nil=>simp only[GW,I6 hx.2 bz]
    |cons r rs=>
     have Wb:A7 s s' (r::rs):=fun r' WV=>bz r' (by rw[←hn]at WV;exact Lm WV);simp only[FT Wb];cases hf:Az cx s (r::rs)with
     |none=>rfl
     |some fs=>
      have Zv:=Fo hf;simp only[GW,I6 (hx.2.app Zv) (bz.app Zv)]
 |makeInterface t x=>
  have hx:=(h x (by rw[ho];simp[Op.operands])).one;grind
 |makeFunc fn xs ys=>
  cases fn with
  |func g=>
   have ZV:ys.toList.map s'.Au=ys.toList.map s.Au:=List.map_congr_left fun y hy=>(h y (by rw[ho];simp[Op.operands];exact .inr (by simpa using hy))).1
   have Wx:∀a∈ys.toList.map s.Au,A7 s s' a.roots:=fun a ha=>by
    obtain⟨y,hy,rfl⟩:=kt.1 ha;exact(h y (by rw[ho];simp[Op.operands];exact .inr (by simpa using hy))).2
   obtain⟨e1,e2⟩:=I2 Wx;grind
  |_=>rfl
 |nilCheck x=>
  have hx:=h x (by rw[ho];simp[Op.operands]);simp only[hx.1];have XW:=hx.2;generalize s.Au x=p at XW;cases p with
  |bx as=>rfl
  |v g as=>simp only[EN (Eo XW)]
  |Dp vs=>simp only[EN (Eo XW)]
 |binOp op tx x y ty=>
  have hx:=h x (by rw[ho];simp[Op.operands]);have hy:=h y (by rw[ho];simp[Op.operands]);simp only[hx.1,hy.1]
 |unOp op tx x=>
  have hx:=(h x (by rw[ho];simp[Op.operands])).one;grind
 |convert t1 t2 x=>
  have hx:=(h x (by rw[ho];simp[Op.operands])).one;simp only[hx.1];have XW:=hx.2;generalize s.Al x=p at XW;cases cx.ty t1 with
  |none=>rfl
  |some ta=>cases cx.ty t2 with
   |none=>rfl
   |some ty=>cases p with
    |sc l z=>cases l<;>first|rfl|(simp only[B5 XW])
    |_=>simp only[B5 XW]
 |makeSlice t x y=>
  have hx:=(h x (by rw[ho];simp[Op.operands])).one;have hy:=(h y (by rw[ho];simp[Op.operands])).one;simp only[hx.1,hy.1]
 |slice ti x lo hi m=>
  have hx:=(h x (by rw[ho];simp[Op.operands])).one;have XI:∀y,lo=some y→Ga s s' y:=fun y e=>h y (by rw[ho,e];simp[Op.operands]);have Ys:∀y,hi=some y→Ga s s' y:=fun y e=>h y (by rw[ho,e];simp[Op.operands]);cases m with
  |some m=>rfl
  |none=>
   simp only[hx.1];have XW:=hx.2;generalize s.Al x=p at XW;cases p with
   |sc l b=>cases l<;>simp only[En XI,En Ys]
   |ref c=>simp only[En XI,En Ys,Bb (XW c.r (by simp[LA.roots]))]
   |_=>rfl
 |fieldAddr t x f=>
  have hx:=h x (by rw[ho];simp[Op.operands]);simp only[hx.1];have XW:=hx.2;generalize s.Au x=p at XW;cases p with
  |bx as=>rfl
  |v g as=>simp only[EN (Eo XW)]
  |Dp vs=>simp only[EN (Eo XW)]
 |field t x f=>
  have hx:=h x (by rw[ho];simp[Op.operands]);simp only[hx.1]
 |indexAddr ti x i=>
  have hx:=(h x (by rw[ho];simp[Op.operands])).one;have hi:=(h i (by rw[ho];simp[Op.operands])).one;simp only[hx.1,hi.1];have XW:=hx.2;generalize s.Al x=p at XW;cases p with
  |ref c=>simp only[Bb (XW c.r (by simp[LA.roots]))]
  |win c lo hi=>simp only[Bb (XW c.r (by simp[LA.roots]))]
  |sc l b=>grind
  |_=>rfl
 |index ti x i=>
  have hx:=(h x (by rw[ho];simp[Op.operands])).one;have hi:=(h i (by rw[ho];simp[Op.operands])).one;grind
 |extract x i=>
  have hx:=h x (by rw[ho];simp[Op.operands]);simp only[hx.1]
 |call c=>grind
 |_=>rfl
theorem AJ(a b i:Nat):(Nat.lor a b).testBit i=(a.testBit i||b.testBit i):=Nat.testBit_or a b i
theorem Ck(n i:Nat):(2 ^ n).testBit i=decide (n=i):=Nat.testBit_two_pow
theorem Gy(r i:Nat):(JX r).testBit i=decide (4*r+1=i):=Ck _ _
theorem EZ(r i:Nat):(J5 r).testBit i=decide (4*r+3=i):=Ck _ _
theorem G5(a:AV)(r:Nat)(h:r∈a.roots):a.mask.testBit (4*r+1)=true∧a.mask.testBit (4*r+3)=true:=by
 unfold AV.mask
 revert h
 generalize a.roots=rs;intro h
 induction rs with
 |nil=>cases h
 |cons x rs ih=>
  rw[List.foldr_cons,AJ,AJ,AJ,AJ,Gy,EZ,Gy,EZ];grind
theorem Io(s:St):∀(xs:List Operand)(m0:Nat)(x:Operand),x∈xs→(∀t,x=.tmp t→(xs.foldr (fun x m=>match x with
  | .tmp t=>Nat.lor (2 ^ (2*t)) (Nat.lor (s.slot t).mask m)
  |_=>m) m0).testBit (2*t)=true∧∀r∈(s.slot t).roots,(xs.foldr (fun x m=>match x with
  | .tmp t=>Nat.lor (2 ^ (2*t)) (Nat.lor (s.slot t).mask m)
  |_=>m) m0).testBit (4*r+1)=true∧(xs.foldr (fun x m=>match x with
  | .tmp t=>Nat.lor (2 ^ (2*t)) (Nat.lor (s.slot t).mask m)
  |_=>m) m0).testBit (4*r+3)=true)
 | [],m0,x,h,t,e=>by cases h
 |y::xs,m0,x,h,t,e=>by
  rw[List.foldr_cons];rcases kS.1 h with h|h
  ·subst h;subst e;dsimp only;refine⟨by rw[AJ,Ck];simp,fun r hr=>⟨by rw[AJ,AJ,(G5 _ r hr).1];simp,by rw[AJ,AJ,(G5 _ r hr).2];simp⟩⟩
  ·obtain⟨h1,h2⟩:=Io s xs m0 x h t e;cases y with
   |tmp u=>
    dsimp only;exact⟨by rw[AJ,AJ,h1];simp,fun r hr=>⟨by rw[AJ,AJ,(h2 r hr).1];simp,by rw[AJ,AJ,(h2 r hr).2];simp⟩⟩
   |_=>grind
theorem Ho(s:St)(i:Nat):∀(xs:List Operand)(m0:Nat),m0.testBit i=true→(xs.foldr (fun x m=>match x with
  | .tmp t=>Nat.lor (2 ^ (2*t)) (Nat.lor (s.slot t).mask m)
  |_=>m) m0).testBit i=true
 | [],m0,h=>h
 |y::xs,m0,h=>by
  rw[List.foldr_cons];have:=Ho s i xs m0 h;cases y with
  |tmp u=>dsimp only;rw[AJ,AJ,this];simp
  |_=>exact this
theorem Jt(x:Operand)(h:∀t,x≠.tmp t):s'.Au x=s.Au x∧(s.Au x).roots=[]:=by
 have hv:∀v,(ofConst v).roots=[]:=fun v=>by
  cases v with
  |slice A n c=>
   cases A with
   |none=>cases n with
    |zero=>cases c<;>rfl
    |succ n=>rfl
   |some a=>rfl
  |pointer A=>cases A<;>rfl
  |_=>rfl
 cases x with
 |tmp t=>grind
 |const c=>
  cases c with
  |agg cs=>
   refine⟨rfl,?_⟩;show(cs.toList.map ofConst).flatMap LA.roots=[];rw[List.flatMap_map];simp only[hv,DS]
  |bool b=>exact⟨rfl,by simp[St.Au,AV.roots,hv]⟩
  |int k n=>exact⟨rfl,by simp[St.Au,AV.roots,hv]⟩
  |float k n=>exact⟨rfl,by simp[St.Au,AV.roots,hv]⟩
  |complex k x y=>exact⟨rfl,by simp[St.Au,AV.roots,hv]⟩
  |string b=>exact⟨rfl,by simp[St.Au,AV.roots,hv]⟩
  |pointer b=>exact⟨rfl,by simp[St.Au,AV.roots,hv]⟩
  |slice b n c=>exact⟨rfl,by simp[St.Au,AV.roots,hv]⟩
  |map r=>exact⟨rfl,by simp[St.Au,AV.roots,hv]⟩
  |chan r=>exact⟨rfl,by simp[St.Au,AV.roots,hv]⟩
  |func f x y=>exact⟨rfl,by simp[St.Au,AV.roots,hv]⟩
  |nilFunc=>exact⟨rfl,by simp[St.Au,AV.roots,hv]⟩
  |iface t x=>exact⟨rfl,by simp[St.Au,AV.roots,hv]⟩
  |nilIface=>exact⟨rfl,by simp[St.Au,AV.roots,hv]⟩
  |tuple vs=>exact⟨rfl,by simp[St.Au,AV.roots,hv]⟩
 |global g=>exact⟨rfl,rfl⟩
 |func f=>exact⟨rfl,rfl⟩
theorem Kt(r j:Nat):∀ {a b:LA},a.norm=b.norm→IN r j a=IN r j b:=by
 have key:∀a:LA,IN r j a=IN r j a.norm:=fun a=>by
  cases a with
  |arr AA gen t e xs d=>cases d<;>rfl
  |_=>rfl
 grind
theorem Ef(r:Nat):∀(j:Nat) {as bs:List LA},as.map LA.norm=bs.map LA.norm→BN r j as=BN r j bs
 |j,[],[],_=>rfl
 |j,[],b::bs,h=>by cases h
 |j,a::as,[],h=>by cases h
 |j,a::as,b::bs,h=>by simp only[lQ,List.cons.injEq]at h;simp only[BN,Kt r j h.1,Ef r (j+1) h.2]
theorem Ki{r j AA n:Nat}{β:Type}{k:List LA→Step β}(h:(s'.root r).norm=(s.root r).norm):s'.DG (.ptr r j AA) n k=s.DG (.ptr r j AA) n k:=by
 have h1:(s'.root r).box=(s.root r).box:=by have:=congrArg Bo.box h;exact this
 have h2:(s'.root r).AA=(s.root r).AA:=by have:=congrArg Bo.AA h;exact this
 have h3:(s'.root r).ls.map LA.norm=(s.root r).ls.map LA.norm:=by have:=congrArg Bo.ls h;exact this
 have h4:(s'.root r).ls.length=(s.root r).ls.length:=by have:=congrArg List.length h3;simpa using this
 have h5:BN r j (((s'.root r).ls.drop j).take n)=BN r j (((s.root r).ls.drop j).take n):=Ef r j (by rw[List.map_take,List.map_take,List.map_drop,List.map_drop,h3]);simp only[St.DG,h1,h2,h4,h5]
theorem NX{ops:Array Oper}{o:Oper}(h:Ny (A9 ops o s) s s'):AB cx v o s'=AB cx v o s∧∀j want t,o.guard=some (j,want)→(ops[j]?).bind (·.dst)=some t→s'.slot t=s.slot t:=by
 have YI:∀j want t,o.guard=some (j,want)→(ops[j]?).bind (·.dst)=some t→(BX ops o).testBit (2*t)=true:=by intro j want t hg ht;unfold BX;rw[hg];dsimp only;rw[ht];dsimp only;rw[Ck];simp
 by_cases hm:∃t,o.op=.move (.tmp t)∨(∃i,o.op=.extract (.tmp t) i)∨∃T f,o.op=.field T (.tmp t) f
 ·obtain⟨t,ho⟩:=hm;have aa:A9 ops o s=Nat.lor (2 ^ (2*t)) (BX ops o):=by rcases ho with ho|⟨i,ho⟩|⟨T,f,ho⟩<;>(unfold A9;rw[ho])
  rw[aa]at h;have h1:s'.slot t=s.slot t:=h.1 t (by rw[AJ,Ck];simp);refine⟨?_,fun j want u hg ht=>h.1 u (by rw[AJ,YI j want u hg ht];simp)⟩;have h2:s'.Au (.tmp t)=s.Au (.tmp t):=h1;unfold AB;rcases ho with ho|⟨i,ho⟩|⟨T,f,ho⟩<;>(rw[ho];grind)
 by_cases hp:∃t g r j AA,(∃T,o.op=.load T (.tmp t)∨∃f,o.op=.fieldAddr T (.tmp t) f)∧s.slot t=.v g [.ptr r j AA]
 ·obtain⟨t,g,r,j,AA,⟨T,ho⟩,hs⟩:=hp;have aa:A9 ops o s=Nat.lor (2 ^ (2*t)) (Nat.lor (JX r) (BX ops o)):=by rcases ho with ho|⟨f,ho⟩<;>(unfold A9;grind)
  rw[aa]at h;have h1:s'.slot t=s.slot t:=h.1 t (by rw[AJ,Ck];simp);have h2:(s'.root r).norm=(s.root r).norm:=h.2.2 r (by rw[AJ,AJ,Gy];simp);refine⟨?_,fun j want u hg ht=>h.1 u (by rw[AJ,AJ,YI j want u hg ht];simp)⟩;have h3:s.Au (.tmp t)=.v g [.ptr r j AA]:=hs;have h4:s'.Au (.tmp t)=.v g [.ptr r j AA]:=h1.trans hs
  have ha:s'.alive (AV.one? (.v g [.ptr r j AA]))=s.alive (AV.one? (.v g [.ptr r j AA])):=by
   cases g with
   |true=>rfl
   |false=>
    have h5:(s'.root r).box=(s.root r).box:=by have:=congrArg Bo.box h2;exact this
    have h6:(s'.root r).AA=(s.root r).AA:=by have:=congrArg Bo.AA h2;exact this
    show((s'.root r).box&&(s'.root r).AA==AA)=((s.root r).box&&(s.root r).AA==AA);rw[h5,h6]
  have hl:∀n (k:List LA→Step (List Wr)),s'.FW (.v g [.ptr r j AA]) n k=s.FW (.v g [.ptr r j AA]) n k:=fun n k=>by
   show s'.DG (AV.one? (.v g [.ptr r j AA])) n k=s.DG (AV.one? (.v g [.ptr r j AA])) n k;cases g with
   |true=>rfl
   |false=>exact Ki h2
  unfold AB;rcases ho with ho|⟨f,ho⟩
  ·rw[ho];grind
  ·rw[ho];simp only[h3,h4,ha]
 by_cases hq:∃t T,o.op=.load T (.tmp t)∨∃f,o.op=.fieldAddr T (.tmp t) f
 ·obtain⟨t,T,ho⟩:=hq
  have aa:A9 ops o s=Nat.lor (2 ^ (2*t)) (Nat.lor (s.slot t).mask (BX ops o)):=by
   have Yv:∀g r j AA,s.slot t≠.v g [.ptr r j AA]:=fun g r j AA hs=>hp ⟨t,g,r,j,AA,⟨T,ho⟩,hs⟩;rcases ho with ho|⟨f,ho⟩
   ·unfold A9;grind
   ·unfold A9;grind
  rw[aa]at h;have h1:s'.slot t=s.slot t:=h.1 t (by rw[AJ,Ck];simp);refine⟨H6 fun x hx=>?_,fun j want u hg ht=>h.1 u (by rw[AJ,AJ,YI j want u hg ht];simp)⟩
  have hx:x=.tmp t:=by
   rcases ho with ho|⟨f,ho⟩
   ·rw[ho]at hx;simpa[Op.operands]using hx
   ·rw[ho]at hx;simpa[Op.operands]using hx
  subst hx;exact⟨h1,fun r hr=>h.2.1 r (by rw[AJ,AJ,(G5 (s.slot t) r hr).1];simp) (by rw[AJ,AJ,(G5 (s.slot t) r hr).2];simp)⟩
 have aa:A9 ops o s=o.op.operands.toList.foldr (fun x m=>match x with
  | .tmp t=>Nat.lor (2 ^ (2*t)) (Nat.lor (s.slot t).mask m)
  |_=>m) (BX ops o):=by
  unfold A9;split
  ·grind
  ·grind
  ·grind
  ·grind
  ·grind
  ·rfl
 rw[aa]at h;refine⟨H6 fun x hx=>?_,fun j want t hg ht=>?_⟩
 ·by_cases hq:∃t,x=.tmp t
  ·obtain⟨t,rfl⟩:=hq;obtain⟨h1,h2⟩:=Io s o.op.operands.toList _ (.tmp t) hx t rfl;exact⟨h.1 t h1,fun r hr=>h.2.1 r (h2 r hr).1 (h2 r hr).2⟩
  ·obtain⟨h1,h2⟩:=Jt (s:=s) (s':=s') x fun t e=>hq ⟨t,e⟩;exact⟨h1,fun r hr=>by grind⟩
 ·exact h.1 t (Ho s _ _ _ (YI j want t hg ht))
end
end Go.Ev
namespace Go.Ev
def CH(m n:Nat):Prop:=∀i,m.testBit i=true→n.testBit i=false
theorem HQ{m n:Nat}(h:(Nat.land m n==0)=true):CH m n:=by
 intro i hi;have h0:m &&& n=0:=by simpa using h
 have:=congrArg (fun x=>x.testBit i) h0;grind
theorem CH.symm{m n:Nat}(h:CH m n):CH n m:=fun i hi=>by
 cases hm:m.testBit i with
 |false=>rfl
 |true=>rw[h i hm]at hi;cases hi
theorem B3(s:St)(w:Wr):(s.AF w).sl.length=s.sl.length∧(s.AF w).ro.length=s.ro.length:=by
 cases w<;>exact⟨by simp[St.AF,CY],by simp[St.AF,CY]⟩
theorem CB:∀(ws:List Wr)(s:St),(s.app ws).sl.length=s.sl.length∧(s.app ws).ro.length=s.ro.length
 | [],s=>⟨rfl,rfl⟩
 |w::ws,s=>by obtain⟨h1,h2⟩:=CB ws (s.AF w);obtain⟨h3,h4⟩:=B3 s w;exact⟨h1.trans h3,h2.trans h4⟩
theorem JC:∀(ws:List Wr)(s:St),(s.app ws).Bp=s.Bp
 | [],s=>rfl
 |w::ws,s=>(JC ws (s.AF w)).trans (by cases w<;>rfl)
theorem PE(t r:Nat):(JX r).testBit (2*t)=false∧(J5 r).testBit (2*t)=false:=by rw[Gy,EZ];grind
theorem HU{s:St}{w:Wr}{t:Nat}(h:w.mask.testBit (2*t)=false):(s.AF w).slot t=s.slot t:=by
 cases w with
 |slot u a=>
  simp only[Wr.mask,Ck,kb]at h;rw[BR,kG (fun hh=>h (by rw[hh.1]))]
 |root r x=>rfl
 |leaf r j a=>rfl
 |half r j v=>rfl
theorem Bd{s:St}{w:Wr}{r:Nat}(h:w.mask.testBit (4*r+3)=false):(s.AF w).root r=s.root r:=by
 cases w with
 |slot u a=>rfl
 |root q x=>
  simp only[Wr.mask,AJ,Gy,EZ,kZ,kb]at h;rw[A3,kG (fun hh=>h.2 (by rw[hh.1]))]
 |leaf q j a=>
  simp only[Wr.mask,AJ,Gy,EZ,kZ,kb]at h;show nth dead (CZ s.ro q _) r=_;rw[A4,kG (fun hh=>h.2 (by rw[hh.1]))];rfl
 |half q j v=>
  simp only[Wr.mask,EZ,kb]at h;show nth dead (CZ s.ro q _) r=_;rw[A4,kG (fun hh=>h (by rw[hh.1]))];rfl
theorem BS(w:Wr)(ws:List Wr)(i:Nat):(AE (w::ws)).testBit i=(w.mask.testBit i||(AE ws).testBit i):=AJ _ _ _
theorem De{t:Nat}:∀ {ws:List Wr} {s:St},(AE ws).testBit (2*t)=false→(s.app ws).slot t=s.slot t
 | [],s,h=>rfl
 |w::ws,s,h=>by rw[BS,kZ]at h;exact(De h.2).trans (HU h.1)
theorem Dd{r:Nat}:∀ {ws:List Wr} {s:St},(AE ws).testBit (4*r+3)=false→(s.app ws).root r=s.root r
 | [],s,h=>rfl
 |w::ws,s,h=>by rw[BS,kZ]at h;exact(Dd h.2).trans (Bd h.1)
theorem FA{t:Nat}:∀ {ws:List Wr} {s s':St},s'.sl.length=s.sl.length→s'.slot t=s.slot t→(s'.app ws).slot t=(s.app ws).slot t
 | [],s,s',hl,h=>h
 |w::ws,s,s',hl,h=>by
  show((s'.AF w).app ws).slot t=((s.AF w).app ws).slot t;refine FA ((B3 s' w).1.trans (hl.trans (B3 s w).1.symm)) ?_;cases w with
  |slot u a=>rw[BR,BR,hl,h]
  |root r x=>exact h
  |leaf r j a=>exact h
  |half r j v=>exact h
theorem E9{r:Nat}:∀ {ws:List Wr} {s s':St},s'.ro.length=s.ro.length→s'.root r=s.root r→(s'.app ws).root r=(s.app ws).root r
 | [],s,s',hl,h=>h
 |w::ws,s,s',hl,h=>by
  show((s'.AF w).app ws).root r=((s.AF w).app ws).root r;refine E9 ((B3 s' w).2.trans (hl.trans (B3 s w).2.symm)) ?_;cases w with
  |slot u a=>exact h
  |root q x=>rw[A3,A3,hl,h]
  |leaf q j a=>
   show nth dead (CZ s'.ro q _) r=nth dead (CZ s.ro q _) r;rw[A4,A4,hl];split
   ·grind
   ·exact h
  |half q j v=>
   show nth dead (CZ s'.ro q _) r=nth dead (CZ s.ro q _) r;rw[A4,A4,hl];split
   ·rename_i hq;obtain⟨rfl,_⟩:=hq;unfold St.leaf;rw[h]
   ·exact h
theorem GA{α:Type}(l:List α){n m:Nat}(h:n≠m)(x y:α):CZ (CZ l n x) m y=CZ (CZ l m y) n x:=by rw[Bi,Bi,Bi,Bi];exact List.set_comm _ _ h
theorem BY{s:St}{r j v:Nat}:(s.AF (.half r j v))=s.AF (.leaf r j ((s.leaf r j).Cj v)):=rfl
theorem LU{s:St}{w w':Wr}(h:CH w.mask w'.mask):(s.AF w).AF w'=(s.AF w').AF w:=by
 have key:∀ {n m:Nat},CH (2 ^ n) (2 ^ m)→n≠m:=by intro n m h e;have:=h n (by grind);rw[Ck,e]at this;simp at this
 have hh:∀ {r q:Nat} {a b:Nat},a.testBit (4*r+3)=true→b.testBit (4*q+3)=true→CH a b→r≠q:=by intro r q a b ha hb aN e;have:=aN (4*r+3) ha;rw[e,hb]at this;cases this
 have full:∀r,(Nat.lor (JX r) (J5 r)).testBit (4*r+3)=true:=fun r=>by rw[AJ,EZ];simp
 have alone:∀r,(J5 r).testBit (4*r+3)=true:=fun r=>by rw[EZ];simp
 have ll:∀ {s:St} {r j q k:Nat} {a b:LA},r≠q→(s.AF (.leaf r j a)).AF (.leaf q k b)=(s.AF (.leaf q k b)).AF (.leaf r j a):=by intro s r j q k a b Vv;have e1:(s.AF (.leaf r j a)).root q=s.root q:=Bd (by simp only[Wr.mask,AJ,Gy,EZ,kZ,kb];omega);have e2:(s.AF (.leaf q k b)).root r=s.root r:=Bd (by simp only[Wr.mask,AJ,Gy,EZ,kZ,kb];omega);simp only[St.AF]at e1 e2 ⊢;rw[e1,e2,GA _ Vv]
 have rl:∀ {s:St} {r q j:Nat} {x:Bo} {b:LA},r≠q→(s.AF (.root r x)).AF (.leaf q j b)=(s.AF (.leaf q j b)).AF (.root r x):=by
  intro s r q j x b Vv;have e1:(s.AF (.root r x)).root q=s.root q:=by rw[A3,kG (fun hh=>Vv hh.1)]
  simp only[St.AF]at e1 ⊢;rw[e1,GA _ Vv]
 have lq:∀ {s:St} {r q j k:Nat} {a:LA},r≠q→(s.AF (.leaf r j a)).leaf q k=s.leaf q k:=by
  intro s r q j k a Vv;unfold St.leaf;rw[Bd (by simp only[Wr.mask,AJ,Gy,EZ,kZ,kb];omega)]
 have rq:∀ {s:St} {r q k:Nat} {x:Bo},r≠q→(s.AF (.root r x)).leaf q k=s.leaf q k:=by intro s r q k x Vv;unfold St.leaf;rw[A3,kG (fun hh=>Vv hh.1)]
 cases w with
 |slot t a=>cases w' with
  |slot u b=>
   have Vv:t≠u:=fun e=>key h (by rw[e]);simp only[St.AF];rw[GA _ Vv]
  |root r x=>rfl
  |leaf r j b=>rfl
  |half r j v=>rfl
 |root r x=>cases w' with
  |slot u b=>rfl
  |root q y=>
   have Vv:r≠q:=hh (full r) (full q) h;simp only[St.AF];rw[GA _ Vv]
  |leaf q j b=>exact rl (hh (full r) (full q) h)
  |half q j v=>
   have Vv:r≠q:=hh (full r) (alone q) h;rw[BY,BY,rq Vv,rl Vv]
 |leaf r j a=>cases w' with
  |slot u b=>rfl
  |root q y=>exact(rl (hh (full r) (full q) h).symm).symm
  |leaf q k b=>exact ll (hh (full r) (full q) h)
  |half q k v=>
   have Vv:r≠q:=hh (full r) (alone q) h;rw[BY,BY,lq Vv,ll Vv]
 |half r j v=>cases w' with
  |slot u b=>rfl
  |root q y=>
   have Vv:r≠q:=hh (alone r) (full q) h;rw[BY,BY,rq Vv.symm,rl Vv.symm]
  |leaf q k b=>
   have Vv:r≠q:=hh (alone r) (full q) h;rw[BY,BY,lq Vv.symm,ll Vv]
  |half q k u=>
   have Vv:r≠q:=hh (alone r) (alone q) h;rw[BY,BY (s:=s) (r:=q),BY,BY,lq Vv,lq Vv.symm,ll Vv]
theorem E7{w:Wr}:∀ {ws:List Wr} {s:St},CH w.mask (AE ws)→(s.AF w).app ws=(s.app ws).AF w
 | [],s,h=>rfl
 |w'::ws,s,h=>by
  have h1:CH w.mask w'.mask:=fun i hi=>by have:=h i hi;rw[BS,kZ]at this;exact this.1
  have h2:CH w.mask (AE ws):=fun i hi=>by have:=h i hi;rw[BS,kZ]at this;exact this.2
  show((s.AF w).AF w').app ws=_;rw[LU h1,E7 h2];rfl
theorem Jm{XX:List Wr}:∀ {ws:List Wr} {s:St},CH (AE ws) (AE XX)→(s.app ws).app XX=(s.app XX).app ws
 | [],s,h=>rfl
 |w::ws,s,h=>by have h1:CH w.mask (AE XX):=fun i hi=>h i (by rw[BS,hi];rfl);have h2:CH (AE ws) (AE XX):=fun i hi=>h i (by rw[BS,hi];simp);show((s.AF w).app ws).app XX=_;rw[Jm h2,E7 h1];rfl
def BV(s:St)(p:Nat→Prop):Prop:=(∀t,∀n∈(s.slot t).AG,p n)∧∀r,∀n∈(s.root r).AG,p n
theorem BV.mono{s:St}{p q:Nat→Prop}(h:BV s p)(hq:∀n,p n→q n):BV s q:=⟨fun t n hn=>hq n (h.1 t n hn),fun r n hn=>hq n (h.2 r n hn)⟩
theorem BV.zero{s:St}{p:Nat→Prop}(h:BV s p):p 0:=by refine h.2 s.ro.length 0 ?_;have:s.root s.ro.length=dead:=A6 _ (kT _);rw[this];exact kR
theorem BV.AF{s:St}{p:Nat→Prop}(h:BV s p){w:Wr}(hw:∀n∈w.AG,p n):BV (s.AF w) p:=by
 cases w with
 |slot u a=>
  refine⟨fun t n hn=>?_,h.2⟩;rw[BR]at hn;split at hn
  ·exact hw n hn
  ·exact h.1 t n hn
 |root q x=>
  refine⟨h.1,fun r n hn=>?_⟩;rw[A3]at hn;split at hn
  ·exact hw n hn
  ·exact h.2 r n hn
 |leaf q j a=>
  refine⟨h.1,fun r n hn=>?_⟩;have WG:(s.AF (.leaf q j a)).root r=if q=r∧q<s.ro.length then { s.root q with ls:=CZ (s.root q).ls j a }else s.root r:=A4 _ _ _ _ _
  rw[WG]at hn;split at hn
  ·rcases kS.1 hn with hn|hn
   ·subst hn;exact h.2 q _ kR
   ·obtain⟨b,hb,Y5⟩:=kA.1 hn;have hb:b∈CZ (s.root q).ls j a:=hb;rw[Bi]at hb;rcases lO hb with hb|hb
    ·exact h.2 q n (kB _ (kA.2 ⟨b,hb,Y5⟩))
    ·rw[hb]at Y5;exact hw n Y5
  ·exact h.2 r n hn
 |half q j v=>
  refine⟨h.1,fun r n hn=>?_⟩;have WG:(s.AF (.half q j v)).root r=if q=r∧q<s.ro.length then { s.root q with ls:=CZ (s.root q).ls j ((s.leaf q j).Cj v) }else s.root r:=A4 _ _ _ _ _
  rw[WG]at hn;split at hn
  ·rcases kS.1 hn with hn|hn
   ·subst hn;exact h.2 q _ kR
   ·obtain⟨b,hb,Y5⟩:=kA.1 hn;have hb:b∈CZ (s.root q).ls j ((s.leaf q j).Cj v):=hb;by_cases hj:j<(s.root q).ls.length
    ·rw[Bi]at hb;rcases lO hb with hb|hb
     ·exact h.2 q n (kB _ (kA.2 ⟨b,hb,Y5⟩))
     ·have Vm:n∈(s.leaf q j).AG∨n=v:=by
       rw[hb]at Y5;cases hl:s.leaf q j with
       |arr AA gen t e xs d=>
        rw[hl]at Y5;cases d with
        |zero=>exact .inl Y5
        |succ d=>
         simp only[LA.Cj,LA.AG,kS,List.not_mem_nil,or_false]at Y5 ⊢;omega
       |_=>rw[hl]at Y5;exact .inl Y5
      rcases Vm with Vm|Vm
      ·exact h.2 q n (kB _ (kA.2 ⟨_,HB hj,Vm⟩))
      ·exact hw n (by rw[Vm];exact kR)
    ·rw[Bi,List.set_eq_of_length_le (by omega)]at hb;exact h.2 q n (kB _ (kA.2 ⟨b,hb,Y5⟩))
  ·exact h.2 r n hn
theorem BV.app{p:Nat→Prop}:∀ {ws:List Wr} {s:St},BV s p→(∀w∈ws,∀n∈w.AG,p n)→BV (s.app ws) p
 | [],s,h,hw=>h
 |w::ws,s,h,hw=>BV.app (ws:=ws) (s:=s.AF w) (h.AF (hw w (by simp))) fun x hx=>hw x (kB _ hx)
theorem BV.H3{s:St}{p:Nat→Prop}(h:BV s p){v:Nat}(hv:¬p v)(h1:1<v):Af s v:=by
 refine⟨fun t Vm=>hv (h.1 t v Vm),fun r j=>.inr fun Vm=>?_,h1⟩;by_cases hj:j<(s.root r).ls.length
 ·exact hv (h.2 r v (kB _ (kA.2 ⟨_,HB hj,Vm⟩)))
 ·have:s.leaf r j=.bad:=A6 _ (lA hj);rw[this]at Vm;cases Vm
def Bv(ops:Array Oper)(o:Oper)(s:St)(b:Bool):Prop:=match o.guard with
 |none=>b=true
 |some (j,want)=>∃t,(ops[j]?).bind (·.dst)=some t∧((s.slot t=.v false [.undef]∧b=false)∨∃c:Bool,s.slot t=.v false [.sc .bool c]∧b=(c==want))
def LP(cx:Cx)(g:Rg)(bs:List Nat)(i:Nat)(o:Oper)(s:St)(ws:List Wr):Prop:=
 (Bv g.ops o s true∧(AB cx (g.v0+i) o s).leads ws∧JS cx o.dst g.v0 (g.v0+i) (nth 0 bs i) ws=true)∨(Bv g.ops o s false∧ws=Cw o.dst)
def Trace(cx:Cx)(g:Rg)(bs:List Nat):Nat→List Oper→List (Nat×Nat)→St→List (Nat×List Wr)→Prop
 |_,[],_,_,[]=>True
 |i,o::r,lg,s,(rm,ws)::tr=>rm=A9 g.ops o s∧(g.draw=true→indep (nth 0 bs i) rm (AE ws) 0 lg=true)∧LP cx g bs i o s ws∧Trace cx g bs (i+1) r (lg++[(rm,AE ws)]) (s.app ws) tr
 |_,_,_,_,_=>False
def AK(A:Nat→Bool):Nat→List (Nat×List Wr)→St→St
 |_,[],s=>s
 |i,x::tr,s=>AK A (i+1) tr (bif A i then s.app x.2 else s)
theorem LM{α:Type}(d:α):∀(l:List α)(n:Nat),CZ l n (nth d l n)=l
 | [],n=>rfl
 |x::xs,0=>rfl
 |x::xs,n+1=>by simp[CZ,nth,LM d xs n]
theorem CN{s:St}{t:Nat}{a:AV}(h:s.slot t=a):s.AF (.slot t a)=s:=by subst h;show { s with sl:=CZ s.sl t (s.slot t) }=s;have:CZ s.sl t (s.slot t)=s.sl:=LM _ _ _;rw[this]
theorem EX{R:Type}{cx:Cx}{g:Rg}{bs:List Nat}{k:St→Option R}{x:R}:∀(r:List Oper)(i:Nat) (lg:List (Nat×Nat)) (s:St),EW cx g (number i r) bs lg s k=some x→
  ∃tr,Trace cx g bs i r lg s tr∧tr.length=r.length∧k (AK (fun _=>true) i tr s)=some x
 | [],i,lg,s,h=>⟨[],trivial,rfl,h⟩
 |o::r,i,lg,s,h=>by
  simp only[number,EW]at h
  have exec:Bv g.ops o s true→((AB cx (g.v0+i) o s).run fun ws=>
    if JS cx o.dst g.v0 (g.v0+i) (nth 0 bs i) ws&&(!g.draw||indep (nth 0 bs i) (A9 g.ops o s) (AE ws) 0 lg)then EW cx g (number (i+1) r) bs (lg++[(A9 g.ops o s,AE ws)]) (s.app ws) k else none)=some x→
    ∃tr,Trace cx g bs i (o::r) lg s tr∧tr.length=(o::r).length∧k (AK (fun _=>true) i tr s)=some x:=by
   intro hg h;obtain⟨ws,hl,h⟩:=Step.C3 _ h;split at h
   ·rename_i hc;simp only[j8,kU,kJ]at hc;obtain⟨tr,h1,h2,h3⟩:=EX r (i+1) _ _ h;exact⟨(_,ws)::tr,⟨rfl,fun hd=>hc.2.resolve_left (by simp[hd]),.inl ⟨hg,hl,hc.1⟩,h1⟩,by simp[h2],h3⟩
   ·cases h
  have skip:Bv g.ops o s false→(if(!g.draw||indep (nth 0 bs i) (A9 g.ops o s) (AE (Cw o.dst)) 0 lg)=true then EW cx g (number (i+1) r) bs (lg++[(A9 g.ops o s,AE (Cw o.dst))]) (s.app (Cw o.dst)) k else none)=some x→
    ∃tr,Trace cx g bs i (o::r) lg s tr∧tr.length=(o::r).length∧k (AK (fun _=>true) i tr s)=some x:=by
   intro hg h;split at h
   ·rename_i hc;simp only[kU,kJ]at hc;obtain⟨tr,h1,h2,h3⟩:=EX r (i+1) _ _ h;exact⟨(_,Cw o.dst)::tr,⟨rfl,fun hd=>hc.resolve_left (by simp[hd]),.inr ⟨hg,rfl⟩,h1⟩,by simp[h2],h3⟩
   ·cases h
  cases ei:o.guard with
  |none=>
   rw[ei]at h;exact exec (by unfold Bv;rw[ei]) h
  |some p=>
   obtain⟨j,want⟩:=p;rw[ei]at h;dsimp only at h;cases ht:(g.ops[j]?).bind (·.dst)with
   |none=>grind
   |some t=>
    rw[ht]at h;dsimp only at h;have gd:∀(c:Bool),s.slot t=.v false [.sc .bool c]→Bv g.ops o s (c==want):=fun c hc=>by unfold Bv;grind
    split at h
    ·rename_i hs;exact skip (by unfold Bv;grind) h
    ·rename_i c hs;cases want with
     |true=>
      dsimp only at h;cases c with
      |true=>
       have Vq:s.AF (.slot t (IM true))=s:=CN hs;grind
      |false=>
       have Vq:s.AF (.slot t (IM false))=s:=CN hs;grind
     |false=>
      dsimp only at h;cases c with
      |true=>
       have Vq:s.AF (.slot t (IM true))=s:=CN hs;grind
      |false=>
       have Vq:s.AF (.slot t (IM false))=s:=CN hs;grind
    ·cases h
end Go.Ev
namespace Go.Ev
theorem HZ:∀(os:List Oper)(acc:List Nat)(i:Nat),i<acc.length→nth 0 (E2 os acc) i=nth 0 acc i
 | [],acc,i,h=>rfl
 |o::os,acc,i,h=>by
  simp only[E2];rw[HZ os _ i (by simp;omega),Ai,Ai,lP h]
theorem Hn(acc:List Nat)(j:Nat):∀(es:List Edge),(es.foldr (fun e m=>if Region.binds .any e then Nat.lor (2 ^ e.on) (Nat.lor (nth 0 acc e.on) m)else m) 0).testBit j=true→∃e∈es,Region.binds .any e=true∧(e.on=j∨(nth 0 acc e.on).testBit j=true)
 | [],h=>by simp at h
 |e::es,h=>by
  rw[List.foldr_cons]at h;split at h
  ·rename_i hb;rw[AJ,AJ,Ck]at h;simp only[kU,kV]at h;rcases h with h|h|h
   ·exact⟨e,by simp,hb,.inl h⟩
   ·exact⟨e,by simp,hb,.inr h⟩
   ·obtain⟨e',h1,h2⟩:=Hn acc j es h;exact⟨e',kB _ h1,h2⟩
  ·obtain⟨e',h1,h2⟩:=Hn acc j es h;exact⟨e',kB _ h1,h2⟩
theorem HY(j:Nat):∀(os:List Oper)(acc:List Nat)(k:Nat)(o:Oper),os[k]?=some o→(nth 0 (E2 os acc) (acc.length+k)).testBit j=true→∃e∈o.after.toList,Region.binds .any e=true∧(e.on=j∨(nth 0 (E2 os acc) e.on).testBit j=true)
 | [],acc,k,o,h,hb=>by simp at h
 |x::os,acc,k,o,h,hb=>by
  simp only[E2]at hb ⊢;cases k with
  |zero=>
   simp at h;subst h;rw[kz,HZ os _ acc.length (by simp),Ai,lZ (kT _)]at hb;simp only[Nat.sub_self,List.getElem?_cons_zero,lN]at hb;obtain⟨e,h1,h2,h3⟩:=Hn acc j _ hb;refine⟨e,h1,h2,h3.imp id fun h3=>?_⟩;by_cases Vs:e.on<acc.length
   ·rw[HZ os _ e.on (by simp;omega),Ai,lP Vs,←Ai];exact h3
   ·rw[A6 0 (lA Vs)]at h3;simp at h3
  |succ k=>
   refine HY j os _ k o (by simpa using h) ?_;rw[lC,List.length_singleton,show acc.length+1+k=acc.length+(k+1) by omega];exact hb
theorem Cp:∀(os:List Oper)(i:Nat),D7 i os=true→∀(k:Nat)(o:Oper),os[k]?=some o→∀e∈o.after.toList,Region.binds .any e=true→e.on<i+k
 | [],i,h,k,o,ho=>by simp at ho
 |x::os,i,h,k,o,ho=>by
  simp only[D7,j8]at h;cases k with
  |zero=>
   simp at ho;subst ho;intro e he hb;have:=kL.1 h.1 e he;simpa[hb]using this
  |succ k=>
   intro e he hb;have:=Cp os (i+1) h.2 k o (by simpa using ho) e he hb;omega
theorem Hc{ops:Array Oper}(hE:D7 0 ops.toList=true){A:Nat→Prop}(hA:∀i o,A i→ops[i]?=some o→∀e∈o.after.toList,Region.binds .any e=true→A e.on)(hn:∀i,A i→i<ops.size):
  ∀(i:Nat),A i→∀j,(nth 0 (E2 ops.toList []) i).testBit j=true→A j:=by
 intro i
 induction i using Nat.strongRecOn with
 |_ i ih=>
  intro hi j hj;have Vs:=hn i hi;have ho:ops.toList[i]?=some ops[i]:=by simp[Vs]
  obtain⟨e,h1,h2,h3⟩:=HY j ops.toList [] i ops[i] ho (by simpa using hj);have iC:=Cp ops.toList 0 hE i ops[i] ho e h1 h2;have fw:=hA i ops[i] hi (by simp[Vs]) e h1 h2;rcases h3 with h3|h3
  ·rw[←h3];exact fw
  ·exact ih e.on (by omega) fw j h3
theorem I5{ops:Array Oper}(hE:D7 0 ops.toList=true){A:Nat→Prop}(hA:∀i o,A i→ops[i]?=some o→∀e∈o.after.toList,Region.binds .any e=true→A e.on)(hn:∀i,A i→i<ops.size)
  {i:Nat} {o:Oper} (ho:ops[i]?=some o) (hi:∀e∈o.after.toList,Region.binds .any e=true→A e.on) (j:Nat) (hj:(nth 0 (E2 ops.toList []) i).testBit j=true):A j:=by
 have Xd:ops.toList[i]?=some o:=by simpa using ho
 obtain⟨e,h1,h2,h3⟩:=HY j ops.toList [] i o Xd (by simpa using hj);rcases h3 with h3|h3
 ·rw[←h3];exact hi e h1 h2
 ·exact Hc hE hA hn e.on (hi e h1 h2) j h3
section
variable {P:Program}{E:Cy}{s:St}{W:Wd}{a:Act}{cx:Cx}{g:Rg}{bs:List Nat}{Q:Exit→Act→World→Prop}
theorem I9{tm:Array Value}(h:AW E s tm W){ops:Array Oper}{o:Oper}{b:Bool}(hg:Bv ops o s b):Region.wanted o (yielded ops tm)=b:=by
 unfold Bv at hg;unfold Region.wanted;cases hq:o.guard with
 |none=>rw[hq]at hg;exact hg.symm
 |some p=>
  obtain⟨j,want⟩:=p;rw[hq]at hg;dsimp only at hg ⊢;obtain⟨t,ht,hs⟩:=hg;have XU:=h.AO t;unfold yielded;rw[ht];dsimp only[Option.bind_some];rcases hs with⟨hs,rfl⟩|⟨c,hs,rfl⟩
  ·rw[hs]at XU;have XU:tm.getD t Go.undef=Go.undef:=XU;cases hx:tm[t]? with
   |none=>rfl
   |some x=>
    have:x=Go.undef:=by rw[←XU];simp[kY,hx]
    subst this;rfl
  ·rw[hs]at XU;have XU:tm.getD t Go.undef=.bool c:=XU.1;cases hx:tm[t]? with
   |none=>rw[kY,hx]at XU;cases XU
   |some x=>
    have:x=.bool c:=by rw[←XU];simp[kY,hx]
    subst this;cases c<;>cases want<;>rfl
theorem K2(hc:Db P cx)(V8:DN P E cx.env)(h:AW E s a.tmps W){i:Nat}{o:Oper}{ws:List Wr}(hv:Af s (g.v0+i))(hd:∀d,o.dst=some d→d<a.tmps.size)(Wz:LP cx g bs i o s ws)
  {K:Act→World→Prop} (hK:∀a' W',a'.defers=a.defers→AW E (s.app ws) a'.tmps W'→K a' W'.w) (ho:g.ops[i]?=some o):wpOp P g.ops Q i K a W.w:=by
 unfold wpOp;rw[ho];dsimp only;rcases Wz with⟨hg,hl,_⟩|⟨hg,rfl⟩
 ·rw[I9 h hg,kF rfl];exact .inl (Mr hc V8 h hv hd hl K Q fun a' W' h1 h2=>hK a' W' h1 h2)
 ·rw[I9 h hg,kG (by simp)];cases WT:o.dst with
  |none=>exact hK a W rfl (by simp only[Cw,WT];exact h)
  |some d=>
   refine hK _ W rfl ?_;simp only[Cw,WT];exact h.slot d (show BU s W (one .undef) Go.undef from rfl)
def pA(v0:Nat)(A:Nat→Prop)(n:Nat):Prop:=n<v0∨∃j,A j∧n=v0+j
theorem Ii{i:Nat}{o:Oper}{ws:List Wr}(Wz:LP cx g bs i o s ws){A:Nat→Prop}(hA:∀j,(nth 0 bs i).testBit j=true→A j):∀w∈ws,∀n∈w.AG,pA g.v0 (fun j=>A j∨j=i) n:=by
 intro w hw n hn;rcases Wz with⟨_,_,WQ⟩|⟨_,rfl⟩
 ·have h1:=kL.1 WQ w hw;rw[j8]at h1;have h2:=kL.1 h1.2 n hn;simp only[kU,kV,kI,j8]at h2;rcases h2 with(h2|h2)|⟨h2,h3⟩
  ·exact .inl h2
  ·exact .inr ⟨i,.inr rfl,h2⟩
  ·exact .inr ⟨n-g.v0,.inl (hA _ h3),by omega⟩
 ·cases WT:o.dst with
  |none=>rw[WT]at hw;cases hw
  |some d=>
   rw[WT]at hw;have:w=.slot d (one .undef):=by simpa[Cw]using hw
   subst this;simp[Wr.AG,one,AV.AG,LA.AG]at hn
theorem M3(hc:Db P cx)(V8:DN P E cx.env)(h1:1<g.v0)(hb:∀i j,i<g.ops.size→(nth 0 bs i).testBit j=true→j<i):∀(r:List Oper)(i:Nat) (lg:List (Nat×Nat)) (s:St) (tr:List (Nat×List Wr)) (a:Act) (W:Wd),Trace cx g bs i r lg s tr→
  (∀(k:Nat)(o:Oper),r[k]?=some o→g.ops[i+k]?=some o)→AW E s a.tmps W→BV s (pA g.v0 (· < i))→(∀o∈r,∀d,o.dst=some d→d<s.sl.length)→
  (∀a' W',a'.defers=a.defers→AW E (AK (fun _=>true) i tr s) a'.tmps W'→BV (AK (fun _=>true) i tr s) (pA g.v0 (· < i+r.length))→Q .normal a' W'.w)→wpOps P g.ops Q (List.range' i r.length) a W.w
 | [],i,lg,s,[],a,W,ht,hr,Vo,Vu,hd,hK=>hK a W rfl Vo Vu
 | [],i,lg,s,_::_,a,W,ht,hr,Vo,Vu,hd,hK=>ht.elim
 |_::_,i,lg,s,[],a,W,ht,hr,Vo,Vu,hd,hK=>ht.elim
 |o::r,i,lg,s,(rm,ws)::tr,a,W,ht,hr,Vo,Vu,hd,hK=>by
  obtain⟨aa,_,Wz,ht⟩:=ht;have ho:g.ops[i]?=some o:=by have:=hr 0 o rfl;simpa using this
  have Vs:i<g.ops.size:=(lD.1 ho).1;rw[lT,List.range'_succ,wpOps_cons];have dK:Af s (g.v0+i):=Vu.H3 (by rintro (hh|⟨j,hj,e⟩)<;>omega) (by omega);refine K2 hc V8 Vo dK (fun d WT=>by rw[←Vo.DM];exact hd o (by simp) d WT) Wz (fun a' W' bN az=>?_) ho;refine M3 hc V8 h1 hb r (i+1) _ _ tr a' W' ht (fun k o hk=>by rw[show i+1+k=i+(k+1) by omega];exact hr (k+1) o (by simpa using hk)) az ?_ ?_ ?_
  ·refine(Vu.mono ?_).app (fun w hw n hn=>?_)
   ·rintro n (hn|⟨j,hj,e⟩)
    ·exact .inl hn
    ·exact .inr ⟨j,by omega,e⟩
   ·rcases Ii Wz (A:=(· < i)) (fun j hj=>hb i j Vs hj) w hw n hn with hn|⟨j,hj,e⟩
    ·exact .inl hn
    ·exact .inr ⟨j,by omega,e⟩
  ·intro o' Xd d WT;rw[(CB ws s).1];exact hd o' (kB _ Xd) d WT
  ·intro a2 W2 cg Z3 dm;refine hK a2 W2 (cg.trans bN) Z3 (dm.mono ?_)
   rintro n (hn|⟨j,hj,e⟩)
   ·exact .inl hn
   ·exact .inr ⟨j,by simp;omega,e⟩
end
end Go.Ev
namespace Go.Ev
theorem GL(b rm wm:Nat):∀(lg:List (Nat×Nat)) (j:Nat),indep b rm wm j lg=true→∀(k:Nat)(r w:Nat),lg[k]?=some (r,w)→b.testBit (j+k)=true∨(CH w (Nat.lor rm wm)∧CH r wm)
 | [],j,h,k,r,w,hk=>by simp at hk
 |(r0,w0)::lg,j,h,k,r,w,hk=>by
  simp only[indep,j8,kU]at h;cases k with
  |zero=>
   simp at hk;obtain⟨rfl,rfl⟩:=hk;exact h.1.imp id fun hh=>⟨HQ hh.1,HQ hh.2⟩
  |succ k=>
   have:=GL b rm wm lg (j+1) h.2 k r w (by simpa using hk);grind
section
variable {cx:Cx}{g:Rg}{bs:List Nat}
theorem IT:∀(r:List Oper)(i:Nat) (lg:List (Nat×Nat)) (s:St) (tr:List (Nat×List Wr)),Trace cx g bs i r lg s tr→∀(k:Nat)(o:Oper)(rm:Nat)(ws:List Wr),r[k]?=some o→tr[k]?=some (rm,ws)→
  rm=A9 g.ops o (AK (fun j=>decide (j<i+k)) i tr s)∧LP cx g bs (i+k) o (AK (fun j=>decide (j<i+k)) i tr s) ws∧(g.draw=true→indep (nth 0 bs (i+k)) rm (AE ws) 0 (lg++(tr.take k).map fun x=>(x.1,AE x.2))=true)
 | [],i,lg,s,tr,ht,k,o,rm,ws,h1,h2=>by simp at h1
 |o0::r,i,lg,s,[],ht,k,o,rm,ws,h1,h2=>by simp at h2
 |o0::r,i,lg,s,(rm0,ws0)::tr,ht,k,o,rm,ws,h1,h2=>by
  obtain⟨aa,Vm,Wz,ht⟩:=ht
  have none:∀(tr:List (Nat×List Wr)) (i j:Nat) (s:St),j≤i→AK (fun q=>decide (q<j)) i tr s=s:=by
   intro tr
   induction tr with
   |nil=>intro i j s h;rfl
   |cons x tr ih=>
    intro i j s h;simp only[AK];rw[show decide (i<j)=false by simp;omega];exact ih (i+1) j s (by omega)
  cases k with
  |zero=>
   simp at h1 h2;obtain⟨rfl,rfl⟩:=h2;subst h1;rw[kz,none _ _ _ _ (kT _)];grind
  |succ k=>
   obtain⟨q1,q2,q3⟩:=IT r (i+1) _ _ tr ht k o rm ws (by simpa using h1) (by simpa using h2)
   have e:AK (fun j=>decide (j<i+(k+1))) i ((rm0,ws0)::tr) s=AK (fun j=>decide (j<i+1+k)) (i+1) tr (s.app ws0):=by simp only[AK];rw[show decide (i<i+(k+1))=true from decide_eq_true (by omega),show i+(k+1)=i+1+k by omega];rfl
   grind
theorem HV(A:Nat→Bool):∀(tr:List (Nat×List Wr)) (i:Nat) (s:St),(AK A i tr s).sl.length=s.sl.length∧(AK A i tr s).ro.length=s.ro.length
 | [],i,s=>⟨rfl,rfl⟩
 |x::tr,i,s=>by
  simp only[AK];obtain⟨h1,h2⟩:=HV A tr (i+1) (bif A i then s.app x.2 else s);cases hA:A i with
  |true=>rw[hA]at h1 h2;exact⟨h1.trans (CB _ _).1,h2.trans (CB _ _).2⟩
  |false=>grind
theorem Gf{A B:Nat→Bool}{t:Nat}:∀(tr:List (Nat×List Wr)) (i:Nat) (s s':St),s'.sl.length=s.sl.length→s'.slot t=s.slot t→(∀k x,tr[k]?=some x→(AE x.2).testBit (2*t)=true→B (i+k)=A (i+k))→
  (AK B i tr s').slot t=(AK A i tr s).slot t
 | [],i,s,s',hl,h,hA=>h
 |x::tr,i,s,s',hl,h,hA=>by
  simp only[AK];refine Gf tr (i+1) _ _ ?_ ?_ fun k y hk hy=>by rw[show i+1+k=i+(k+1) by omega];exact hA (k+1) y (by grind) hy
  ·cases A i<;>cases B i<;>simp[CB,hl]
  ·by_cases hm:(AE x.2).testBit (2*t)=true
   ·have:=hA 0 x rfl hm;rw[kz]at this;rw[this];cases A i with
    |true=>exact FA hl h
    |false=>exact h
   ·have hm:(AE x.2).testBit (2*t)=false:=by simpa using hm
    have e1:∀b:Bool,(bif b then s'.app x.2 else s').slot t=s'.slot t:=fun b=>by cases b;rfl;exact De hm
    have e2:∀b:Bool,(bif b then s.app x.2 else s).slot t=s.slot t:=fun b=>by cases b;rfl;exact De hm
    rw[e1,e2];exact h
theorem Ge{A B:Nat→Bool}{t:Nat}:∀(tr:List (Nat×List Wr)) (i:Nat) (s s':St),s'.ro.length=s.ro.length→s'.root t=s.root t→(∀k x,tr[k]?=some x→(AE x.2).testBit (4*t+3)=true→B (i+k)=A (i+k))→
  (AK B i tr s').root t=(AK A i tr s).root t
 | [],i,s,s',hl,h,hA=>h
 |x::tr,i,s,s',hl,h,hA=>by
  simp only[AK];refine Ge tr (i+1) _ _ ?_ ?_ fun k y hk hy=>by rw[show i+1+k=i+(k+1) by omega];exact hA (k+1) y (by grind) hy
  ·cases A i<;>cases B i<;>simp[CB,hl]
  ·by_cases hm:(AE x.2).testBit (4*t+3)=true
   ·have:=hA 0 x rfl hm;rw[kz]at this;rw[this];cases A i with
    |true=>exact E9 hl h
    |false=>exact h
   ·have hm:(AE x.2).testBit (4*t+3)=false:=by simpa using hm
    have e1:∀b:Bool,(bif b then s'.app x.2 else s').root t=s'.root t:=fun b=>by cases b;rfl;exact Dd hm
    have e2:∀b:Bool,(bif b then s.app x.2 else s).root t=s.root t:=fun b=>by cases b;rfl;exact Dd hm
    rw[e1,e2];exact h
theorem Ln(a:LA)(v:Nat):(a.Cj v).norm=a.norm:=by
 cases a with
 |arr AA gen t e xs d=>cases d<;>rfl
 |_=>rfl
theorem H4(x:Bo)(j:Nat)(a:LA):({ x with ls:=CZ x.ls j a }:Bo).norm={ x.norm with ls:=x.norm.ls.set j a.norm }:=by unfold Bo.norm;simp only[Bi,List.map_set]
theorem GO(x:Bo)(j:Nat)(v:Nat):({ x with ls:=CZ x.ls j ((nth .bad x.ls j).Cj v) }:Bo).norm=x.norm:=by
 rw[H4]
 have:x.norm.ls.set j ((nth .bad x.ls j).Cj v).norm=x.norm.ls:=by
  rw[Ln];apply List.ext_getElem?;intro i;rw[List.getElem?_set];by_cases e:j=i
  ·subst e;rw[kF rfl];by_cases hl:j<x.norm.ls.length
   ·rw[kF hl];have Yu:j<x.ls.length:=by simpa[Bo.norm]using hl
    have hn:nth .bad x.ls j=x.ls[j]:=by
     have:∀(l:List LA)(j:Nat)(h:j<l.length),nth .bad l j=l[j]:=by
      intro l
      induction l with
      |nil=>intro j h;simp at h
      |cons y l ih=>
       intro j h;cases j with
       |zero=>rfl
       |succ j=>exact ih j (by simpa using h)
     exact this _ _ Yu
    rw[hn,j7 hl];simp[Bo.norm]
   grind
  ·rw[kG e]
 rw[this]
theorem HR{s:St}{w:Wr}{r:Nat}(h:w.mask.testBit (4*r+1)=false):((s.AF w).root r).norm=(s.root r).norm:=by
 cases w with
 |slot u a=>rfl
 |root q x=>
  simp only[Wr.mask,AJ,Gy,EZ,kZ,kb]at h;rw[A3,kG (fun hh=>h.1 (by rw[hh.1]))]
 |leaf q j a=>
  simp only[Wr.mask,AJ,Gy,EZ,kZ,kb]at h
  have e:(s.AF (.leaf q j a)).root r=s.root r:=by show nth dead (CZ s.ro q _) r=_;rw[A4,kG (fun hh=>h.1 (by rw[hh.1]))];rfl
  rw[e]
 |half q j v=>
  have e:(s.AF (.half q j v)).root r=if q=r∧q<s.ro.length then { s.root q with ls:=CZ (s.root q).ls j ((s.leaf q j).Cj v) }else s.root r:=A4 _ _ _ _ _
  rw[e];split
  ·rename_i hq;obtain⟨rfl,_⟩:=hq;exact GO _ _ _
  ·rfl
theorem Dc{r:Nat}:∀ {ws:List Wr} {s:St},(AE ws).testBit (4*r+1)=false→((s.app ws).root r).norm=(s.root r).norm
 | [],s,h=>rfl
 |w::ws,s,h=>by rw[BS,kZ]at h;exact(Dc h.2).trans (HR h.1)
theorem E8{r:Nat}:∀ {ws:List Wr} {s s':St},s'.ro.length=s.ro.length→(s'.root r).norm=(s.root r).norm→((s'.app ws).root r).norm=((s.app ws).root r).norm
 | [],s,s',hl,h=>h
 |w::ws,s,s',hl,h=>by
  show(((s'.AF w).app ws).root r).norm=(((s.AF w).app ws).root r).norm;refine E8 ((B3 s' w).2.trans (hl.trans (B3 s w).2.symm)) ?_;cases w with
  |slot u a=>exact h
  |root q x=>
   rw[A3,A3,hl];grind
  |leaf q j a=>
   have e:∀s:St,(s.AF (.leaf q j a)).root r=if q=r∧q<s.ro.length then { s.root q with ls:=CZ (s.root q).ls j a }else s.root r:=fun s=>A4 _ _ _ _ _
   rw[e,e,hl];split
   ·rename_i hq;obtain⟨rfl,_⟩:=hq;rw[H4,H4,h]
   ·exact h
  |half q j v=>
   have e:∀s:St,(s.AF (.half q j v)).root r=if q=r∧q<s.ro.length then { s.root q with ls:=CZ (s.root q).ls j ((s.leaf q j).Cj v) }else s.root r:=fun s=>A4 _ _ _ _ _
   rw[e,e,hl];split
   ·rename_i hq;obtain⟨rfl,_⟩:=hq;exact(GO _ _ _).trans (h.trans (GO _ _ _).symm)
   ·exact h
theorem Gc{A B:Nat→Bool}{t:Nat}:∀(tr:List (Nat×List Wr)) (i:Nat) (s s':St),s'.ro.length=s.ro.length→(s'.root t).norm=(s.root t).norm→(∀k x,tr[k]?=some x→(AE x.2).testBit (4*t+1)=true→B (i+k)=A (i+k))→
  ((AK B i tr s').root t).norm=((AK A i tr s).root t).norm
 | [],i,s,s',hl,h,hA=>h
 |x::tr,i,s,s',hl,h,hA=>by
  simp only[AK];refine Gc tr (i+1) _ _ ?_ ?_ fun k y hk hy=>by rw[show i+1+k=i+(k+1) by omega];exact hA (k+1) y (by grind) hy
  ·cases A i<;>cases B i<;>simp[CB,hl]
  ·by_cases hm:(AE x.2).testBit (4*t+1)=true
   ·have:=hA 0 x rfl hm;rw[kz]at this;rw[this];cases A i with
    |true=>exact E8 hl h
    |false=>exact h
   ·have hm:(AE x.2).testBit (4*t+1)=false:=by simpa using hm
    have e1:∀b:Bool,((bif b then s'.app x.2 else s').root t).norm=(s'.root t).norm:=fun b=>by cases b;rfl;exact Dc hm
    have e2:∀b:Bool,((bif b then s.app x.2 else s).root t).norm=(s.root t).norm:=fun b=>by cases b;rfl;exact Dc hm
    rw[e1,e2];exact h
theorem Gd{A:Nat→Bool}{ws:List Wr}:∀(tr:List (Nat×List Wr)) (i:Nat) (s:St),(∀k x,tr[k]?=some x→A (i+k)=true→CH (AE ws) (AE x.2))→AK A i tr (s.app ws)=(AK A i tr s).app ws
 | [],i,s,h=>rfl
 |x::tr,i,s,h=>by
  simp only[AK];have ih:∀s,AK A (i+1) tr (s.app ws)=(AK A (i+1) tr s).app ws:=fun s=>Gd tr (i+1) s fun k y hk hy=>h (k+1) y (by grind) (by grind);cases hA:A i with
  |false=>exact ih s
  |true=>
   dsimp only[cond_true];rw[←ih,Jm (h 0 x rfl (by omega))]
theorem D2{A B:Nat→Bool}:∀(tr:List (Nat×List Wr)) (i:Nat) (s:St),(∀k,k<tr.length→A (i+k)=B (i+k))→AK A i tr s=AK B i tr s
 | [],i,s,h=>rfl
 |x::tr,i,s,h=>by
  simp only[AK];have h0:=h 0 (by simp);rw[kz]at h0;rw[h0];exact D2 tr (i+1) _ fun k hk=>by rw[show i+1+k=i+(k+1) by omega];exact h (k+1) (by simp;omega)
theorem Gb{A B:Nat→Bool}{n:Nat}{rm:Nat}{ws:List Wr}:∀(tr:List (Nat×List Wr)) (i:Nat) (s:St),tr[n]?=some (rm,ws)→A (i+n)=false→B (i+n)=true→(∀k,k≠n→B (i+k)=A (i+k))→
  (∀k x,n<k→tr[k]?=some x→A (i+k)=true→CH (AE ws) (AE x.2))→AK B i tr s=(AK A i tr s).app ws
 | [],i,s,hn,hA,hB,Vq,ZQ=>by simp at hn
 |x::tr,i,s,hn,hA,hB,Vq,ZQ=>by
  simp only[AK];cases n with
  |zero=>
   simp at hn;subst hn;rw[kz]at hA hB;rw[hA,hB];dsimp only[cond_true,cond_false];rw[D2 (A:=B) (B:=A) tr (i+1) _ fun k hk=>by rw[show i+1+k=i+(k+1) by omega];exact Vq (k+1) (by omega)];exact Gd tr (i+1) s fun k y hk hy=>ZQ (k+1) y (by omega) (by grind) (by grind)
  |succ n=>
   have h0:=Vq 0 (by omega);rw[kz]at h0;rw[h0]
   exact Gb tr (i+1) _ (by simpa using hn) (by grind) (by grind)
    (fun k hk=>by rw[show i+1+k=i+(k+1) by omega];exact Vq (k+1) (by omega)) (fun k y hk hy hA=>ZQ (k+1) y (by omega) (by grind) (by grind))
end
section
variable {P:Program}{E:Cy}{cx:Cx}{g:Rg}{Q:Exit→Act→World→Prop}
theorem Hr{ops:Array Oper}{o:Oper}{s s':St}{b:Bool}(h:∀j want t,o.guard=some (j,want)→(ops[j]?).bind (·.dst)=some t→s'.slot t=s.slot t)(hg:Bv ops o s b):Bv ops o s' b:=by unfold Bv at hg ⊢;grind
theorem OC(hc:Db P cx)(V8:DN P E cx.env)(h1:1<g.v0)(hE:D7 0 g.ops.toList=true)(ao:g.draw=true){s:St}{tr:List (Nat×List Wr)}(ht:Trace cx g (E2 g.ops.toList []) 0 g.ops.toList [] s tr)(hlen:tr.length=g.ops.size)
  (Vu:BV s (· < g.v0)) (hd:∀o∈g.ops.toList,∀d,o.dst=some d→d<s.sl.length) {df:List Deferred}
  (hK:∀a' W',a'.defers=df→AW E (AK (fun _=>true) 0 tr s) a'.tmps W'→BV (AK (fun _=>true) 0 tr s) (pA g.v0 (· < g.ops.size))→Q .normal a' W'.w):
  ∀(fuel:Nat)(listed:Array Bool)(a:Act)(W:Wd),listed.size=g.ops.size→listed.toList.count false=fuel→a.defers=df→AW E (AK (fun i=>listed.getD i false) 0 tr s) a.tmps W→
   BV (AK (fun i=>listed.getD i false) 0 tr s) (pA g.v0 fun i=>listed.getD i false=true)→
   (∀i o,listed.getD i false=true→g.ops[i]?=some o→∀e∈o.after.toList,Region.binds .any e=true→listed.getD e.on false=true)→wpAny P .any g.ops Q fuel listed a W.w:=by
 intro fuel
 have Wa:∀(listed:Array Bool),listed.size=g.ops.size→(∀i,i<g.ops.size→listed.getD i false=true)→AK (fun i=>listed.getD i false) 0 tr s=AK (fun _=>true) 0 tr s:=fun listed hs h=>
  D2 tr 0 s fun k hk=>by grind
 have dT:∀(listed:Array Bool)(i:Nat),i∈Region.ready .any g.ops listed→listed.size=g.ops.size→i<g.ops.size∧listed.getD i false=false∧∃o,g.ops[i]?=some o∧∀e∈o.after.toList,Region.binds .any e=true→listed.getD e.on false=true:=by
  intro listed i hi hs;obtain⟨bS,cy⟩:=List.mem_filter.1 hi;have Vs:i<g.ops.size:=kM.1 bS;rw[j8]at cy;refine⟨Vs,?_,g.ops[i],by simp[Vs],?_⟩
  ·grind
  ·intro e he hb;have h2:=cy.2;rw[kX Vs]at h2;simp only[lE,lN]at h2;have h3:=Array.all_eq_true'.1 h2 e (by simpa using he);grind
 induction fuel with
 |zero=>
  intro listed a W hs YF gH Vo hv aP
  have Yv:∀i,i<g.ops.size→listed.getD i false=true:=by
   intro i hi;have hl:i<listed.size:=by omega
   have Vv:false∉listed.toList:=List.count_eq_zero.1 YF;rw[kY,kX hl,lN];cases hq:listed[i]with
   |true=>rfl
   |false=>exact absurd (by rw[←hq];exact Array.getElem_mem_toList hl) Vv
  refine⟨?_,?_⟩
  ·rw[List.eq_nil_iff_forall_not_mem];intro i hi;obtain⟨q1,q2,_⟩:=dT listed i hi hs;rw[Yv i q1]at q2;cases q2
  grind
 |succ fuel ih=>
  intro listed a W hs YF gH Vo hv aP
  have fx:∀i,listed.getD i false=true→i<g.ops.size:=by
   intro i hi;rw[←hs];rcases kq i listed.size with h|h
   ·exact h
   ·grind
  refine⟨fun hemp=>?_,fun i hi=>?_⟩
  ·exfalso
   have hex:∃i,i<g.ops.size∧listed.getD i false=false:=by
    have:false∈listed.toList:=by refine kg fun hn=>?_;rw[List.count_eq_zero.2 hn]at YF;cases YF
    obtain⟨i,hi,he⟩:=List.mem_iff_getElem.1 this;have XJ:i<listed.size:=by simpa using hi
    refine⟨i,by omega,?_⟩;rw[kY,kX XJ,lN];simpa using he
   have ey:∀n i,i≤n→i<g.ops.size→listed.getD i false=false→∃j,j∈Region.ready .any g.ops listed:=by
    intro n
    induction n using Nat.strongRecOn with
    |_ n ihn=>
     intro i Vm hi eD;by_cases hp:∀e∈(g.ops[i]).after.toList,Region.binds .any e=true→listed.getD e.on false=true
     ·refine⟨i,List.mem_filter.2 ⟨kM.2 hi,?_⟩⟩;have hl:i<listed.size:=by omega
      rw[j8];refine⟨?_,?_⟩
      ·simp only[kY,kX hl,lN]at eD ⊢;simp[eD]
      ·rw[kX hi];simp only[lE,lN];refine Array.all_eq_true'.2 fun e he=>?_;cases hb:Region.binds .any e with
       |false=>rfl
       |true=>simpa using hp e (by simpa using he) hb
     ·have:∃e∈(g.ops[i]).after.toList,Region.binds .any e=true∧listed.getD e.on false=false:=by
       refine kg fun hn=>hp fun e he hb=>?_;cases hq:listed.getD e.on false with
       |true=>rfl
       |false=>exact absurd ⟨e,he,hb,hq⟩ hn
      obtain⟨e,he,hb,hle⟩:=this;have iC:=Cp g.ops.toList 0 hE i g.ops[i] (by simp[hi]) e he hb;exact ihn e.on (by omega) e.on (kT _) (by omega) hle
   obtain⟨i,hi,eD⟩:=hex;obtain⟨j,hj⟩:=ey i i (kT _) hi eD;grind
  ·obtain⟨Vs,XM,o,ho,Yl⟩:=dT listed i hi hs;have gM:g.ops.toList[i]?=some o:=by simpa using ho
   obtain⟨⟨rm,ws⟩,gS⟩:∃x,tr[i]?=some x:=⟨tr[i]'(by omega),j7 (by omega)⟩;obtain⟨t1,t2,t3⟩:=IT g.ops.toList 0 [] s tr ht i o rm ws gM gS;simp only[kO,ku]at t1 t2 t3;have t3:=t3 ao;have EZ:∀j,(nth 0 (E2 g.ops.toList []) i).testBit j=true→listed.getD j false=true:=I5 hE aP fx ho Yl
   have Zt:∀k x,i<k→tr[k]?=some x→listed.getD k false=true→CH (AE ws) (Nat.lor x.1 (AE x.2))∧CH rm (AE x.2):=by intro k x hk hx Wv;obtain⟨ok,WQ⟩:∃o,g.ops.toList[k]?=some o:=⟨_,j7 (by grind)⟩;obtain⟨rmk,wsk⟩:=x;obtain⟨_,_,k3⟩:=IT g.ops.toList 0 [] s tr ht k ok rmk wsk WQ hx;simp only[kO,ku]at k3;have:=GL _ _ _ _ 0 (k3 ao) i rm (AE ws) (by grind);rw[kO]at this;refine this.resolve_left fun hb=>?_;have:=Hc hE (A:=fun i=>listed.getD i false=true) aP fx k Wv i hb;rw[XM]at this;cases this
   have bP:∀k x,k<i→tr[k]?=some x→listed.getD k false=false→CH (AE x.2) (Nat.lor rm (AE ws)):=by
    intro k x hk hx Wv;have:=GL _ _ _ _ 0 t3 k x.1 (AE x.2) (by grind);rw[kO]at this;rcases this with hb|hb
    ·grind
    ·exact hb.1
   have Xi:Ny rm (AK (fun j=>decide (j<i)) 0 tr s) (AK (fun i=>listed.getD i false) 0 tr s):=by
    have key:∀(b:Nat),rm.testBit b=true→∀k x,tr[k]?=some x→(AE x.2).testBit b=true→listed.getD (0+k) false=decide (0+k<i):=by
     intro b hb k x hx hw;rw[kO];rcases Nat.lt_trichotomy k i with hk|hk|hk
     ·cases hl:listed.getD k false with
      |true=>simp[hk]
      |false=>
       have:=bP k x hk hx hl b hw;rw[AJ,hb]at this;simp at this
     ·grind
     ·cases hl:listed.getD k false with
      |false=>simp;omega
      |true=>
       have:=(Zt k x hk hx hl).2 b hb;grind
    exact⟨fun t hb=>Gf tr 0 s s rfl rfl fun k x hx hw=>key _ hb k x hx hw,fun t _ hb=>Ge tr 0 s s rfl rfl fun k x hx hw=>key _ hb k x hx hw,fun t hb=>Gc tr 0 s s rfl rfl fun k x hx hw=>key _ hb k x hx hw⟩
   have aq:=NX (cx:=cx) (v:=g.v0+i) (ops:=g.ops) (o:=o) (s:=AK (fun j=>decide (j<i)) 0 tr s) (s':=AK (fun i=>listed.getD i false) 0 tr s) (by grind)
   have Wz:LP cx g (E2 g.ops.toList []) i o (AK (fun i=>listed.getD i false) 0 tr s) ws:=by
    rcases t2 with⟨g1,g2,g3⟩|⟨g1,g2⟩
    ·exact .inl ⟨Hr aq.2 g1,by grind,g3⟩
    ·exact .inr ⟨Hr aq.2 g1,g2⟩
   have dK:Af (AK (fun i=>listed.getD i false) 0 tr s) (g.v0+i):=hv.H3 (by
    rintro (hh|⟨j,hj,e⟩)
    all_goals grind) (by omega)
   have Xe:∀k,(listed.setIfInBounds i true).getD k false=(if i=k then true else listed.getD k false):=by
    intro k;simp only[kY,ky];by_cases hk:i=k
    ·grind
    ·simp[hk]
   have XC:AK (fun k=>(listed.setIfInBounds i true).getD k false) 0 tr s=(AK (fun i=>listed.getD i false) 0 tr s).app ws:=by refine Gb tr 0 s gS (by grind) (by grind) (fun k hk=>by grind) fun k x hk hx hl=>?_;rw[kO]at hl;intro b hb;have:=(Zt k x hk hx hl).1 b hb;rw[AJ,kZ]at this;exact this.2
   refine K2 hc V8 Vo dK (fun d WT=>by rw[←Vo.DM,(HV _ tr 0 s).1];exact hd o (kC gM) d WT) Wz (fun a' W' bN az=>?_) ho;refine ih (listed.setIfInBounds i true) a' W' (by simp[hs]) ?_ (bN.trans gH) (by grind) ?_ ?_
   ·have XJ:i<listed.toList.length:=by simp;omega
    have hfalse:listed.toList[i]=false:=by
     have hl:i<listed.size:=by omega
     rw[kY,kX hl,lN]at XM;simpa using XM
    grind
   ·rw[XC];refine(hv.mono ?_).app (fun w hw n hn=>?_)
    ·rintro n (hn|⟨j,hj,e⟩)
     ·exact .inl hn
     ·exact .inr ⟨j,by show(listed.setIfInBounds i true).getD j false=true;rw[Xe];grind,e⟩
    ·rcases Ii Wz (A:=fun j=>listed.getD j false=true) EZ w hw n hn with hn|⟨j,hj,e⟩
     ·exact .inl hn
     ·refine .inr ⟨j,?_,e⟩;show(listed.setIfInBounds i true).getD j false=true;rw[Xe];grind
   ·intro k o' hk Xd e he hb;rw[Xe]at hk ⊢;split
    ·rfl
    ·by_cases bU:i=k
     all_goals grind
end
end Go.Ev
namespace Go.Ev
def Hf(cx:Cx)(a:LA):Prop:=match a with
 | .ref c=>cx.lock c.r=false
 | .win c _ _=>cx.lock c.r=false
 | .Bl c=>cx.lock c.r=false
 | .ptr r _ _=>cx.FH r=false
 | .JJ _ c=>cx.lock c.r=false
 | .EI _ ps _=>∃p∈ps,cx.FH p.1=false
 |_=>False
def FJ(cx:Cx)(a a':LA):Prop:=a'=a∨(a'=.bad∧Hf cx a)
inductive C5(cx:Cx):AV→AV→Prop
 |same (v):C5 cx v v
 |v (g as Yy) (h:Yy.length=as.length) (hl:∀(j:Nat)(a:LA),as[j]?=some a→∃a',Yy[j]?=some a'∧FJ cx a a'):C5 cx (.v g as) (.v g Yy)
 |Dp (vs):C5 cx (.Dp vs) (one .bad)
 |bx (as):C5 cx (.bx as) (one .bad)
theorem FJ.trans{cx:Cx}{a b c:LA}(h1:FJ cx a b)(h2:FJ cx b c):FJ cx a c:=by
 rcases h1 with rfl|⟨rfl,hd⟩
 ·exact h2
 ·rcases h2 with rfl|⟨rfl,_⟩<;>exact .inr ⟨rfl,hd⟩
theorem C5.trans{cx:Cx}{a b c:AV}(h1:C5 cx a b)(h2:C5 cx b c):C5 cx a c:=by
 cases h1 with
 |same=>exact h2
 |v g as Yy h hl=>
  cases h2 with
  |same=>exact .v g as Yy h hl
  |v _ _ as2 h' Ws=>
   refine .v g as as2 (h'.trans h) fun j a hj=>?_;obtain⟨a',h3,h4⟩:=hl j a hj;obtain⟨a2,h5,h6⟩:=Ws j a' h3;exact⟨a2,h5,h4.trans h6⟩
 |Dp vs=>
  cases h2 with
  |same=>exact .Dp vs
  |v _ _ as2 h' Ws=>
   obtain⟨a2,h5,h6⟩:=Ws 0 .bad rfl
   have:as2=[.bad]:=by
    match as2,h' with
    | [x],_=>
     simp at h5;subst h5;rcases h6 with rfl|⟨rfl,_⟩<;>rfl
   subst this;exact .Dp vs
 |bx as=>
  cases h2 with
  |same=>exact .bx as
  |v _ _ as2 h' Ws=>
   obtain⟨a2,h5,h6⟩:=Ws 0 .bad rfl
   have:as2=[.bad]:=by
    match as2,h' with
    | [x],_=>
     simp at h5;subst h5;rcases h6 with rfl|⟨rfl,_⟩<;>rfl
   subst this;exact .bx as
structure Ax(cx:Cx)(s s':St):Prop where
 AO:∀t,cx.FH t=true→C5 cx (s.slot t) (s'.slot t)
 roots:∀r,cx.lock r=true→s'.root r=s.root r
 box:∀r,cx.FH r=true→(s'.root r).box=(s.root r).box∧(s'.root r).AA=(s.root r).AA∧(s'.root r).ls.length=(s.root r).ls.length
 l1:s'.sl.length=s.sl.length
 l2:s'.ro.length=s.ro.length
 Bp:s.Bp≤s'.Bp
theorem Ax.refl(cx:Cx)(s:St):Ax cx s s:=⟨fun t _=>.same _,fun _ _=>rfl,fun _ _=>⟨rfl,rfl,rfl⟩,rfl,rfl,kT _⟩
theorem Ax.trans{cx:Cx}{s s1 s2:St}(h1:Ax cx s s1)(h2:Ax cx s1 s2):Ax cx s s2 where
 AO t ht:=(h1.AO t ht).trans (h2.AO t ht)
 roots r hr:=(h2.roots r hr).trans (h1.roots r hr)
 box r hr:=let ⟨a,b,c⟩:=h1.box r hr;let ⟨a',b',c'⟩:=h2.box r hr;⟨a'.trans a,b'.trans b,c'.trans c⟩
 l1:=h2.l1.trans h1.l1
 l2:=h2.l2.trans h1.l2
 Bp:=kv h1.Bp h2.Bp
def Be(s:St):Prop:=∀r,∀a∈(s.root r).ls,a.Ce=true
structure Inv(N:Nat)(s:St):Prop where
 AG:BV s (· < s.Bp)
 two:2≤s.Bp
 len:s.sl.length=N
 BQ:s.ro.length=N
 Lx:Be s
theorem Kg{cx:Cx}{s:St}{dst:Option Nat}{w:Wr}(hd:∀d,dst=some d→cx.FH d=false)(hw:w.ok cx dst=true):Ax cx s (s.AF w) where
 AO t ht:=by
  cases w with
  |slot u a=>
   rw[BR,kG]
   ·exact .same _
   ·rintro ⟨rfl,_⟩
    simp only[Wr.ok]at hw;cases hq:dst with
    |none=>rw[hq]at hw;cases hw
    |some d=>
     rw[hq]at hw;have:u=d:=by simpa using hw
     subst this;rw[hd u hq]at ht;cases ht
  |root r x=>exact .same _
  |leaf r j a=>exact .same _
  |half r j v=>exact .same _
 roots r hr:=by
  cases w with
  |slot u a=>rfl
  |root q x=>
   simp only[Wr.ok,j8,kJ]at hw;rw[A3,kG]
   rintro ⟨rfl,_⟩
   rw[hr]at hw;exact absurd hw.1.1 (by simp)
  |leaf q j a=>
   simp only[Wr.ok,j8,kJ]at hw;have Vv:q≠r:=fun e=>by subst e;rw[hr]at hw;exact absurd hw.1 (by simp)
   refine Bd ?_;simp only[Wr.mask,AJ,Gy,EZ,kZ,kb];omega
  |half q j v=>
   simp only[Wr.ok,kJ]at hw;have Vv:q≠r:=fun e=>by subst e;rw[hr]at hw;cases hw
   refine Bd ?_;simp only[Wr.mask,EZ,kb];omega
 box r hr:=by
  cases w with
  |slot u a=>exact⟨rfl,rfl,rfl⟩
  |root q x=>
   simp only[Wr.ok,j8]at hw;rw[A3,kG]
   ·exact⟨rfl,rfl,rfl⟩
   ·rintro ⟨rfl,_⟩
    cases hq:dst with
    |none=>rw[hq]at hw;exact absurd hw.2 (by simp)
    |some d=>
     rw[hq]at hw;have:q=d:=by simpa using hw.2
     subst this;rw[hd q hq]at hr;cases hr
  |leaf q j a=>exact(BI s q j a).box r
  |half q j v=>exact(BI s q j _).box r
 l1:=(B3 s w).1
 l2:=(B3 s w).2
 Bp:=by cases w<;>exact kT _
theorem Iu{cx:Cx}{dst:Option Nat}(hd:∀d,dst=some d→cx.FH d=false):∀ {ws:List Wr} {s:St},(∀w∈ws,w.ok cx dst=true)→Ax cx s (s.app ws)
 | [],s,h=>Ax.refl cx s
 |w::ws,s,h=>(Kg hd (h w (by simp))).trans (Iu (ws:=ws) (s:=s.AF w) hd fun x hx=>h x (kB _ hx))
theorem Mz{cx:Cx}{s:St}{dst:Option Nat}{w:Wr}(h:Be s)(hw:w.ok cx dst=true):Be (s.AF w):=by
 intro r a ha;cases w with
 |slot u b=>exact h r a ha
 |root q x=>
  simp only[Wr.ok,j8]at hw;rw[A3]at ha;split at ha
  ·exact kL.1 hw.1.2 a ha
  ·exact h r a ha
 |leaf q j b=>
  simp only[Wr.ok,j8]at hw;have WG:(s.AF (.leaf q j b)).root r=if q=r∧q<s.ro.length then { s.root q with ls:=CZ (s.root q).ls j b }else s.root r:=A4 _ _ _ _ _
  rw[WG]at ha;split at ha
  ·have ha:a∈CZ (s.root q).ls j b:=ha;rw[Bi]at ha;rcases lO ha with ha|ha
   ·exact h q a ha
   ·rw[ha];exact hw.2
  ·exact h r a ha
 |half q j v=>
  have WG:(s.AF (.half q j v)).root r=if q=r∧q<s.ro.length then { s.root q with ls:=CZ (s.root q).ls j ((s.leaf q j).Cj v) }else s.root r:=A4 _ _ _ _ _
  rw[WG]at ha;split at ha
  ·have ha:a∈CZ (s.root q).ls j ((s.leaf q j).Cj v):=ha;by_cases hj:j<(s.root q).ls.length
   ·rw[Bi]at ha;rcases lO ha with ha|ha
    ·exact h q a ha
    ·have hb:(s.leaf q j).Ce=true:=h q _ (HB hj);rw[ha];cases hl:s.leaf q j with
     |arr AA gen t e xs d=>cases d<;>rfl
     |_=>rw[hl]at hb;exact hb
   ·rw[Bi,List.set_eq_of_length_le (by omega)]at ha;exact h q a ha
  ·exact h r a ha
theorem LC{cx:Cx}{dst:Option Nat}:∀ {ws:List Wr} {s:St},Be s→(∀w∈ws,w.ok cx dst=true)→Be (s.app ws)
 | [],s,h,hw=>h
 |w::ws,s,h,hw=>LC (ws:=ws) (s:=s.AF w) (Mz h (hw w (by simp))) fun x hx=>hw x (kB _ hx)
theorem NV{cx:Cx}{g:Rg}{bs:List Nat}{i:Nat}{o:Oper}{s:St}{ws:List Wr}(h:LP cx g bs i o s ws):∀w∈ws,w.ok cx o.dst=true:=by
 intro w hw;rcases h with⟨_,_,h⟩|⟨_,rfl⟩
 ·have:=kL.1 h w hw;rw[j8]at this;exact this.1
 ·cases hd:o.dst with
  |none=>rw[hd]at hw;cases hw
  |some d=>
   rw[hd]at hw;have:w=.slot d (one .undef):=by simpa[Cw]using hw
   subst this;simp[Wr.ok]
theorem Gm{cx:Cx}{g:Rg}{bs:List Nat}:∀(r:List Oper)(i:Nat) (lg:List (Nat×Nat)) (s:St) (tr:List (Nat×List Wr)),Trace cx g bs i r lg s tr→(∀o∈r,∀d,o.dst=some d→cx.FH d=false)→Be s→
  Ax cx s (AK (fun _=>true) i tr s)∧Be (AK (fun _=>true) i tr s)
 | [],i,lg,s,[],ht,hd,hr=>⟨Ax.refl cx s,hr⟩
 | [],i,lg,s,_::_,ht,hd,hr=>ht.elim
 |_::_,i,lg,s,[],ht,hd,hr=>ht.elim
 |o::r,i,lg,s,(rm,ws)::tr,ht,hd,hr=>by obtain⟨_,_,Wz,ht⟩:=ht;have WQ:=NV Wz;obtain⟨h1,h2⟩:=Gm r (i+1) _ (s.app ws) tr ht (fun o ho=>hd o (kB _ ho)) (LC hr WQ);exact⟨(Iu (hd o (by simp)) WQ).trans h1,h2⟩
end Go.Ev
namespace Go.Ev
section
variable {E:Cy}{s:St}{W:Wd}{tm:Array Value}{β:Type}{t:β}
theorem OV{a:AV}{v:Value}(h:BU s W a v):AP s W a.one? v:=by
 cases a with
 |Dp vs=>trivial
 |bx as=>trivial
 |v g as=>
  cases g with
  |true=>trivial
  |false=>cases as with
   |nil=>trivial
   |cons b bs=>cases bs with
    |nil=>exact h
    |cons=>trivial
theorem Gj(h:AW E s tm W){r j AA gen:Nat}{t0:TypeId}{e:Ls}{xs:List e.D}(hl:s.leaf r j=.arr AA gen t0 e xs 0):W.om (.lf r j)=[]:=by obtain⟨u,_,hr⟩:=(h.roots r).row hl;exact AD.zero hr
theorem KR(h:AW E s tm W){l:L}{la:LA}{v:Value}(hv:AP s W la v)(hs:s.still l la=true){k:l.D→Step β}(hl:(s.datum l la k).leads t):∃x,(k x).leads t∧l.rd 0 W.w W.fz v x []:=by
 cases l with
 |int kk=>obtain⟨x,hl,hr⟩:=Bj h hv hl;exact⟨x,hl,(L.Aa _ rfl hr).1⟩
 |bool=>obtain⟨x,hl,hr⟩:=Bj h hv hl;exact⟨x,hl,(L.Aa _ rfl hr).1⟩
 |str=>obtain⟨x,hl,hr⟩:=Bj h hv hl;exact⟨x,hl,(L.Aa _ rfl hr).1⟩
 |sl t0 e=>
  unfold St.datum at hl;cases la with
  |sc m x=>
   simp only at hl;split at hl
   ·rename_i y hy;obtain⟨q1,q2⟩:=L.AH hy;subst q1;have q2:x=y:=q2;subst q2;exact⟨x,hl,hv⟩
   ·exact hl.elim
  |CP=>exact⟨_,hl,by rw[show v=.slice none 0 0 from hv];exact Bm⟩
  |ref c=>
   simp only[St.still]at hs;split at hs
   ·rename_i AA gen t1 e1 xs hq;obtain⟨t',e',ys,d',o',hl,hr,ho⟩:=DQ h hv hl;split at hl
    ·rename_i y hy;obtain⟨q1,q2⟩:=L.AH hy;cases q1;have q2:ys=y:=q2;subst q2;exact⟨ys,hl,hr.freeze fun b hb=>hb.elim id fun hb=>by have:=ho b hb;rw[Gj h hq]at this;cases this⟩
    ·exact hl.elim
   ·cases hs
  |win c lo hi=>
   simp only[St.still]at hs;split at hs
   ·rename_i AA gen t1 e1 xs hq;obtain⟨t',e',ys,d',o',hl,hr,ho⟩:=ET h hv hl;split at hl
    ·rename_i y hy;obtain⟨q1,q2⟩:=L.AH hy;cases q1;have q2:sub ys lo hi=y:=q2;subst q2;exact⟨_,hl,hr.freeze fun b hb=>hb.elim id fun hb=>by have:=ho b hb;rw[Gj h hq]at this;cases this⟩
    ·exact hl.elim
   ·cases hs
  |_=>exact hl.elim
def Told(s:St)(W:Wd)(tm:Array Value)(fz:Nat→Prop)(p:VP)(vs:List Lv):Prop:=match p with
 | .slot t l=>t<s.sl.length∧∃x,vs=[⟨l,x⟩]∧l.rd 0 W.w W.fz (tm.getD t Go.undef) x []
 | .own t ty e d k=>t<s.sl.length∧∃xs:List e.D,vs=[⟨.sl ty e,xs⟩]∧(s.root t).box=false∧W.cv t 0=some (tm.getD t Go.undef)∧AD e d W.w W.fz (tm.getD t Go.undef) xs (W.om (.lf t 0))∧(k=true→∃gen t' e' WW d',s.leaf t 0=.arr 1 gen t' e' WW d')
 | .box r ls=>(s.root r).box=true∧ls.length=(s.root r).ls.length∧vs.length=(ls.filterMap id).length∧∀(v j:Nat)(y:Value),W.cv r j=some y→match nth .bad (AQ v ls vs) j with
  | .arr AA gen t e xs d=>(AA=v∨AA=1∧∃W5 t' e' WW d',s.leaf r j=.arr 1 W5 t' e' WW d')∧gen=v∧AD e d W.w W.fz y xs (W.om (.lf r j))
  | .sc l x=>l.rd 0 W.w fz y x []
  | .bad=>True
  |_=>False
theorem H7(h:AW E s tm W){fz:Nat→Prop}(r:Nat)(XA:∀b,W.fz b→fz b):∀(ls:List (Option (L×Nat))) (as:List LA) (j:Nat) {k:List Lv→Step β},(∀i b,as[i]?=some b→s.leaf r (j+i)=b)→(∀a∈as,a.Ce=true)→
  (∀(i:Nat)(l:L),ls[i]?=some (some (l,0))→∀b∈W.om (.lf r (j+i)),fz b)→(Du s ls as k).leads t→
  ∃vs,(k vs).leads t∧ls.length=as.length∧vs.length=(ls.filterMap id).length∧∀(v i:Nat)(y:Value),W.cv r (j+i)=some y→match nth .bad (AQ v ls vs) i with
   | .arr AA gen t e xs d=>(AA=v∨AA=1∧∃W5 t' e' WW d',s.leaf r (j+i)=.arr 1 W5 t' e' WW d')∧gen=v∧AD e d W.w W.fz y xs (W.om (.lf r (j+i)))
   | .sc l x=>l.rd 0 W.w fz y x []
   | .bad=>True
   |_=>False
 | [],[],j,k,hg,Vm,hz,hl=>⟨[],hl,rfl,rfl,fun v i y hy=>by simp[AQ,nth]⟩
 | [],_::_,j,k,hg,Vm,hz,hl=>hl.elim
 |none::ls,[],j,k,hg,Vm,hz,hl=>hl.elim
 |some _::ls,[],j,k,hg,Vm,hz,hl=>hl.elim
 |none::ls,a::as,j,k,hg,Vm,hz,hl=>by
  simp only[Du]at hl
  obtain⟨vs,hl,h1,h2,h3⟩:=H7 h r XA ls as (j+1) (fun i b hi=>by have:=hg (i+1) b (by simpa using hi);grind) (fun a ha=>Vm a (kB _ ha))
   (fun i l hi b hb=>hz (i+1) l (by grind) b (by grind)) hl
  refine⟨vs,hl,by simp[h1],by grind,fun v i y hy=>?_⟩;cases i with
  |zero=>simp[AQ,nth]
  |succ i=>
   have:=h3 v i y (by grind);rw[show j+1+i=j+(i+1) by omega]at this;exact this
 |some (l,d)::ls,a::as,j,k,hg,Vm,hz,hl=>by
  have Vl:s.leaf r j=a:=hg 0 a rfl;obtain⟨XI,_⟩:=h.roots r;have XI:Ab s W (s.leaf r j) (W.cv r j) (W.om (.lf r j)):=XI j;rw[Vl]at XI
  have fin:∀(x:l.D),(Du s ls as fun vs=>k (⟨l,x⟩::vs)).leads t→(∀(v:Nat)(y:Value),W.cv r j=some y→match CD v d (d==3) ⟨l,x⟩with
     | .arr AA gen t e xs d=>(AA=v∨AA=1∧∃W5 t' e' WW d',s.leaf r j=.arr 1 W5 t' e' WW d')∧gen=v∧AD e d W.w W.fz y xs (W.om (.lf r j))
     | .sc l x=>l.rd 0 W.w fz y x []
     | .bad=>True
     |_=>False)→
    ∃vs,(k vs).leads t∧(some (l,d)::ls).length=(a::as).length∧vs.length=((some (l,d)::ls).filterMap id).length∧∀(v i:Nat)(y:Value),W.cv r (j+i)=some y→match nth .bad (AQ v (some (l,d)::ls) vs) i with
     | .arr AA gen t e xs d=>(AA=v∨AA=1∧∃W5 t' e' WW d',s.leaf r (j+i)=.arr 1 W5 t' e' WW d')∧gen=v∧AD e d W.w W.fz y xs (W.om (.lf r (j+i)))
     | .sc l x=>l.rd 0 W.w fz y x []
     | .bad=>True
     |_=>False:=by
   intro x hl hx
   obtain⟨vs,hl,h1,h2,h3⟩:=H7 h r XA ls as (j+1) (fun i b hi=>by have:=hg (i+1) b (by simpa using hi);grind) (fun a ha=>Vm a (kB _ ha))
    (fun i l hi b hb=>hz (i+1) l (by grind) b (by grind)) hl
   refine⟨⟨l,x⟩::vs,hl,by simp[h1],by simp[h2],fun v i y hy=>?_⟩;cases i with
   |zero=>exact hx v y (by omega)
   |succ i=>
    have:=h3 v i y (by grind);rw[show j+1+i=j+(i+1) by omega]at this;exact this
  have Xn:∀(x:l.D),Bs l=false→(∀y,W.cv r j=some y→l.rd 0 W.w W.fz y x [])→∀(v:Nat)(y:Value),W.cv r j=some y→match CD v d (d==3) ⟨l,x⟩with
     | .arr AA gen t e xs d=>(AA=v∨AA=1∧∃W5 t' e' WW d',s.leaf r j=.arr 1 W5 t' e' WW d')∧gen=v∧AD e d W.w W.fz y xs (W.om (.lf r j))
     | .sc l x=>l.rd 0 W.w fz y x []
     | .bad=>True
     |_=>False:=by
   intro x ZX hx v y hy;have:=(L.Aa l ZX (hx y hy) (d':=0) (w':=W.w) (Vp:=fz)).1;cases l with
   |sl t e=>simp[Bs]at ZX
   |_=>exact this
  cases a with
  |arr AA gen t0 e0 xs d0=>
   simp only[Du]at hl;split at hl
   ·rename_i hd;simp only[j8,kU,kI,kJ,beq_eq_false_iff_ne]at hd;obtain⟨hd,h3⟩:=hd;split at hl
    ·rename_i y hy;obtain⟨q1,q2⟩:=L.AH hy;subst q1;have q2:xs=y:=q2;subst q2;refine fin xs hl fun v y hy=>?_;obtain⟨u,hu,hr⟩:=XI;rw[hy]at hu;injection hu with hu;subst hu
     cases d with
     |zero=>
      show(L.sl t0 e0).rd 0 W.w fz y xs [];exact hr.freeze fun b hb=>hb.elim (XA b) fun hb=>hz 0 (.sl t0 e0) rfl b (by omega)
     |succ d=>
      have:d0=d+1:=by omega
      subst this;by_cases h2:d=2
      ·subst h2;have Zf:AA=1:=h3.resolve_left fun q=>q rfl;subst Zf;exact⟨.inr ⟨rfl,gen,t0,e0,xs,3,Vl⟩,rfl,hr⟩
      ·have h4:(d+1==3)=false:=by simp;omega
       rw[h4];exact⟨.inl rfl,rfl,hr⟩
    ·exact hl.elim
   ·exact hl.elim
  |sc m x=>
   have Vw:∀y,W.cv r j=some y→m.rd 0 W.w W.fz y x []:=XI.2;cases d with
   |zero=>
    have hl:(s.datum l (.sc m x) fun y=>Du s ls as fun vs=>k (⟨l,y⟩::vs)).leads t:=hl;simp only[St.datum]at hl;split at hl
    ·rename_i y hy;obtain⟨q1,q2⟩:=L.AH hy;subst q1;have q2:x=y:=q2;subst q2;refine fin x hl fun v y hy=>?_;have hr:=L.AI m (Vw y hy) (fun _ _=>rfl) XA;cases m<;>exact hr
    ·exact hl.elim
   |succ d=>
    cases XB:l with
    |sl t1 e1=>subst XB;exact hl.elim
    |int kk=>
     subst XB;have hl:(s.datum (.int kk) (.sc m x) fun y=>Du s ls as fun vs=>k (⟨.int kk,y⟩::vs)).leads t:=hl;simp only[St.datum]at hl;split at hl
     ·rename_i y hy;obtain⟨q1,q2⟩:=L.AH hy;subst q1;have q2:x=y:=q2;subst q2;exact fin x hl (Xn x rfl Vw)
     ·exact hl.elim
    |bool=>
     subst XB;have hl:(s.datum .bool (.sc m x) fun y=>Du s ls as fun vs=>k (⟨.bool,y⟩::vs)).leads t:=hl;simp only[St.datum]at hl;split at hl
     ·rename_i y hy;obtain⟨q1,q2⟩:=L.AH hy;subst q1;have q2:x=y:=q2;subst q2;exact fin x hl (Xn x rfl Vw)
     ·exact hl.elim
    |str=>
     subst XB;have hl:(s.datum .str (.sc m x) fun y=>Du s ls as fun vs=>k (⟨.str,y⟩::vs)).leads t:=hl;simp only[St.datum]at hl;split at hl
     ·rename_i y hy;obtain⟨q1,q2⟩:=L.AH hy;subst q1;have q2:x=y:=q2;subst q2;exact fin x hl (Xn x rfl Vw)
     ·exact hl.elim
  |CP=>
   cases d with
   |zero=>
    cases l with
    |sl t1 e1=>
     refine fin ([]:List e1.D) hl fun v y hy=>?_;show(L.sl t1 e1).rd 0 W.w fz y ([]:List e1.D) [];rw[show y=.slice none 0 0 from XI.2 y hy];exact Bm
    |_=>exact hl.elim
   |succ d=>cases l<;>exact hl.elim
  |ref c=>have:=Vm (.ref c) (by simp);cases this
  |win c lo hi=>have:=Vm (.win c lo hi) (by simp);cases this
  |_=>cases d with
   |zero=>exact hl.elim
   |succ d=>cases l<;>exact hl.elim
def PB(ps:List VP)(r j:Nat):Prop:=∃ls l,VP.box r ls∈ps∧ls[j]?=some (some (l,0))
theorem Mw(h:AW E s tm W)(Vm:Be s){fz:Nat→Prop}(XA:∀b,W.fz b→fz b){p:VP}(hz:∀r j,PB [p] r j→∀b∈W.om (.lf r j),fz b){k:List Lv→Step β}(hl:(KL s p k).leads t):
  ∃vs,(k vs).leads t∧Told s W tm fz p vs:=by
 cases p with
 |slot u l=>
  simp only[KL]at hl;split at hl
  ·rename_i hs
   have Vs:u<s.sl.length:=by
    rcases kq u s.sl.length with Vs|Wg
    ·exact Vs
    ·have:s.slot u=.v false [.bad]:=A6 _ Wg;rw[this]at hl;exact hl.elim
   obtain⟨x,hl,hr⟩:=KR h (OV (h.AO u)) hs hl;exact⟨_,hl,Vs,x,rfl,hr⟩
  ·exact hl.elim
 |own u ty e d k0=>
  simp only[KL]at hl;split at hl
  ·rename_i c vv AA gen t' e' xs d' XU XE;split at hl
   ·rename_i hc;simp only[j8,kI]at hc;obtain⟨⟨⟨⟨⟨gG,dz⟩,hp⟩,Vu⟩,hd⟩,Zd⟩:=hc;have hp:c.p=[]:=by cases hq:c.p<;>simp_all[isNil]
    subst hd;split at hl
    ·rename_i y hy;obtain⟨q1,q2⟩:=L.AH hy;cases q1;have q2:xs=y:=q2;subst q2
     have Vl:s.leaf c.r c.j=.arr c.AA gen ty e xs d:=by unfold St.leaf;rw[gG,dz,XE,Vu];rfl
     have XG:AP s W (.ref c) (tm.getD u Go.undef):=by have:=h.AO u;rw[XU]at this;exact this
     obtain⟨h',e2,WE,hn⟩:=XG gen _ _ _ _ Vl (.inl hp);rw[hp]at hn;obtain⟨rfl,rfl⟩:=hn;obtain⟨u',Vy,Vw⟩:=(h.roots c.r).row Vl;rw[WE]at Vy;injection Vy with Vy;rw[←Vy]at Vw
     rw[gG,dz]at Vw WE
     have Vs:u<s.sl.length:=by
      rcases kq u s.sl.length with Vs|Wg
      ·exact Vs
      ·have:s.slot u=.v false [.bad]:=A6 _ Wg;rw[this]at XU;cases XU
     refine⟨_,hl,Vs,xs,rfl,by rw[XE],WE,Vw,fun hk=>?_⟩;grind
    ·exact hl.elim
   ·exact hl.elim
  ·exact hl.elim
 |box r ls=>
  simp only[KL]at hl;split at hl
  ·rename_i hb
   obtain⟨vs,hl,h1,h2,h3⟩:=H7 h (fz:=fz) r XA ls (s.root r).ls 0 (fun i b hi=>by unfold St.leaf;rw[kO,Ai,hi];rfl) (Vm r)
    (fun i l hi b hb=>hz r i ⟨ls,l,by simp,hi⟩ b (by grind)) hl
   exact⟨vs,hl,hb,h1,h2,fun v j y hy=>by grind⟩
  ·exact hl.elim
theorem KM(h:AW E s tm W)(Vm:Be s){fz:Nat→Prop}(XA:∀b,W.fz b→fz b):∀ {ps:List VP} {k:List Lv→Step β},(∀r j,PB ps r j→∀b∈W.om (.lf r j),fz b)→(K8 s ps k).leads t→
  ∃Vn:List (List Lv),(k Vn.flatten).leads t∧Vn.length=ps.length∧∀(i:Nat)(p:VP)(vs:List Lv),ps[i]?=some p→Vn[i]?=some vs→Told s W tm fz p vs
 | [],k,hz,hl=>⟨[],hl,rfl,fun i p vs hp=>by simp at hp⟩
 |p::ps,k,hz,hl=>by simp only[K8]at hl;obtain⟨vs,hl,hv⟩:=Mw h Vm XA (fun r j ⟨ls,l,hm,hj⟩=>hz r j ⟨ls,l,by simp at hm;simp[hm],hj⟩) hl;obtain⟨Vn,hl,h1,h2⟩:=KM h Vm XA (fun r j ⟨ls,l,hm,hj⟩=>hz r j ⟨ls,l,kB _ hm,hj⟩) hl;refine⟨vs::Vn,by simpa using hl,by simp[h1],fun i q us hq hu=>?_⟩;grind
end
end Go.Ev
namespace Go.Ev
def VP.Ph:VP→Nat
 | .slot _ _=>1
 | .own _ _ _ _ _=>1
 | .box _ ls=>(ls.filterMap id).length
theorem C9(v:Nat):∀(ls:List (Option (L×Nat))) (vs ws:List Lv),vs.length=(ls.filterMap id).length→AQ v ls (vs++ws)=AQ v ls vs
 | [],vs,ws,h=>by simp[AQ]
 |none::ls,vs,ws,h=>by simp only[AQ];rw[C9 v ls vs ws (by simpa using h)]
 |some (l,d)::ls,[],ws,h=>by simp at h
 |some (l,d)::ls,x::vs,ws,h=>by simp only[AQ,lJ];rw[C9 v ls vs ws (by simpa using h)]
theorem BJ(v:Nat):∀(ls:List (Option (L×Nat))) (vs:List Lv),(AQ v ls vs).length=ls.length
 | [],vs=>rfl
 |none::ls,vs=>by simp[AQ,BJ v ls vs]
 |some (l,d)::ls,[]=>by simp[AQ,BJ v ls []]
 |some (l,d)::ls,x::vs=>by simp[AQ,BJ v ls vs]
theorem OK(v:Nat)(s0:St):∀(ps:List VP)(vs:List Lv)(σ:St),(σ.app (B0 v s0 ps vs)).sl.length=σ.sl.length∧(σ.app (B0 v s0 ps vs)).ro.length=σ.ro.length:=fun ps vs σ=>CB _ σ
def At(v:Nat)(s0 σ:St)(p:VP)(vs:List Lv):Prop:=match p with
 | .slot t _=>∀x,vs=[x]→σ.slot t=one (.sc x.l x.x)
 | .own t _ _ d k=>∀x,vs=[x]→σ.slot t=one (.ref ⟨t,0,Fa v k,v,[]⟩)∧σ.root t=⟨false,v,[CD v d k x]⟩
 | .box r ls=>σ.root r=⟨true,(s0.root r).AA,AQ v ls vs⟩
theorem Ib{x:Nat}{xs:List Nat}(h:distinct (x::xs)=true):x∉xs∧distinct xs=true:=by simp only[distinct,j8,kJ]at h;refine⟨fun hm=>?_,h.2⟩;have:=(BB xs x).2 hm;rw[h.1]at this;cases this
theorem Cs:∀ {xs ys:List Nat},distinct (xs++ys)=true→(∀x∈xs,x∉ys)∧distinct ys=true
 | [],ys,h=>⟨(fun x hx=>by cases hx),h⟩
 |x::xs,ys,h=>by
  obtain⟨h1,h2⟩:=Ib (xs:=xs++ys) h;obtain⟨h3,h4⟩:=Cs h2;refine⟨fun y hy=>?_,h4⟩;rcases kS.1 hy with rfl|hy
  ·exact fun hm=>h1 (kH _ hm)
  ·exact h3 y hy
theorem Gg(v:Nat)(s0:St):∀(ps:List VP) (Vn:List (List Lv)) (σ:St),Vn.length=ps.length→(∀(i:Nat)(p:VP)(vs:List Lv),ps[i]?=some p→Vn[i]?=some vs→vs.length=p.Ph)→
  distinct (ps.flatMap VP.AO)=true→distinct (ps.flatMap VP.roots)=true→(∀t∈ps.flatMap VP.AO,t<σ.sl.length)→(∀r∈ps.flatMap VP.roots,r<σ.ro.length)→
  (∀t,t∉ps.flatMap VP.AO→(σ.app (B0 v s0 ps Vn.flatten)).slot t=σ.slot t)∧(∀r,r∉ps.flatMap VP.roots→(σ.app (B0 v s0 ps Vn.flatten)).root r=σ.root r)∧
  ∀(i:Nat)(p:VP)(vs:List Lv),ps[i]?=some p→Vn[i]?=some vs→At v s0 (σ.app (B0 v s0 ps Vn.flatten)) p vs
 | [],[],σ,hl,hc,d1,d2,b1,b2=>⟨fun _ _=>rfl,fun _ _=>rfl,fun i p vs hp=>by simp at hp⟩
 | [],_::_,σ,hl,hc,d1,d2,b1,b2=>by simp at hl
 |_::_,[],σ,hl,hc,d1,d2,b1,b2=>by simp at hl
 |p::ps,vs::Vn,σ,hl,hc,d1,d2,b1,b2=>by
  rw[ke]at d1 d2;obtain⟨n1,gb⟩:=Cs d1;obtain⟨n2,gf⟩:=Cs d2;have ZS:=hc 0 p vs rfl rfl;have XP:∀t∈p.AO,t<σ.sl.length:=fun t ht=>b1 t (by rw[ke];exact kK _ ht);have XT:∀t∈p.roots,t<σ.ro.length:=fun t ht=>b2 t (by rw[ke];exact kK _ ht)
  have main:∀(ws:List Wr),B0 v s0 (p::ps) (vs::Vn).flatten=ws++B0 v s0 ps Vn.flatten→(∀t,t∉p.AO→(σ.app ws).slot t=σ.slot t)→(∀r,r∉p.roots→(σ.app ws).root r=σ.root r)→At v s0 (σ.app ws) p vs→
    (∀t,t∉(p::ps).flatMap VP.AO→(σ.app (B0 v s0 (p::ps) (vs::Vn).flatten)).slot t=σ.slot t)∧(∀r,r∉(p::ps).flatMap VP.roots→(σ.app (B0 v s0 (p::ps) (vs::Vn).flatten)).root r=σ.root r)∧
    ∀(i:Nat)(q:VP)(us:List Lv),(p::ps)[i]?=some q→(vs::Vn)[i]?=some us→At v s0 (σ.app (B0 v s0 (p::ps) (vs::Vn).flatten)) q us:=by
   intro ws he hs hr ha
   obtain⟨i1,i2,i3⟩:=Gg v s0 ps Vn (σ.app ws) (by simpa using hl) (fun i q us h1 h2=>hc (i+1) q us (by simpa using h1) (by simpa using h2)) gb gf
    (fun t ht=>by rw[(CB ws σ).1];exact b1 t (by rw[ke];exact kH _ ht)) (fun t ht=>by rw[(CB ws σ).2];exact b2 t (by rw[ke];exact kH _ ht))
   rw[he,BF];refine⟨fun t ht=>?_,fun r WV=>?_,fun i q us h1 h2=>?_⟩
   ·rw[ke]at ht;rw[i1 t (fun hm=>ht (kH _ hm)),hs t (fun hm=>ht (kK _ hm))]
   ·rw[ke]at WV;rw[i2 r (fun hm=>WV (kH _ hm)),hr r (fun hm=>WV (kK _ hm))]
   ·cases i with
    |zero=>
     simp at h1 h2;subst h1;subst h2;cases p with
     |slot t l=>intro x hx;rw[i1 t (n1 t (by simp[VP.AO]))];exact ha x hx
     |own t ty e d k=>
      intro x hx;rw[i1 t (n1 t (by simp[VP.AO])),i2 t (n2 t (by simp[VP.roots]))];exact ha x hx
     |box r ls=>
      show(_:St).root r=_;rw[i2 r (n2 r (by simp[VP.roots]))];exact ha
    |succ i=>exact i3 i q us (by simpa using h1) (by simpa using h2)
  cases p with
  |slot t l=>
   obtain⟨x,rfl⟩:∃x,vs=[x]:=by
    match vs,ZS with
    | [x],_=>exact⟨x,rfl⟩
   refine main [.slot t (one (.sc x.l x.x))] rfl (fun u hu=>?_) (fun r hr=>rfl) ?_
   ·show(σ.AF _).slot u=_;rw[BR,kG (fun hh=>hu (by simp[VP.AO,hh.1]))]
   ·intro y hy;simp at hy;subst hy;show(σ.AF _).slot t=_;rw[BR,kF ⟨rfl,XP t (by simp[VP.AO])⟩]
  |own t ty e d k=>
   obtain⟨x,rfl⟩:∃x,vs=[x]:=by
    match vs,ZS with
    | [x],_=>exact⟨x,rfl⟩
   refine main [.root t ⟨false,v,[CD v d k x]⟩,.slot t (one (.ref ⟨t,0,Fa v k,v,[]⟩))] rfl (fun u hu=>?_) (fun r hr=>?_) ?_
   ·show((σ.AF _).AF _).slot u=_;rw[BR,kG (fun hh=>hu (by simp[VP.AO,hh.1]))];rfl
   ·show(σ.AF _).root r=_;rw[A3,kG (fun hh=>hr (by simp[VP.roots,hh.1]))]
   ·intro y hy;simp at hy;subst hy;refine⟨?_,?_⟩
    ·show((σ.AF _).AF _).slot t=_;rw[BR,kF ⟨rfl,by rw[(B3 _ _).1];exact XP t (by simp[VP.AO])⟩]
    ·show(σ.AF _).root t=_;rw[A3,kF ⟨rfl,XT t (by simp[VP.roots])⟩]
  |box r ls=>
   refine main [.root r ⟨true,(s0.root r).AA,AQ v ls vs⟩] ?_ (fun u hu=>rfl) (fun q hq=>?_) ?_
   ·have ZS:vs.length=(ls.filterMap id).length:=ZS;simp only[B0,kW];rw[C9 v ls vs _ ZS,←ZS,lI];rfl
   ·show(σ.AF _).root q=_;rw[A3,kG (fun hh=>hq (by simp[VP.roots,hh.1]))]
   ·show(σ.AF _).root r=_;rw[A3,kF ⟨rfl,XT r (by simp[VP.roots])⟩]
end Go.Ev
