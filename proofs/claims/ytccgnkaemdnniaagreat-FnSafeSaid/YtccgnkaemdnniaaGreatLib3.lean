/- A plain evaluator for Go's loaded code,and that it is sound;part 3. Conditions: none. -/
import Derived.Test.YtccgnkaemdnniaaGreatLib2
import Derived.Orders
set_option linter.all false
namespace Go.Ev
abbrev IT:=List PT
theorem Tg.Ik(a b:Tg):Tg.Dg a b=Tg.Dg b a:=by obtain⟨r,m⟩:=a;obtain⟨r',m'⟩:=b;unfold Tg.Dg;grind
theorem Ez{T:IT}(hn:(T.flatMap PT.EH).Pairwise NH){i i':Nat}{p p':PT}(h:T[i]?=some p)(h':T[i']?=some p')(tj:i≠i'){x y:Tg}(hx:x∈p.EH)(hy:y∈p'.EH):Tg.Dg x y=false:=by
 have hp:=(List.pairwise_flatMap.1 hn).2;rw[ABQ]at hp;obtain⟨hi,rfl⟩:=AAH.1 h;obtain⟨vF,rfl⟩:=AAH.1 h';rcases ABM tj with tX|tX
 ·have:=hp i i' hi vF tX x hx y hy;rw[Tg.Ik];exact this
 ·exact hp i' i vF hi tX y hy x hx
theorem IF{l:List (Option (Loc×List Nat))}{j:Nat}{c:Loc}{o:List Nat}(h:l[j]?=some (some (c,o))):(c.r,some c.j)∈(PT.row l).EH:=List.mem_filterMap.2 ⟨_,AAN h,rfl⟩
theorem Lg{T:IT}(hn:(T.flatMap PT.EH).Pairwise NH){i j j':Nat}{l:List (Option (Loc×List Nat))}{c c':Loc}{o o':List Nat}(h:T[i]?=some (.row l))(hj:l[j]?=some (some (c,o)))(yf:l[j']?=some (some (c',o')))(tj:j≠j'):¬(c.r=c'.r∧c.j=c'.j):=by
 have hp:=(List.pairwise_flatMap.1 hn).1 _ (AAN h);have hp:l.Pairwise fun a b=>∀x,(a.map fun p=>((p.1.r,some p.1.j):Tg))=some x→∀y,(b.map fun p=>((p.1.r,some p.1.j):Tg))=some y→NH x y:=List.pairwise_filterMap.1 hp;rw[ABQ]at hp;obtain⟨hi,e1⟩:=AAH.1 hj;obtain⟨vF,e2⟩:=AAH.1 yf
 rintro ⟨q1,q2⟩
 have hh:Tg.Dg (c.r,some c.j) (c'.r,some c'.j)=true:=by simp[Tg.Dg,q1,q2]
 rcases ABM tj with tX|tX
 ·have:=hp j j' hi vF tX (c.r,some c.j) (by rw[e1];rfl) (c'.r,some c'.j) (by rw[e2];rfl);rw[Tg.Ik,show Tg.Dg (c'.r,some c'.j) (c.r,some c.j)=false from this]at hh;cases hh
 ·have:=hp j' j vF hi tX (c'.r,some c'.j) (by rw[e2];rfl) (c.r,some c.j) (by rw[e1];rfl);rw[show Tg.Dg (c.r,some c.j) (c'.r,some c'.j)=false from this]at hh;cases hh
def AU(T:IT):Key→Option Key
 | .AX i=>match T[i]? with
  |some (.box r)=>some (.AX r)
  |_=>none
 | .lf i j=>match T[i]? with
  |some (.box r)=>some (.lf r j)
  |some (.row l)=>match l[j]? with
   |some (some p)=>some (.lf p.1.r p.1.j)
   |_=>none
  |_=>none
 | .fl _=>none
theorem BP{T:IT}{i:Nat}{a:Key}(h:AU T (.AX i)=some a):∃r,a=.AX r∧T[i]?=some (.box r):=by simp only[AU]at h;grind
theorem BM{T:IT}{i j:Nat}{a:Key}(h:AU T (.lf i j)=some a):(∃r,a=.lf r j∧T[i]?=some (.box r))∨∃l c o,a=.lf c.r c.j∧T[i]?=some (.row l)∧l[j]?=some (some (c,o)):=by simp only[AU]at h;grind
theorem Bc{T:IT}(hn:(T.flatMap PT.EH).Pairwise NH){k k' a:Key}(h:AU T k=some a)(h':AU T k'=some a):k=k':=by
 have hbb:∀ {i i' r:Nat},T[i]?=some (.box r)→T[i']?=some (.box r)→i=i':=by intro i i' r h h';refine AAn fun tj=>?_;have:=Ez hn h h' tj (x:=(r,none)) (y:=(r,none)) (by simp[PT.EH]) (by simp[PT.EH]);simp[Tg.Dg]at this
 cases k with
 |fl k=>cases h
 |AX i=>
  obtain⟨r,rfl,hT⟩:=BP h;cases k' with
  |fl k=>cases h'
  |AX i'=>
   obtain⟨r',e,ud⟩:=BP h';grind
  |lf i' j'=>rcases BM h' with⟨r',e,_⟩|⟨l,c,o,e,_⟩<;>cases e
 |lf i j=>
  cases k' with
  |fl k=>cases h'
  |AX i'=>
   obtain⟨r',e,ud⟩:=BP h';subst e;rcases BM h with⟨r',e,_⟩|⟨l,c,o,e,_⟩<;>cases e
  |lf i' j'=>
   rcases BM h with⟨r,rfl,hT⟩|⟨l,c,o,rfl,hT,hl⟩
   ·rcases BM h' with⟨r',e,ud⟩|⟨l',c',o',e,ud,uz⟩
    ·grind
    ·injection e with e1 e2
     by_cases hi:i=i'
     ·grind
     ·have:=Ez hn hT ud hi (x:=(r,none)) (y:=(c'.r,some c'.j)) (by simp[PT.EH]) (IF uz);simp[Tg.Dg,e1]at this
   ·rcases BM h' with⟨r',e,ud⟩|⟨l',c',o',e,ud,uz⟩
    ·injection e with e1 e2
     by_cases hi:i=i'
     ·grind
     ·have:=Ez hn hT ud hi (x:=(c.r,some c.j)) (y:=(r',none)) (IF hl) (by simp[PT.EH]);simp[Tg.Dg,e1]at this
    ·injection e with e1 e2
     by_cases hi:i=i'
     ·subst hi;rw[hT]at ud;injection ud with ud;injection ud with ud;subst ud
      by_cases hj:j=j'
      ·rw[hj]
      ·exact absurd ⟨e1,e2⟩ (Lg hn hT hl uz hj)
     ·have:=Ez hn hT ud hi (x:=(c.r,some c.j)) (y:=(c'.r,some c'.j)) (IF hl) (IF uz);simp[Tg.Dg,e1,e2]at this
theorem BK(v:Nat):∀(ls:List (L×Nat)) (vs:List Lv),vs.length=ls.length→(AM v ls vs).length=ls.length
 | [],_,_=>by simp[AM]
 |_::_,[],h=>by simp at h
 |(_,m)::ls,x::xs,h=>by simp[AM,BK v ls xs (by simpa using h)]
theorem BJ(v:Nat):∀(ls:List (L×Nat)) (vs:List Lv) (j:Nat) (p:L×Nat) (lv:Lv),ls[j]?=some p→vs[j]?=some lv→(AM v ls vs)[j]?=some (BU v p.2 lv)
 | [],_,j,p,lv,h,_=>by simp at h
 |_::_,[],j,p,lv,_,h=>by simp at h
 |(l,m)::ls,x::xs,0,p,lv,h1,h2=>by simp at h1 h2;subst h1;subst h2;simp[AM]
 |(l,m)::ls,x::xs,j+1,p,lv,h1,h2=>by simp[AM];exact BJ v ls xs j p lv (by grind) (by grind)
theorem CU(v:Nat):∀(ls:List (L×Nat)) (vs ws:List Lv),vs.length=ls.length→AM v ls (vs++ws)=AM v ls vs
 | [],vs,ws,h=>by cases vs<;>simp[AM]
 |_::_,[],_,h=>by simp at h
 |(l,m)::ls,x::xs,ws,h=>by simp[AM,CU v ls xs ws (by simpa using h)]
section
variable {P:Program}{E:Cw}{s:St}{W:Wd}{v:Nat}{tm:Array Value}{cx:Cx}
theorem FW{s':St}{W':Wd}{m:Nat}{lv:Lv}{y:Value}{o:List Nat}(h:lv.l.rd m W'.w W'.fz y lv.x o):Aa s' W' (BU v m lv) (some y) o:=by
 obtain⟨l,x⟩:=lv;cases l with
 |sl t e=>
  cases m with
  |zero=>exact⟨AD.zero h,fun u hu=>by injection hu with hu;subst hu;have:=AD.zero h;subst this;exact h⟩
  |succ m=>exact⟨y,rfl,h⟩
 |int k=>
  obtain⟨h1,h2⟩:=L.AZ (.int k) rfl h (d':=0) (w':=W'.w) (tW:=W'.fz);subst h2;exact⟨rfl,fun u hu=>by injection hu with hu;subst hu;exact h1⟩
 |bool=>
  obtain⟨h1,h2⟩:=L.AZ .bool rfl h (d':=0) (w':=W'.w) (tW:=W'.fz);subst h2;exact⟨rfl,fun u hu=>by injection hu with hu;subst hu;exact h1⟩
 |str=>
  obtain⟨h1,h2⟩:=L.AZ .str rfl h (d':=0) (w':=W'.w) (tW:=W'.fz);subst h2;exact⟨rfl,fun u hu=>by injection hu with hu;subst hu;exact h1⟩
theorem J7{m:Nat}{lv:Lv}{AA gen:Nat}{t:TypeId}{e:Ls}{xs:List e.D}{d:Nat}(h:BU v m lv=.arr AA gen t e xs d):AA=v∧gen=v:=by
 obtain⟨l,x⟩:=lv;cases l with
 |sl t0 e0=>cases m with
  |zero=>cases h
  |succ m=>
   have h:LA.arr v v t0 e0 x (m+1)=_:=h;grind
 |_=>cases h
def E3(s:St)(v:Nat)(ls:List (L×Nat))(as:List LA)(vs:List Lv)(j:Nat)(u:Up):Prop:=
 ∃(p:L×Nat) (c:Loc) (lv:Lv) (AA gen:Nat) (t0:TypeId) (e0:Ls) (xs0:List e0.D) (d0:Nat) (F:List e0.D→List e0.D),ls[j]?=some p∧Bz p.1=true∧as[j]?=some (.ref c)∧vs[j]?=some lv∧s.leaf c.r c.j=.arr AA gen t0 e0 xs0 d0∧Hu (N4 lv) c.p t0 e0=some F∧
  u=⟨c.r,c.j,[.arr AA v t0 e0 (F xs0) d0]⟩
theorem E3.uniq{ls:List (L×Nat)}{as:List LA}{vs:List Lv}{j:Nat}{u u':Up}(h:E3 s v ls as vs j u)(h':E3 s v ls as vs j u'):u=u':=by
 obtain⟨p,c,lv,AA,gen,t0,e0,xs0,d0,F,h1,h2,h3,h4,h5,h6,rfl⟩:=h;obtain⟨p',c',lv',yz,yB,t0',e0',xs0',d0',F',g1,g2,g3,g4,g5,g6,rfl⟩:=h';rw[h3]at g3;injection g3 with g3;injection g3 with g3;subst g3
 rw[h4]at g4;injection g4 with g4;subst g4
 rw[h5]at g5;injection g5 with a1 a2 a3 a4 a5 a6
 subst a1;subst a3;subst a4;grind
def KQ(s:St)(v:Nat)(ls:List (L×Nat))(as:List LA)(vs:List Lv)(us:List Up):Prop:=
 (∀u∈us,∃j,E3 s v ls as vs j u)∧∀(j:Nat)(p:L×Nat),ls[j]?=some p→Bz p.1=true→∃u∈us,E3 s v ls as vs j u
theorem E3.succ{p:L×Nat}{a:LA}{lv:Lv}{ls:List (L×Nat)}{as:List LA}{vs:List Lv}{j:Nat}{u:Up}(h:E3 s v ls as vs j u):E3 s v (p::ls) (a::as) (lv::vs) (j+1) u:=by obtain⟨p,c,lv,AA,gen,t0,e0,xs0,d0,F,h1,h2,h3,h4,h5,h6,rfl⟩:=h;exact⟨p,c,lv,AA,gen,t0,e0,xs0,d0,F,by grind,h2,by grind,by grind,h5,h6,rfl⟩
theorem Ix:∀(ls:List (L×Nat)) (as:List LA) (vs rest:List Lv) {ws:List Wr},vs.length=ls.length→putRow s v ls as (vs++rest)=some ws→∃us,ws=El us∧KQ s v ls as vs us
 | [],[],vs,rest,ws,hlen,h=>by simp only[putRow,Option.some.injEq]at h;subst h;exact⟨[],rfl,⟨fun u hu=>(by cases hu),fun j p hp=>(by simp at hp)⟩⟩
 | [],_::_,vs,rest,ws,hlen,h=>by simp[putRow]at h
 |_::_,[],vs,rest,ws,hlen,h=>by simp[putRow]at h
 |_::_,_::_,[],rest,ws,hlen,h=>by simp at hlen
 |(l,d)::ls,a::as,x::vs,rest,ws,hlen,h=>by
  simp only[ABH,putRow]at h;split at h
  ·rename_i vk wx;obtain⟨us,rfl,h1,h2⟩:=Ix ls as vs rest (by grind) wx
   have plain:Bz l=false→some (El us)=some ws→∃us,ws=El us∧KQ s v ((l,d)::ls) (a::as) (x::vs) us:=by
    intro hs h;injection h with h
    refine⟨us,h.symm,fun u hu=>?_,fun j p hp wR=>?_⟩
    ·obtain⟨j,hj⟩:=h1 u hu;exact⟨j+1,hj.succ⟩
    ·cases j with
     |zero=>grind
     |succ j=>
      obtain⟨u,hu,hr⟩:=h2 j p (by grind) wR;exact⟨u,hu,hr.succ⟩
   cases l with
   |int i=>exact plain rfl h
   |bool=>exact plain rfl h
   |str=>exact plain rfl h
   |sl t e=>
    cases a with
    |ref c=>
     dsimp only at h;split at h
     ·rename_i AA gen t0 e0 xs0 d0 hq;split at h
      ·rename_i F hF;injection h with h
       have hu:E3 s v ((.sl t e,d)::ls) (.ref c::as) (x::vs) 0 ⟨c.r,c.j,[.arr AA v t0 e0 (F xs0) d0]⟩:=⟨_,c,x,AA,gen,t0,e0,xs0,d0,F,rfl,rfl,rfl,rfl,hq,hF,rfl⟩;refine⟨⟨c.r,c.j,[.arr AA v t0 e0 (F xs0) d0]⟩::us,?_,fun u tu=>?_,fun j p hp wR=>?_⟩
       ·rw[←h];simp[El,BA]
       ·rcases AAZ.1 tu with rfl|tu
        ·grind
        ·obtain⟨j,hj⟩:=h1 u tu;exact⟨j+1,hj.succ⟩
       ·cases j with
        |zero=>grind
        |succ j=>
         obtain⟨u,hu,hr⟩:=h2 j p (by grind) wR;exact⟨u,AAJ _ hu,hr.succ⟩
      ·cases h
     ·cases h
    |_=>cases h
  ·cases h
def Mw(s:St)(v:Nat)(pm:PM)(av:AV)(vs:List Lv)(uo:List Up):Prop:=match pm with
 | .box ls=>∃r AA,av=.v false [.ptr r 0 AA]∧uo=[⟨r,0,AM v ls vs⟩]
 | .row _ ls=>∃g as,av=.v g as∧KQ s v ls as vs uo
 |_=>uo=[]
theorem Gm:∀(ps:List PM)(uI:List AV) (tV:List (List Lv)) {ws:List Wr},tV.length=ps.length→(∀(i:Nat)(pm:PM)(vs:List Lv),ps[i]?=some pm→tV[i]?=some vs→vs.length=pm.outs.length)→AY s v ps uI tV.flatten=some ws→
  ∃U:List (List Up),ws=El U.flatten∧U.length=ps.length∧∀(i:Nat)(pm:PM)(av:AV)(vs:List Lv)(uo:List Up),ps[i]?=some pm→uI[i]?=some av→tV[i]?=some vs→U[i]?=some uo→Mw s v pm av vs uo
 | [],uI,[],ws,hlen,hv,h=>by
  cases uI with
  |nil=>simp[AY]at h;subst h;exact⟨[],rfl,rfl,fun i pm av vs uo h1=>by simp at h1⟩
  |cons a as=>simp[AY]at h
 | [],uI,_::_,ws,hlen,hv,h=>by simp at hlen
 |_::_,uI,[],ws,hlen,hv,h=>by simp at hlen
 |pm::ps,uI,vs::tV,ws,hlen,hv,h=>by
  have uT:tV.length=ps.length:=by simpa using hlen
  have vE:∀(i:Nat)(pm:PM)(vs:List Lv),ps[i]?=some pm→tV[i]?=some vs→vs.length=pm.outs.length:=fun i xo wb h1 h2=>hv (i+1) xo wb (by grind) (by grind);have h0:=hv 0 pm vs rfl rfl;cases uI with
  |nil=>cases pm<;>simp[AY]at h
  |cons av uI=>
   have fin:∀(uo:List Up) {vk:List Wr},AY s v ps uI tV.flatten=some vk→ws=El uo++vk→Mw s v pm av vs uo→
     ∃U:List (List Up),ws=El U.flatten∧U.length=(pm::ps).length∧∀(i:Nat)(xo:PM)(zx:AV)(wb:List Lv)(uo:List Up),(pm::ps)[i]?=some xo→(av::uI)[i]?=some zx→(vs::tV)[i]?=some wb→U[i]?=some uo→Mw s v xo zx wb uo:=by
    intro uo vk hp hw uU;obtain⟨U,h1,h2,h3⟩:=Gm ps uI tV uT vE hp;refine⟨uo::U,?_,by simp[h2],?_⟩
    ·rw[hw,h1];simp[El]
    ·grind
   cases pm with
   |val g ls=>
    have vb:vs=[]:=AAP (by simpa[PM.outs]using h0);subst vb;simp only[AY,AAi,AA4]at h;exact fin [] h rfl rfl
   |fn f=>
    have vb:vs=[]:=AAP (by simpa[PM.outs]using h0);subst vb;simp only[AY,AAi,AA4]at h;exact fin [] h rfl rfl
   |box ls=>
    have ug:vs.length=ls.length:=by simpa[PM.outs]using h0
    simp only[AAi]at h;unfold AY at h;split at h<;>try cases h
    ·rename_i e1 _;cases e1
    ·rename_i e1 _;cases e1
    ·rename_i e1 _;cases e1
    ·rename_i yN zB r AA avs' e1 e2;injection e1 with e1 e1';injection e1 with e1;subst e1;subst e1'
     injection e2 with e2 e2';subst e2;subst e2'
     split at h
     ·rename_i vk wx;injection h with h;subst h
      rw[←ug,AA5]at wx;refine fin [⟨r,0,AM v ls vs⟩] wx ?_ ⟨r,AA,rfl,rfl⟩;rw[CU v ls vs _ ug];simp[El]
     ·cases h
    grind
   |row g ls=>
    have ug:vs.length=ls.length:=by simpa[PM.outs]using h0
    simp only[AAi]at h;cases av with
    |Dp bs=>simp[AY]at h
    |bx bs=>simp[AY]at h
    |v g' as=>
     simp only[AY]at h;split at h
     ·rename_i us vk zX wx;injection h with h;subst h
      rw[←ug,AA5]at wx;obtain⟨uo,rfl,hr⟩:=Ix ls as vs _ ug zX;exact fin uo wx rfl ⟨g',as,rfl,hr⟩
     ·cases h
theorem Js(r j:Nat):∀(us:List Up)(a:LA),(∀u∈us,¬(r=u.r∧u.lo≤j∧j<u.lo+u.news.length))→us.foldl (fun a u=>if r=u.r∧u.lo≤j∧j<u.lo+u.news.length then nth .bad u.news (j-u.lo)else a) a=a
 | [],_,_=>rfl
 |u::us,a,h=>by rw[List.foldl_cons,AAM (h u (by simp))];exact Js r j us a fun x hx=>h x (AAJ _ hx)
theorem JA(r j:Nat){x:LA}:∀(us:List Up)(a:LA),(∀u∈us,r=u.r∧u.lo≤j∧j<u.lo+u.news.length→nth .bad u.news (j-u.lo)=x)→(a=x∨∃u∈us,r=u.r∧u.lo≤j∧j<u.lo+u.news.length)→
  us.foldl (fun a u=>if r=u.r∧u.lo≤j∧j<u.lo+u.news.length then nth .bad u.news (j-u.lo)else a) a=x
 | [],a,h,he=>by grind
 |u::us,a,h,he=>by rw[List.foldl_cons];refine JA r j us _ (fun y hy=>h y (AAJ _ hy)) ?_;grind
def Fb(w:World)(fz:Nat→Prop)(v:Nat)(b:LA)(y:Value)(o:List Nat):Prop:=match b with
 | .arr AA gen t e xs m=>AA=v∧gen=v∧AD e m w fz y xs o
 | .bad=>o=[]
 |_=>False
theorem Ji{w:World}{fz:Nat→Prop}{d:Nat}{om:Nat→List Nat}:∀(ls:List (L×Nat)) (vs rest:List Lv) (off:Nat) (G:Nat→Option Value) {as rs:List LA} {left:List Lv},vs.length=ls.length→(∀(j:Nat)(p:L×Nat)(lv:Lv),ls[j]?=some p→vs[j]?=some lv→∃y,G j=some y∧lv.l.rd p.2 w fz y lv.x (om (off+j)))→
  Jh d v ls (vs++rest) off=some (as,rs,left)→left=rest∧as.length=ls.length∧∃ys:List Value,ys.length=ls.length∧rs.length=ls.length∧(∀k,k<ls.length→ys[k]?=G k)∧(∀(k:Nat)(b:LA),rs[k]?=some b→∃y,ys[k]?=some y∧Fb w fz v b y (om (off+k)))∧
   ∀(s':St)(W':Wd),W'.w=w→W'.fz=fz→(∀k,k<ls.length→s'.leaf d (off+k)=nth .bad rs k∧W'.cv d (off+k)=ys[k]?)→∀(k:Nat)(b:LA),as[k]?=some b→∃y,ys[k]?=some y∧AR s' W' b y
 | [],vs,rest,off,G,as,rs,left,hlen,hv,h=>by have:vs=[]:=AAP hlen;subst this;simp only[Jh,AA4,Option.some.injEq,Prod.mk.injEq]at h;obtain⟨rfl,rfl,rfl⟩:=h;exact⟨rfl,rfl,[],rfl,rfl,(fun k hk=>by simp at hk),(fun k b hb=>by simp at hb),fun s' W' _ _ _ k b hb=>by simp at hb⟩
 |_::_,[],rest,off,G,as,rs,left,hlen,hv,h=>by simp at hlen
 |(l,m)::ls,lv::vs,rest,off,G,as,rs,left,hlen,hv,h=>by
  obtain⟨l',x⟩:=lv;simp only[ABH,Jh]at h;split at h
  ·rename_i xP rs' zv hb
   obtain⟨h1,h2,ys,h3,h4,h5,h6,h7⟩:=Ji ls vs rest (off+1) (fun j=>G (j+1)) (by grind) (fun j p lv hp vg=>by
    have:=hv (j+1) p lv (by grind) (by grind);rwa[show off+(j+1)=off+1+j by omega]at this) hb
   obtain⟨y,hy,hr⟩:=hv 0 (l,m) ⟨l',x⟩ rfl rfl;dsimp only[Nat.add_zero]at hr
   have fin:∀(a b:LA),(some (a::xP,b::rs',zv)=some (as,rs,left))→Fb w fz v b y (om off)→(∀(s':St)(W':Wd),W'.w=w→W'.fz=fz→s'.leaf d off=b→W'.cv d off=some y→AR s' W' a y)→
     left=rest∧as.length=((l,m)::ls).length∧∃ys:List Value,ys.length=((l,m)::ls).length∧rs.length=((l,m)::ls).length∧(∀k,k<((l,m)::ls).length→ys[k]?=G k)∧(∀(k:Nat)(b:LA),rs[k]?=some b→∃y,ys[k]?=some y∧Fb w fz v b y (om (off+k)))∧
      ∀(s':St)(W':Wd),W'.w=w→W'.fz=fz→(∀k,k<((l,m)::ls).length→s'.leaf d (off+k)=nth .bad rs k∧W'.cv d (off+k)=ys[k]?)→∀(k:Nat)(b:LA),as[k]?=some b→∃y,ys[k]?=some y∧AR s' W' b y:=by
    intro a b he wu yG;injection he with he;injection he with e1 he;injection he with e2 e3
    subst e1;subst e2;subst e3;refine⟨h1,by simp[h2],y::ys,by simp[h3],by simp[h4],?_,?_,?_⟩
    ·grind
    ·grind
    ·intro s' W' hw hz hs k b' th;cases k with
     |zero=>
      simp at th;subst th;obtain⟨q1,q2⟩:=hs 0 (by simp);exact⟨y,rfl,yG s' W' hw hz q1 q2⟩
     |succ k=>
      obtain⟨y',wN,ho⟩:=h7 s' W' hw hz (fun k hk=>by
       have:=hs (k+1) (by simp;omega);rw[show off+1+k=off+(k+1) by omega];exact⟨this.1.trans rfl,this.2.trans (by simp)⟩) k b' (by simpa using th)
      grind
   cases l' with
   |sl t e=>
    cases m with
    |zero=>
     refine fin _ _ h (AD.zero hr) fun s' W' hw hz _ _=>?_;have:=AD.zero hr;rw[this]at hr;show(L.sl t e).rd 0 W'.w W'.fz y x [];grind
    |succ m=>
     refine fin _ _ h ⟨rfl,rfl,hr⟩ fun s' W' hw hz hl hc=>?_;intro gen t' e' u6 d' uz hp;exact⟨y,e',hc,rfl,rfl⟩
   |int k=>
    obtain⟨q1,q2⟩:=L.AZ (.int k) rfl hr (d':=0) (w':=w) (tW:=fz);rw[q2]at q1;exact fin _ _ h q2 fun s' W' hw hz _ _=>by show(L.int k).rd 0 W'.w W'.fz y x [];grind
   |bool=>
    obtain⟨q1,q2⟩:=L.AZ .bool rfl hr (d':=0) (w':=w) (tW:=fz);rw[q2]at q1;exact fin _ _ h q2 fun s' W' hw hz _ _=>by show L.bool.rd 0 W'.w W'.fz y x [];grind
   |str=>
    obtain⟨q1,q2⟩:=L.AZ .str rfl hr (d':=0) (w':=w) (tW:=fz);rw[q2]at q1;exact fin _ _ h q2 fun s' W' hw hz _ _=>by show L.str.rd 0 W'.w W'.fz y x [];grind
  ·cases h
theorem Mo{s':St}{W':Wd}{g:Bool}{ls:List (L×Nat)}{u:Value}{as:List LA}(hlen:as.length=ls.length)(hg:match g with
  |true=>∃cs:Array Value,u=.agg cs∧cs.size=ls.length
  |false=>ls.length=1) (h:∀(k:Nat)(b:LA),as[k]?=some b→∃y,A5 g u k=some y∧AR s' W' b y):E4 s' W' g as u:=by
 cases g with
 |true=>
  obtain⟨cs,rfl,uC⟩:=hg;exact⟨cs,rfl,by rw[uC,hlen],h⟩
 |false=>
  match as,hlen with
  | [],h0=>dsimp only at hg;simp at h0;omega
  | [b],_=>
   obtain⟨y,hy,uU⟩:=h 0 b rfl;simp[A5]at hy;subst hy;exact uU
  |_::_::_,h0=>dsimp only at hg;simp at h0;omega
theorem HR{w:World}{fz:Nat→Prop}{d:Nat}{om:Nat→List Nat}:∀(rs:List (Bool×List (L×Nat))) (rv:List Value) (vsR:List (List Lv)) (rest:List Lv) (off:Nat) {bs:List (Bool×List LA)} {own:List LA} {left:List Lv},EL w fz om rs rv vsR off→
  D4 d v rs (vsR.flatten++rest) off=some (bs,own,left)→left=rest∧bs.length=rv.length∧∃ys:List Value,ys.length=own.length∧(∀(k:Nat)(b:LA),own[k]?=some b→∃y,ys[k]?=some y∧Fb w fz v b y (om (off+k)))∧
   ∀(s':St)(W':Wd),W'.w=w→W'.fz=fz→(∀k,k<own.length→s'.leaf d (off+k)=nth .bad own k∧W'.cv d (off+k)=ys[k]?)→∀(i:Nat)(p:Bool×List LA)(u:Value),bs[i]?=some p→rv[i]?=some u→E4 s' W' p.1 p.2 u
 | [],[],[],rest,off,bs,own,left,hr,h=>by simp only[D4,List.flatten_nil,AA4,Option.some.injEq,Prod.mk.injEq]at h;grind
 | [],[],_::_,rest,off,bs,own,left,hr,h=>hr.elim
 | [],_::_,_,rest,off,bs,own,left,hr,h=>by simp[EL]at hr
 |_::_,[],_,rest,off,bs,own,left,hr,h=>by simp[EL]at hr
 |_::_,_::_,[],rest,off,bs,own,left,hr,h=>by simp[EL]at hr
 |(g,ls)::rs,u::rv,vs::vsR,rest,off,bs,own,left,hr,h=>by
  obtain⟨⟨hm,hg,vb⟩,hr⟩:=hr;have ug:vs.length=ls.length:=by have:=congrArg List.length hm;simpa using this
  simp only[D4,AAi,List.append_assoc]at h;split at h
  ·rename_i as own1 vs1 hb;obtain⟨h1,h2,ys,h3,h4,h5,h6,h7⟩:=Ji ls vs (vsR.flatten++rest) off (A5 g u) ug vb hb;subst h1;split at h
   ·rename_i bs' own2 zv th;injection h with h;injection h with e1 h;injection h with e2 e3
    subst e1;subst e2;subst e3;obtain⟨q1,q2,zs,q3,q4,q5⟩:=HR rs rv vsR rest (off+ls.length) hr th;refine⟨q1,by simp[q2],ys++zs,by grind,?_,?_⟩
    ·grind
    ·intro s' W' hw hz hs i p u' hi tu;cases i with
     |zero=>
      simp at hi tu;subst hi;subst tu;refine Mo h2 hg fun k b hk=>?_;have tX:k<ls.length:=by rw[←h2];exact(AAH.1 hk).1
      obtain⟨y,hy,uU⟩:=h7 s' W' hw hz (fun k hk=>by
       obtain⟨a1,a2⟩:=hs k (by simp;omega);rw[a1,a2];refine⟨?_,?_⟩
       ·rw[Ae,Ae,AAu (by omega)]
       ·rw[AAu (by omega)]) k b hk
      grind
     |succ i=>
      refine q5 s' W' hw hz (fun k hk=>?_) i p u' (by simpa using hi) (by simpa using tu);obtain⟨a1,a2⟩:=hs (ls.length+k) (by simp;omega);rw[show off+ls.length+k=off+(ls.length+k) by omega,a1,a2];refine⟨?_,?_⟩
      ·rw[Ae,Ae,AA3 (by omega)];congr 2;omega
      grind
   ·cases h
  ·cases h
end
end Go.Ev
namespace Go.Ev
def Ao(T:IT)(om:Key→List Nat):Key→List Nat
 | .AX i=>match T[i]? with
  |some (.box r)=>om (.AX r)
  |_=>[]
 | .lf i j=>match T[i]? with
  |some (.box r)=>om (.lf r j)
  |some (.row l)=>match l[j]? with
   |some (some p)=>p.2
   |_=>[]
  |_=>[]
 | .fl _=>[]
def Ff(T:IT)(bk:Nat→Nat)(i:Nat):Nat:=match T[i]? with
 |some (.box r)=>bk r
 |_=>0
theorem F4:∀(ps:List PM)(uI:List AV)(i:Nat)(g:Bool)(ls:List L)(av:AV),ps[i]?=some (.val g ls)→uI[i]?=some av→∀r∈av.roots,r∈Af ps uI
 | [],_,i,g,ls,av,h,_,r,hr=>by simp at h
 |_::_,[],i,g,ls,av,_,h,r,hr=>by simp at h
 |pm::ps,a::uI,0,g,ls,av,h1,h2,r,hr=>by simp at h1 h2;subst h1;subst h2;exact AAQ _ hr
 |pm::ps,a::uI,i+1,g,ls,av,h1,h2,r,hr=>by
  have:=F4 ps uI i g ls av (by simpa using h1) (by simpa using h2) r hr;cases pm with
  |val g' yN=>exact AAO _ this
  |_=>exact this
section
variable {P:Program}{E:Cw}{s:St}{W:Wd}{v:Nat}{tm:Array Value}{cx:Cx}
structure Handed(s:St)(W:Wd)(ps:List PM)(uI:List AV)(us:List Value)(tV:List (List Lv))(T:IT):Prop where
 l1:uI.length=ps.length
 l2:us.length=ps.length
 l3:tV.length=ps.length
 l4:T.length=ps.length
 nodup:(T.flatMap PT.EH).Pairwise NH
 each:∀(i:Nat)(pm:PM)(av:AV)(u:Value)(vs:List Lv)(tg:PT),ps[i]?=some pm→uI[i]?=some av→us[i]?=some u→tV[i]?=some vs→T[i]?=some tg→HD s W pm av tg u vs
 apart:∀r∈Af ps uI,∀(i:Nat)(p:PT),T[i]?=some p→∀x∈p.EH,x.1≠r
theorem Bb{α:Type}{l:List α}{i n:Nat}(h:l.length=n)(hi:i<n):∃x,l[i]?=some x:=⟨l[i]'(by omega),AAF (by omega)⟩
theorem Handed.all{ps:List PM}{uI:List AV}{us:List Value}{tV:List (List Lv)}{T:IT}(hh:Handed s W ps uI us tV T){i:Nat}{pm:PM}(hp:ps[i]?=some pm):
  ∃av u vs tg,uI[i]?=some av∧us[i]?=some u∧tV[i]?=some vs∧T[i]?=some tg∧HD s W pm av tg u vs:=by
 have hi:i<ps.length:=(AAH.1 hp).1;obtain⟨av,h1⟩:=Bb hh.l1 hi;obtain⟨u,h2⟩:=Bb hh.l2 hi;obtain⟨vs,h3⟩:=Bb hh.l3 hi;obtain⟨tg,h4⟩:=Bb hh.l4 hi;exact⟨av,u,vs,tg,h1,h2,h3,h4,hh.each i pm av u vs tg hp h1 h2 h3 h4⟩
theorem Handed.O0{ps:List PM}{uI:List AV}{us:List Value}{tV:List (List Lv)}{T:IT}(hh:Handed s W ps uI us tV T){i:Nat}{m:PT}(hT:T[i]?=some m):
  ∃pm av u vs,ps[i]?=some pm∧uI[i]?=some av∧us[i]?=some u∧tV[i]?=some vs∧HD s W pm av m u vs:=by
 have hi:i<ps.length:=by rw[←hh.l4];exact(AAH.1 hT).1
 obtain⟨pm,hp⟩:=Bb rfl hi;obtain⟨av,u,vs,tg,h1,h2,h3,h4,h5⟩:=hh.all hp;rw[hT]at h4;injection h4 with h4;subst h4
 exact⟨pm,av,u,vs,hp,h1,h2,h3,h5⟩
theorem Handed.N5{ps:List PM}{uI:List AV}{us:List Value}{tV:List (List Lv)}{T:IT}(hh:Handed s W ps uI us tV T){i j:Nat}{l:List (Option (Loc×List Nat))}{c:Loc}{o:List Nat}(hT:T[i]?=some (.row l))(hj:l[j]?=some (some (c,o))):
  ∃g ls as u vs p lv y,ps[i]?=some (.row g ls)∧uI[i]?=some (.v g as)∧us[i]?=some u∧tV[i]?=some vs∧ls[j]?=some p∧as[j]?=some (.ref c)∧vs[j]?=some lv∧Bz p.1=true∧vs.map (·.l)=ls.map (·.1)∧A5 g u j=some y∧Fc s W p.2 (.ref c) (some (c,o)) lv y:=by
 obtain⟨pm,av,u,vs,e1,e2,e3,e4,e5⟩:=hh.O0 hT;cases pm with
 |val g ls=>cases e5.1
 |fn f=>cases e5.1
 |box ls=>obtain⟨r,AA,_,q,_⟩:=e5;cases q
 |row g ls=>
  obtain⟨as,l',rfl,q2,q3,q4,q5,q6,q7⟩:=e5;injection q2 with q2;subst q2
  have tX:j<ls.length:=by rw[←q4];exact(AAH.1 hj).1
  have ug:vs.length=ls.length:=by have:=congrArg List.length q5;simpa using this
  obtain⟨p,hp⟩:=Bb rfl tX;obtain⟨a,ha⟩:=Bb q3 tX;obtain⟨lv,vg⟩:=Bb ug tX;obtain⟨y,hy,hr⟩:=q7 j p a lv _ hp ha vg hj
  have hl:lv.l=p.1:=by have:=congrArg (·[j]?) q5;simp only[AAX,hp,vg,AA9,Option.some.injEq]at this;exact this
  have uS:=hr;rcases hr with⟨_,h0,_⟩|⟨c',o',gen,t,e,xs,h,t',e',ys,rfl,h2,_,_,_,_,h3,_⟩
  ·cases h0
  ·injection h2 with h2;injection h2 with h2 wO;subst h2
   exact⟨g,ls,as,u,vs,p,lv,y,e1,e2,e3,e4,hp,ha,vg,by rw[←hl,h3];rfl,q5,hy,uS⟩
theorem Cc{ps:List PM}{uI:List AV}{us:List Value}{tV:List (List Lv)}{T:IT}(hh:Handed s W ps uI us tV T){k:Key}{b:Nat}(h:b∈Ao T W.om k):∃a,AU T k=some a∧b∈W.om a:=by
 cases k with
 |fl k=>cases h
 |AX i=>
  simp only[Ao]at h;split at h
  ·rename_i r hT;exact⟨.AX r,by simp[AU,hT],h⟩
  ·cases h
 |lf i j=>
  simp only[Ao]at h;split at h
  ·rename_i r hT;exact⟨.lf r j,by simp[AU,hT],h⟩
  ·rename_i l hT;split at h
   ·rename_i p hp;obtain⟨c,o⟩:=p;obtain⟨g,ls,as,u,vs,p,lv,y,_,_,_,_,_,_,_,_,_,_,hr⟩:=hh.N5 hT hp;refine⟨.lf c.r c.j,by simp[AU,hT,hp],?_⟩;rcases hr with⟨_,h0,_⟩|⟨c',o',gen,t,e,xs,h',t',e',ys,_,h2,_,_,_,_,_,_,h4,_⟩
    ·cases h0
    ·injection h2 with h2;injection h2 with h2 wO;subst h2;subst wO
     exact h4 b h
   ·cases h
  ·cases h
theorem Jg(h:AW E s tm W){ps:List PM}{uI:List AV}{us:List Value}{tV:List (List Lv)}{T:IT}(hh:Handed s W ps uI us tV T)(k:Key):(Ao T W.om k).Nodup:=by
 cases k with
 |fl k=>exact AAL
 |AX i=>
  simp only[Ao];split
  ·exact h.sep.nodup _
  ·exact AAL
 |lf i j=>
  simp only[Ao];split
  ·exact h.sep.nodup _
  ·rename_i l hT;split
   ·rename_i p hp;obtain⟨c,o⟩:=p;obtain⟨g,ls,as,u,vs,p,lv,y,_,_,_,_,_,_,_,_,_,_,hr⟩:=hh.N5 hT hp;rcases hr with⟨_,h0,_⟩|⟨c',o',gen,t,e,xs,h',t',e',ys,_,h2,_,_,_,_,_,_,h4,h5⟩
    ·cases h0
    ·injection h2 with h2;injection h2 with h2 wO;subst h2;subst wO
     exact h5
   ·exact AAL
  ·exact AAL
theorem Handed.root{ps:List PM}{uI:List AV}{us:List Value}{tV:List (List Lv)}{T:IT}(hh:Handed s W ps uI us tV T){k:Key}{r j:Nat}(h:AU T k=some (.lf r j)):r∉Af ps uI:=by
 cases k with
 |fl k=>cases h
 |AX i=>obtain⟨r',e,_⟩:=BP h;cases e
 |lf i j'=>
  rcases BM h with⟨r',e,hT⟩|⟨l,c,o,e,hT,hl⟩
  ·injection e with e1 e2;subst e1
   exact fun hr=>hh.apart r hr i _ hT (r,none) (by simp[PT.EH]) rfl
  ·injection e with e1 e2
   exact fun hr=>hh.apart r hr i _ hT _ (IF hl) e1.symm
theorem Nh(h:AW E s tm W){r j:Nat}(hj:(s.root r).ls.length≤j):W.om (.lf r j)=[]:=by obtain⟨h1,_⟩:=h.roots r;have:=h1 j;rw[Az LA.bad hj]at this;exact this.1
theorem F9(h:AW E s tm W){ps:List PM}{uI:List AV}{us:List Value}{tV:List (List Lv)}{T:IT}(hh:Handed s W ps uI us tV T):
  EJ ps W.w (Seen W (Af ps uI)) us tV (Ff T W.bk) (Ao T W.om) where
 len:=hh.l2
 B0:=hh.l3
 each i pm u vs hp hu vb:=by
  obtain⟨av,u',wb,tg,h1,h2,h3,h4,h5⟩:=hh.all hp;rw[hu]at h2;injection h2 with h2;subst h2
  rw[vb]at h3;injection h3 with h3;subst h3
  cases pm with
  |val g ls=>
   obtain⟨_,q1,q2,q3⟩:=h5;refine⟨q1,q2,fun j p lv hj vg=>?_⟩;obtain⟨y,hy,hr⟩:=q3 j p lv hj vg;exact⟨y,hy,L.AJ lv.l hr (fun _ _=>rfl) fun b hb=>hb.imp id fun⟨r,hr,x⟩=>⟨r,F4 ps uI i g ls av hp h1 r hr,x⟩⟩
  |box ls=>
   obtain⟨r,AA,_,rfl,hb,hlen,tu,xl,tv⟩:=h5;obtain⟨_,uR⟩:=h.roots r;rw[AAK hb]at uR;obtain⟨_,arr,T',fr,hhp,tw,uC,uJ⟩:=uR;have e1:Ff T W.bk i=W.bk r:=by simp[Ff,h4]
   show Mq _ _ _ _ _ _ _;rw[e1];refine⟨tu,xl,arr,T',fr,hhp,tw,by rw[uC,hlen],fun j p lv hj vg=>?_⟩;have tX:j<arr.size:=by rw[uC,hlen];exact(AAH.1 hj).1
   refine⟨arr[j],AAc tX,?_⟩;have e2:Ao T W.om (.lf i j)=W.om (.lf r j):=by simp[Ao,h4]
   show lv.l.rd p.2 _ _ _ _ (Ao T W.om (.lf i j));rw[e2];exact L.AJ lv.l (tv j p lv arr[j] hj vg (by rw[uJ];exact AAc tX)) (fun _ _=>rfl) fun b hb=>.inl hb
  |row g ls=>
   obtain⟨as,l,rfl,rfl,q3,q4,q5,q6,q7⟩:=h5;refine⟨q5,q6,fun j p lv hj vg=>?_⟩;have tX:j<ls.length:=(AAH.1 hj).1;obtain⟨a,ha⟩:=Bb q3 tX;obtain⟨o,ho⟩:=Bb q4 tX;obtain⟨y,hy,hr⟩:=q7 j p a lv o hj ha vg ho;refine⟨y,hy,?_⟩;rcases hr with⟨hs,rfl,hr⟩|⟨c,o',gen,t,e,xs,h',t',e',ys,_,rfl,_,_,_,_,rfl,hr,_⟩
   ·have e2:Ao T W.om (.lf i j)=[]:=by simp[Ao,h4,ho]
    show lv.l.rd p.2 _ _ _ _ (Ao T W.om (.lf i j));rw[e2];exact(L.AZ lv.l hs hr).1
   ·have e2:Ao T W.om (.lf i j)=o':=by simp[Ao,h4,ho]
    show AD e' p.2 _ _ _ _ (Ao T W.om (.lf i j));rw[e2];exact hr.frame (fun _ _=>rfl) fun b hb=>.inl hb
  |fn f=>exact h5.2
 AX i:=by
  cases hp:ps[i]? with
  |none=>
   have:T[i]?=none:=AAv (by have:=List.getElem?_eq_none_iff.1 hp;rw[hh.l4];exact this);simp[Ao,this]
  |some pm=>
   obtain⟨av,u',wb,tg,h1,h2,h3,h4,h5⟩:=hh.all hp;cases pm with
   |val g ls=>obtain⟨rfl,_⟩:=h5;simp[Ao,h4]
   |fn f=>obtain⟨rfl,_⟩:=h5;simp[Ao,h4]
   |row g ls=>obtain⟨as,l,_,rfl,_⟩:=h5;simp[Ao,h4]
   |box ls=>
    obtain⟨r,AA,_,rfl,hb,_⟩:=h5;obtain⟨_,uR⟩:=h.roots r;rw[AAK hb]at uR;simp[Ao,Ff,h4,uR.1]
 none i hn1 xB j:=by
  cases hp:ps[i]? with
  |none=>
   have:T[i]?=none:=AAv (by have:=List.getElem?_eq_none_iff.1 hp;rw[hh.l4];exact this);simp[Ao,this]
  |some pm=>
   obtain⟨av,u',wb,tg,h1,h2,h3,h4,h5⟩:=hh.all hp;cases pm with
   |val g ls=>obtain⟨rfl,_⟩:=h5;simp[Ao,h4]
   |fn f=>obtain⟨rfl,_⟩:=h5;simp[Ao,h4]
   |row g ls=>exact absurd hp (xB g ls)
   |box ls=>exact absurd hp (hn1 ls)
 box i ls hp j hj:=by
  obtain⟨av,u',wb,tg,h1,h2,h3,h4,h5⟩:=hh.all hp;obtain⟨r,AA,_,rfl,hb,hlen,_⟩:=h5;have e2:Ao T W.om (.lf i j)=W.om (.lf r j):=by simp[Ao,h4]
  rw[e2];exact Nh h (by omega)
 row i g ls hp j hj:=by obtain⟨av,u',wb,tg,h1,h2,h3,h4,h5⟩:=hh.all hp;obtain⟨as,l,_,rfl,_,hl,_⟩:=h5;have:l[j]?=none:=AAv (by omega);simp[Ao,h4,this]
 fl k:=rfl
 nodup k:=Jg h hh k
 A4 k k' tj b hb th:=by obtain⟨a,ha,hb⟩:=Cc hh hb;obtain⟨a',za,th⟩:=Cc hh th;refine h.sep.A4 a a' (fun e=>tj ?_) b hb th;subst e;exact Bc hh.nodup ha za
 own k b hb:=by
  obtain⟨a,ha,hb⟩:=Cc hh hb;obtain⟨q1,q2,q3⟩:=h.sep.own a b hb;refine⟨?_,q2⟩
  rintro (hz|⟨r,hr,j,hz⟩)
  ·exact q1 hz
  ·have zF:a=.lf r j:=AAn fun tj=>h.sep.A4 a _ tj b hb hz;subst zF;exact hh.root ha hr
 fz b hb:=by
  rcases hb with hz|⟨r,hr,j,hz⟩
  ·exact(h.sep.fz b hz).1
  ·exact(h.sep.own _ b hz).2.1
end
end Go.Ev
namespace Go.Ev
mutual
theorem L.GL:∀(l:L) {w:World} {fz tW:Nat→Prop} {v:Value} {x:l.D} {o:List Nat},l.rd 2 w fz v x o→l.rd 2 w tW v x o
 | .int _,_,_,_,_,_,_,h=>h
 | .bool,_,_,_,_,_,_,h=>h
 | .str,_,_,_,_,_,_,h=>h
 | .sl _ e,w,fz,tW,v,x,o,h=>by
  obtain⟨A,c,hv,hc,h⟩:=h;refine⟨A,c,hv,hc,?_⟩;cases A with
  |none=>exact h
  |some a=>
   rcases h with h|⟨g,os,tY,uD,ho⟩
   ·exact .inl h
   ·exact .inr ⟨g,os,tY,fun i hi=>Ls.GL e (uD i hi),ho⟩
theorem Ls.GL:∀(ls:Ls) {w:World} {fz tW:Nat→Prop} {g:Nat→Option Value} {x:ls.D} {o:List Nat},ls.rd 2 w fz g x o→ls.rd 2 w tW g x o
 | .nil,_,_,_,_,_,_,h=>h
 | .one l,_,_,_,_,_,_,h=>by simp only[Ls.rd]at h ⊢;obtain⟨v,hg,h⟩:=h;exact⟨v,hg,L.GL l h⟩
 | .cons l ls,_,_,_,_,_,_,h=>by simp only[Ls.rd]at h ⊢;obtain⟨v,o1,o2,hg,h1,h2,rfl⟩:=h;exact⟨v,o1,o2,hg,L.GL l h1,Ls.GL ls h2,rfl⟩
end
def Conv(ls:List (L×Nat))(w:World)(fz tW:Nat→Prop):Prop:=∀p∈ls,∀(l:L)(x:l.D)(y:Value)(o:List Nat),l=p.1→l.rd p.2 w fz y x o→l.rd p.2 w tW y x o
theorem Conv.mono{ls:List (L×Nat)}{w:World}{fz tW:Nat→Prop}(h:∀b,fz b→tW b):Conv ls w fz tW:=fun p _ l x y o _ hr=>L.AJ l hr (fun _ _=>rfl) h
theorem Conv.fresh{ls:List (L×Nat)}(hf:fresh ls=true)(w:World)(fz tW:Nat→Prop):Conv ls w fz tW:=by
 intro p hp l x y o hl hr;have:=AAU.1 hf p hp;simp only[AAa,AAT,AAS,AAG]at this;obtain⟨l',m⟩:=p;dsimp only at hl this hr ⊢;subst hl;rcases this with(h1|h1)|⟨h1,h2⟩
 ·exact(L.AZ l h1 hr).1
 ·subst h1;exact L.GL l hr
 ·subst h1;cases l with
  |sl t e=>
   obtain⟨A,c,hv,hc,h⟩:=hr;refine⟨A,c,hv,hc,?_⟩;cases A with
   |none=>exact h
   |some a=>
    rcases h with h|⟨g,os,tY,uD,ho⟩
    ·exact .inl h
    ·exact .inr ⟨g,os,tY,fun i hi=>(Ls.AZ e h2 (uD i hi)).1,ho⟩
  |int k=>exact hr
  |bool=>exact hr
  |str=>exact hr
theorem Gs.conv{w:World}{fz tW:Nat→Prop}{g:Bool}{ls:List (L×Nat)}{u:Value}{vs:List Lv}{own:Nat→List Nat}(h:Gs w fz g ls u vs own)(hc:Conv ls w fz tW):Gs w tW g ls u vs own:=by
 obtain⟨h1,h2,h3⟩:=h;refine⟨h1,h2,fun j p lv hp vg=>?_⟩;obtain⟨y,hy,hr⟩:=h3 j p lv hp vg
 have hl:lv.l=p.1:=by have:=congrArg (·[j]?) h1;simp only[AAX,hp,vg,AA9,Option.some.injEq]at this;exact this
 exact⟨y,hy,hc p (AAN hp) lv.l lv.x y _ hl hr⟩
theorem EL.conv{w:World}{fz tW:Nat→Prop}{om:Nat→List Nat}:∀ {rs:List (Bool×List (L×Nat))} {rv:List Value} {tV:List (List Lv)} {off:Nat},EL w fz om rs rv tV off→Conv (rs.flatMap (·.2)) w fz tW→EL w tW om rs rv tV off
 | [],[],[],_,h,hc=>h
 | [],[],_::_,_,h,hc=>h.elim
 | [],_::_,_,_,h,hc=>by simp[EL]at h
 |_::_,[],_,_,h,hc=>by simp[EL]at h
 |_::_,_::_,[],_,h,hc=>by simp[EL]at h
 |(g,ls)::rs,u::us,vs::tV,off,h,hc=>
  ⟨Gs.conv h.1 fun p hp=>hc p (by simp[hp]),EL.conv h.2 fun p hp=>hc p (by
   grind)⟩
theorem Ja.conv{w:World}{fz tW:Nat→Prop}{pm:PM}{u:Value}{vs:List Lv}{AX:Nat}{own:Nat→List Nat}(h:Ja w fz pm u vs AX own)(hc:Conv pm.outs w fz tW):Ja w tW pm u vs AX own:=by
 cases pm with
 |val g ls=>exact h
 |fn f=>exact h
 |box ls=>
  obtain⟨h1,h2,arr,T,fr,q1,q2,q3,h3⟩:=h;refine⟨h1,h2,arr,T,fr,q1,q2,q3,fun j p lv hp vg=>?_⟩;obtain⟨y,hy,hr⟩:=h3 j p lv hp vg
  have hl:lv.l=p.1:=by have:=congrArg (·[j]?) h2;simp only[AAX,hp,vg,AA9,Option.some.injEq]at this;exact this
  exact⟨y,hy,hc p (AAN hp) lv.l lv.x y _ hl hr⟩
 |row g ls=>exact Gs.conv h hc
theorem Ja.len{w:World}{fz:Nat→Prop}{pm:PM}{u:Value}{vs:List Lv}{AX:Nat}{own:Nat→List Nat}(h:Ja w fz pm u vs AX own):vs.length=pm.outs.length:=by
 cases pm with
 |val g ls=>rw[show vs=[]from h];rfl
 |fn f=>rw[show vs=[]from h];rfl
 |box ls=>have:=congrArg List.length h.2.1;simpa[PM.outs]using this
 |row g ls=>have:=congrArg List.length h.1;simpa[PM.outs]using this
open Classical in
noncomputable def K2 (T:IT) (om qf:Key→List Nat) (fl:Nat→List Nat):Key→List Nat
 | .fl n=>fl n
 | .AX r=>if h:∃c,AU T c=some (.AX r)then qf h.choose else om (.AX r)
 | .lf r j=>if h:∃c,AU T c=some (.lf r j)then qf h.choose else om (.lf r j)
theorem LG{T:IT}{c:Key}{n:Nat}:AU T c≠some (.fl n):=by
 intro h;cases c with
 |fl c=>cases h
 |AX i=>obtain⟨r,e,_⟩:=BP h;cases e
 |lf i j=>rcases BM h with⟨r,e,_⟩|⟨l,c,o,e,_⟩<;>cases e
open Classical in
theorem Ml{T:IT}(hn:(T.flatMap PT.EH).Pairwise NH){om qf:Key→List Nat}{fl:Nat→List Nat}{c k:Key}(h:AU T c=some k):K2 T om qf fl k=qf c:=by
 have hex:∃c,AU T c=some k:=⟨c,h⟩;have hc:hex.choose=c:=Bc hn hex.choose_spec h;cases k with
 |fl n=>exact absurd h LG
 |AX r=>
  show(if h:∃c,AU T c=some (.AX r)then qf h.choose else om (.AX r))=_;grind
 |lf r j=>
  show(if h:∃c,AU T c=some (.lf r j)then qf h.choose else om (.lf r j))=_;grind
theorem Mk{T:IT}{om qf:Key→List Nat}{fl:Nat→List Nat}{k:Key}(h:∀c,AU T c≠some k)(hk:∀n,k≠.fl n):K2 T om qf fl k=om k:=by
 have hex:¬ ∃c,AU T c=some k:=fun⟨c,hc⟩=>h c hc;cases k with
 |fl n=>grind
 |AX r=>exact dif_neg hex
 |lf r j=>exact dif_neg hex
section
variable {P:Program}{E:Cw}{s:St}{W:Wd}{v:Nat}{tm:Array Value}{cx:Cx}
theorem Jt(h:AW E s tm W)(hv:Ad s v){ks:List (L×Nat)}{rs:List Nat}{fs:List Wr}{w':World}{tW:Nat→Prop}(hf:(if fresh ks then some []else As cx s rs)=some fs):
  ∃W1 fzB,AW E (s.app fs) tm W1∧JZ s (s.app fs) W W1 rs∧(∀b,W1.fz b→fzB b)∧(∀b,fzB b→W1.fz b∨(tW b∧(Seen W rs b→W1.fz b)))∧Conv ks w' tW fzB:=by
 split at hf
 ·rename_i um;injection hf with hf;subst hf
  exact⟨W,W.fz,h,⟨⟨rfl,rfl,fun _=>⟨rfl,rfl,rfl⟩⟩,rfl,rfl,rfl,fun _ _ _=>rfl,fun _ _=>.inl rfl,fun _ _ _=>rfl,fun _=>rfl,fun _ _ hb=>hb,fun _ hb=>hb,fun _ hb=>.inl hb⟩,fun _ hb=>hb,fun _ hb=>.inl hb,Conv.fresh um _ _ _⟩
 ·obtain⟨W1,h1,h2,h3⟩:=Eu h hv hf;exact⟨W1,fun b=>W1.fz b∨tW b,h1,h2,fun b hb=>.inl hb,fun b hb=>hb.imp id fun hb=>⟨hb,h3 b⟩,Conv.mono fun b hb=>.inr hb⟩
theorem My(h:AW E s tm W)(hv:Ad s v){d:Nat}(hd:d<tm.size){g:Sm}{uI:List AV}{us:List Value}{tV:List (List Lv)}{T:IT}(hh:Handed s W g.ps uI us tV T)
  {z:g.outs.D} {r:Value} {w':World} {tW:Nat→Prop} {uY:Key→List Nat} {rv:List Value} {vsR vsP:List (List Lv)} (co:Fa g W.w (Seen W (Af g.ps uI)) us (Ff T W.bk) (Ao T W.om) z r w' tW uY rv vsR vsP)
  {fs pw:List Wr} {bs:List (Bool×List LA)} {own left:_} (hf:(if fresh g.Gw then some []else As cx s (Af g.ps uI))=some fs) (hb:D4 d v g.rs (unpack g.outs z) 0=some (bs,own,left)) (hp:AY s v g.ps uI left=some pw):
  ∃W',W'.w=w'∧AW E (s.app (fs++pw++[.root d ⟨false,v,own⟩,.slot d (Kk bs)])) (tm.setIfInBounds d r) W':=by
 have tS:=F9 h hh;obtain⟨W1,fzB,h1,um,wv,ya,zc⟩:=Jt (cx:=cx) (w':=w') (tW:=tW) h hv hf;have hv1:=um.Hz hv;have hres:=EL.conv co.Mb (tW:=fzB) fun p hp=>zc p (AAQ _ hp)
 have wY:∀(i:Nat)(pm:PM)(u:Value)(vs:List Lv),g.ps[i]?=some pm→us[i]?=some u→vsP[i]?=some vs→Ja w' fzB pm u vs (Ff T W.bk i) fun j=>uY (.lf i j):=fun i pm u vs e1 e2 e3=>
  (co.each i pm u vs e1 e2 e3).conv fun p hp=>zc p (AAO _ (AAI.2 ⟨pm,AAN e1,hp⟩))
 rw[co.outs]at hb;obtain⟨rfl,y6,ys,hyl,wu,hvok⟩:=HR g.rs rv vsR vsP.flatten 0 hres hb
 obtain⟨U,rfl,hUl,hU⟩:=Gm (s:=s) (v:=v) g.ps uI vsP co.len (fun i pm vs e1 e2=>by
  obtain⟨av,u,_,_,_,q2,_⟩:=hh.all e1;exact(wY i pm u vs e1 q2 e2).len) hp
 have htg:∀ {i:Nat} {m:PT},T[i]?=some m→∃pm av u vs vo uo,g.ps[i]?=some pm∧uI[i]?=some av∧us[i]?=some u∧vsP[i]?=some vo∧U[i]?=some uo∧HD s W pm av m u vs∧Mw s v pm av vo uo∧Ja w' fzB pm u vo (Ff T W.bk i) (fun j=>uY (.lf i j)):=by intro i m hT;obtain⟨pm,av,u,vs,e1,e2,e3,e4,e5⟩:=hh.O0 hT;have hi:i<g.ps.length:=(AAH.1 e1).1;obtain⟨vo,e6⟩:=Bb co.len hi;obtain⟨uo,e7⟩:=Bb hUl hi;exact⟨pm,av,u,vs,vo,uo,e1,e2,e3,e6,e7,e5,hU i pm av vo uo e1 e2 e6 e7,wY i pm u vo e1 e3 e6⟩
 have zH:∀u∈U.flatten,(∃(i:Nat) (ls:List (L×Nat)) (vo:List Lv),T[i]?=some (.box u.r)∧U[i]?=some [u]∧u=⟨u.r,0,AM v ls vo⟩∧vo.length=ls.length∧(s.root u.r).box=true∧(s.root u.r).ls.length=ls.length) ∨
   (∃(i:Nat) (l:List (Option (Loc×List Nat))) (j:Nat) (c:Loc) (o:List Nat) (g':Bool) (ls:List (L×Nat)) (as:List LA) (vo:List Lv),T[i]?=some (.row l)∧l[j]?=some (some (c,o))∧g.ps[i]?=some (.row g' ls)∧uI[i]?=some (.v g' as)∧vsP[i]?=some vo∧E3 s v ls as vo j u∧u.r=c.r∧u.lo=c.j∧u.news.length=1∧c.r<s.ro.length∧c.j<(s.root c.r).ls.length):=by
  intro u hu;obtain⟨uo,hm,hu⟩:=List.mem_flatten.1 hu;obtain⟨i,hi⟩:=AAp hm;have tX:i<g.ps.length:=by rw[←hUl];exact(AAH.1 hi).1
  obtain⟨m,hT⟩:=Bb hh.l4 tX;obtain⟨pm,av,u',vs,vo,uo',e1,e2,e3,e4,e5,e6,e7,e8⟩:=htg hT;rw[hi]at e5;injection e5 with e5;subst e5
  cases pm with
  |val g' ls=>rw[show uo=[]from e7]at hu;cases hu
  |fn f=>rw[show uo=[]from e7]at hu;cases hu
  |box ls=>
   obtain⟨r,AA,q1,q2⟩:=e7;obtain⟨r',yz,q3,rfl,q4,q5,_⟩:=e6;rw[q1]at q3;injection q3 with _ q3;injection q3 with q3;injection q3 with q3
   subst q3;subst q2;have:=AA8.1 hu;subst this;exact .inl ⟨i,ls,vo,hT,hi,rfl,by simpa[PM.outs]using e8.len,q4,q5⟩
  |row g' ls=>
   obtain⟨as,l,rfl,rfl,q3,q4,q5,q6,q7⟩:=e6;obtain⟨g2,as2,q8,q9⟩:=e7;injection q8 with q8 q8';subst q8;subst q8'
   obtain⟨j,hj⟩:=q9.1 u hu;have yf:=hj;obtain⟨p,c,lv2,AA,gen,t0,e0,xs0,d0,F,h1,h2,h3,h4,h5,h6,rfl⟩:=hj;have hjl:j<ls.length:=(AAH.1 h1).1;have ug:vs.length=ls.length:=by have:=congrArg List.length q5;simpa using this
   obtain⟨lv,vg⟩:=Bb ug hjl;obtain⟨o,ho⟩:=Bb q4 hjl;obtain⟨y,hy,hr⟩:=q7 j p _ lv o h1 h3 vg ho
   have hl:lv.l=p.1:=by have:=congrArg (·[j]?) q5;simp only[AAX,h1,vg,AA9,Option.some.injEq]at this;exact this
   obtain⟨a1,a2⟩:=G7 h5;rcases hr with⟨hs,_⟩|⟨c',o',_,_,_,_,_,_,_,_,k1,k2,_⟩
   ·rw[hl,h2]at hs;cases hs
   ·injection k1 with k1;subst k1;subst k2
    exact .inr ⟨i,l,j,c,o',_,ls,as,vo,hT,ho,e1,e2,e4,yf,rfl,rfl,rfl,a1,a2⟩
 have uP:∀u∈U.flatten,(u.news=[]∨u.r<(s.app fs).ro.length)∧u.lo+u.news.length≤((s.app fs).root u.r).ls.length:=by
  intro u hu;rw[um.same.len,(um.same.box u.r).2.2];rcases zH u hu with⟨i,ls,vo,hT,zC,he,ug,hb,hl⟩|⟨i,l,j,c,o,g',ls,as,vo,hT,hl,e1,e2,e3,hr,q1,q2,q3,q4,q5⟩
  ·refine⟨.inr (JT hb),?_⟩;rw[hl,he];simp[BK v ls vo ug]
  ·rw[q1,q2,q3];exact⟨.inr q4,q5⟩
 obtain⟨uQ,uM⟩:=IN U.flatten (s.app fs) uP;rw[BC,BC];generalize s.app fs=s1 at h1 um uP uQ uM hv1;generalize s1.app (El U.flatten)=s2 at uQ uM
 have hcov:∀u∈U.flatten,∀r j,r=u.r∧u.lo≤j∧j<u.lo+u.news.length→∃c,AU T c=some (.lf r j):=by
  intro u hu r j hc;rcases zH u hu with⟨i,ls,vo,hT,zC,he,ug,hb,hl⟩|⟨i,l,jj,c,o,g',ls,as,vo,hT,hl,e1,e2,e3,hr,q1,q2,q3,q4,q5⟩
  ·exact⟨.lf i j,by rw[hc.1];simp[AU,hT]⟩
  ·have:j=c.j:=by omega
   subst this;exact⟨.lf i jj,by rw[hc.1,q1];simp[AU,hT,hl]⟩
 have hun:∀(r j:Nat),(∀c,AU T c≠some (.lf r j))→s2.leaf r j=s1.leaf r j:=by
  intro r j hn;rw[uM]
  exact Js r j _ _ fun u hu hc=>by obtain⟨c,hk⟩:=hcov u hu r j hc;exact hn c hk
 have w8:∀k,∀b∈Ao T W.om k,∃a,AU T k=some a∧b∈W.om a:=fun k b hb=>Cc hh hb;have hfz1:∀b,W1.fz b→b<W.w.heap.size∧∀k,b∉Ao T W.om k:=fun b hb=>⟨tS.fz b (um.fz b hb),fun k hk=>(tS.own k b hk).1 (um.fz b hb)⟩
 have hfar:∀k,(∀c,AU T c≠some k)→∀b∈W1.om k,b<W.w.heap.size∧∀c,b∉Ao T W.om c:=by intro k hk b hb;have xr:=um.sub k b hb;refine⟨(h.sep.own k b xr).2.1,fun c hc=>?_⟩;obtain⟨a,ha,vC⟩:=w8 c b hc;exact h.sep.A4 k a (fun e=>hk c (e▸ha)) b xr vC
 have xt:∀ {i r:Nat},T[i]?=some (.box r)→∃(ls:List (L×Nat)) (vo:List Lv) (arr:Array Value) (T':TypeId) (fr:Nat×Nat),(s.root r).ls.length=ls.length∧vo.length=ls.length∧w'.heap[W1.bk r]?=some (.cells arr T' fr)∧(∀j,j<arr.size→¬(fr.1≤j∧j<fr.2))∧arr.size=ls.length∧
   (∀(j:Nat)(p:L×Nat)(lv:Lv),ls[j]?=some p→vo[j]?=some lv→∃y,arr[j]?=some y∧lv.l.rd p.2 w' fzB y lv.x (uY (.lf i j)))∧∀j,s2.leaf r j=if j<ls.length then nth .bad (AM v ls vo) j else .bad:=by
  intro i r hT;obtain⟨pm,av,u',vs,vo,uo,e1,e2,e3,e4,e5,e6,e7,e8⟩:=htg hT;cases pm with
  |val g' ls=>cases e6.1
  |fn f=>cases e6.1
  |row g' ls=>obtain⟨_,_,_,q,_⟩:=e6;cases q
  |box ls=>
   obtain⟨r',yz,q3,q4,wP,hlen,_⟩:=e6;injection q4 with q4;subst q4
   obtain⟨r2,ver2,q5,q6⟩:=e7;rw[q5]at q3;injection q3 with _ q3;injection q3 with q3;injection q3 with q3
   subst q3;subst q6;have ug:vo.length=ls.length:=by simpa[PM.outs]using e8.len
   obtain⟨b1,b2,arr,T',fr,b3,b4,b5,b6⟩:=e8;have yV:Ff T W.bk i=W1.bk r2:=by rw[um.bk];simp[Ff,hT]
   rw[yV]at b3;refine⟨ls,vo,arr,T',fr,hlen,ug,b3,b4,b5,b6,fun j=>?_⟩;have vT:=BK v ls vo ug;split
   ·rename_i hj;rw[uM];refine JA r2 j U.flatten _ (fun u hu hc=>?_) (.inr ⟨⟨r2,0,AM v ls vo⟩,List.mem_flatten.2 ⟨_,AAN e5,List.mem_singleton_self _⟩,rfl,Nat.zero_le _,by rw[vT];omega⟩);rcases zH u hu with⟨i',yN,vo',ud,zC,he,_⟩|⟨i',l,jj,c,o,g',yN,as,vo',ud,hl,_,_,_,hr,q1,q2,q3,_⟩
    ·have wj:Key.AX i'=.AX i:=Bc hh.nodup (a:=.AX r2) (by rw[hc.1];simp[AU,ud]) (by simp[AU,hT]);injection wj with wj;subst wj
     rw[e5]at zC;injection zC with zC;injection zC with zC;subst zC
     simp
    ·have:j=c.j:=by omega
     subst this;have wj:Key.lf i' jj=.lf i c.j:=Bc hh.nodup (a:=.lf r2 c.j) (by rw[hc.1,q1];simp[AU,ud,hl]) (by simp[AU,hT]);injection wj with wj;subst wj
     rw[hT]at ud;cases ud
   ·rename_i hj;unfold St.leaf;rw[Az];rw[(uQ.box r2).2.2,(um.same.box r2).2.2,hlen];omega
 have yt:∀ {i jj:Nat} {l:List (Option (Loc×List Nat))} {c:Loc} {o:List Nat},T[i]?=some (.row l)→l[jj]?=some (some (c,o))→∃(q:List Nat) (AA gen:Nat) (t t0:TypeId) (e:Ls) (xs u6:List e.D) (d0:Nat) (u:Value),s.leaf c.r c.j=.arr AA gen t e xs d0∧s2.leaf c.r c.j=.arr AA v t0 e u6 d0∧W1.cv c.r c.j=some u∧AD e d0 w' fzB u u6 q∧Nc (W.om (.lf c.r c.j)) o (uY (.lf i jj)) q:=by
  intro i jj l c o hT hl;obtain⟨pm,av,u',vs,vo,uo,e1,e2,e3,e4,e5,e6,e7,e8⟩:=htg hT;cases pm with
  |val g' ls=>cases e6.1
  |fn f=>cases e6.1
  |box ls=>obtain⟨_,_,_,q,_⟩:=e6;cases q
  |row g' ls=>
   obtain⟨g2,ls2,as,u2,vs2,p,lv,y,f1,f2,f3,f4,f5,f6,f7,f8,f9,f10,hr⟩:=hh.N5 hT hl;rw[e1]at f1;injection f1 with f1;injection f1 with f1 f1';subst f1;subst f1'
   rw[e2]at f2;injection f2 with f2;subst f2
   rw[e3]at f3;injection f3 with f3;subst f3
   obtain⟨g3,as3,q8,q9⟩:=e7;injection q8 with q8 q8';subst q8;subst q8'
   obtain⟨u,hu,hru⟩:=q9.2 jj p f5 f8;have hru':=hru;obtain⟨p',c',lo,AA,gen,t0,e0,xs0,d0,F,vc,wO,h3',h4',h5',h6',hue⟩:=hru;rw[f5]at vc;injection vc with vc;subst vc
   rw[f6]at h3';injection h3' with h3';injection h3' with h3';subst h3'
   have hk:AU T (.lf i jj)=some (.lf c.r c.j):=by simp[AU,hT,hl]
   have tR:s2.leaf c.r c.j=.arr AA v t0 e0 (F xs0) d0:=by
    rw[uM];have zp:nth .bad u.news (c.j-u.lo)=.arr AA v t0 e0 (F xs0) d0:=by rw[hue];simp[nth]
    refine JA c.r c.j U.flatten _ (fun u2 hu2 hc=>?_) (.inr ⟨u,List.mem_flatten.2 ⟨_,AAN e5,hu⟩,by rw[hue];simp⟩);rcases zH u2 hu2 with⟨i',yN,vo',ud,zC,he,_⟩|⟨i',l',j',c',o',g',yN,xP,vo',ud,uz,g1,g2,g3,uS,q1,q2,q3,_⟩
    ·have wj:Key.lf i' c.j=.lf i jj:=Bc hh.nodup (a:=.lf c.r c.j) (by rw[hc.1];simp[AU,ud]) hk;injection wj with wj;subst wj
     rw[hT]at ud;cases ud
    ·have hcj:c.j=c'.j:=by omega
     have wj:Key.lf i' j'=.lf i jj:=Bc hh.nodup (a:=.lf c.r c.j) (by rw[hc.1,q1,hcj];simp[AU,ud,uz]) hk;injection wj with wj hjj;subst wj;subst hjj
     rw[e1]at g1;injection g1 with g1;injection g1 with g1 g1';subst g1;subst g1'
     rw[e2]at g2;injection g2 with g2;injection g2 with g2 g2';subst g2'
     rw[e4]at g3;injection g3 with g3;subst g3
     rw[←uS.uniq hru']at zp;exact zp
   obtain⟨m1,m2,m3⟩:=(show Gs w' fzB _ ls u' vo (fun j=>uY (.lf i j))from e8);obtain⟨y',wN,vQ⟩:=m3 jj p lo f5 h4';rw[f10]at wN;injection wN with wN;subst wN
   rcases hr with⟨_,k0,_⟩|⟨c2,o2,gen2,t2,e2',xs2,hh2,t',e',ys,k1,k2,k3,k4,k5,k6,k7,k8,k9,k10⟩
   ·cases k0
   ·injection k1 with k1;subst k1
    injection k2 with k2;injection k2 with k2 k2';subst k2'
    rw[h5']at k3;injection k3 with a1 a2 a3 a4 a5 a6
    subst a1;subst a2;subst a3;subst a4;have a5:=eq_of_heq a5;subst a5;obtain⟨uu,huu,te⟩:=(h.roots c.r).row h5';rw[k5]at huu;injection huu with huu;subst huu
    rw[a6]at te;obtain⟨t3,fn,zs,po,n1,n2,n3,n4,n5⟩:=Nu c.p h6' te k6 k4 (h.sep.nodup _);obtain⟨z1,z2⟩:=n2.uniq k8;subst z1;subst z2
    have vS:lo.l=.sl t3 e'∧∃ys',HEq lo.x ys'∧fn zs=ys':=by
     unfold N4 at n1;split at n1
     ·rename_i yy hyy;obtain⟨b1,b2⟩:=L.AH hyy;injection n1 with n1
      refine⟨b1,yy,?_,by rw[←n1]⟩;obtain⟨ll,xx⟩:=lo;dsimp only at b1 b2 ⊢;subst b1;exact heq_of_eq b2
     ·cases n1
    obtain⟨hlo1,ys',hlo2,hlo3⟩:=vS
    have hrd':AD e' p.2 w' fzB y (fn zs) (uY (.lf i jj)):=by obtain⟨ll,xx⟩:=lo;dsimp only at hlo1 hlo2 vQ;subst hlo1;have:=eq_of_heq hlo2;subst this;rw[hlo3];exact vQ
    obtain⟨q,hq1,xk⟩:=n5 w' fzB (uY (.lf i jj)) hrd' {
     nd:=co.nodup _
     new:=fun b hb hbo=>by
      rcases(co.own _ b hb).2.2 with uh|⟨k0,xy⟩
      ·have:=(h.sep.own _ b hbo).2.1;omega
      ·obtain⟨a,ha,hba⟩:=w8 k0 b xy;have:a=.lf c.r c.j:=AAn fun tj=>h.sep.A4 a _ tj b hba hbo;subst this;have:=Bc hh.nodup ha hk;subst this;have e9:Ao T W.om (.lf i jj)=po:=by simp[Ao,hT,hl]
       rw[←e9];exact xy
     rest:=fun b hb=>by
      refine co.frame b ?_ fun k0 xy=>?_
      ·rcases hb with hb|hb
       ·exact(h.sep.own _ b hb.1).2.1
       ·exact(h.sep.fz b hb).1
      ·rcases hb with hb|hb
       ·obtain⟨a,ha,hba⟩:=w8 k0 b xy;have:a=.lf c.r c.j:=AAn fun tj=>h.sep.A4 a _ tj b hba hb.1;subst this;have:=Bc hh.nodup ha hk;subst this;have e9:Ao T W.om (.lf i jj)=po:=by simp[Ao,hT,hl]
        rw[e9]at xy;exact hb.2 xy
       ·exact(tS.own k0 b xy).1 (.inl hb)
     fz:=fun b hb=>wv b (um.up b hb) }
    exact⟨q,_,_,_,t0,e0,xs0,F xs0,d0,hh2,h5',tR,by rw[um.cv];exact k5,by rw[a6];exact hq1,xk⟩
 have hq0:∀c,∃q:List Nat,∀k,AU T c=some k→q.Nodup∧(∀b∈q,b∈uY c∨(b∈W1.om k∧b<W.w.heap.size∧∀c',b∉Ao T W.om c'))∧(∀r,k=.AX r→q=uY c)∧
   (∀i j r,c=.lf i j→T[i]?=some (.box r)→q=if j<(s.root r).ls.length then uY c else [])∧
   (∀i j l cc o,c=.lf i j→T[i]?=some (.row l)→l[j]?=some (some (cc,o))→∃(AA gen:Nat) (t t0:TypeId) (e:Ls) (xs u6:List e.D) (d0:Nat) (u:Value),s.leaf cc.r cc.j=.arr AA gen t e xs d0∧s2.leaf cc.r cc.j=.arr AA v t0 e u6 d0∧W1.cv cc.r cc.j=some u∧AD e d0 w' fzB u u6 q):=by
  intro c;cases hk:AU T c with
  |none=>exact⟨[],fun k u7=>by cases u7⟩
  |some k=>
   cases c with
   |fl n=>cases hk
   |AX i=>
    obtain⟨r,rfl,hT⟩:=BP hk;refine⟨uY (.AX i),fun k u7=>?_⟩;injection u7 with u7;subst u7
    exact⟨co.nodup _,fun b hb=>.inl hb,fun _ _=>rfl,fun _ _ _ e=>by(cases e),fun _ _ _ _ _ e=>by(cases e)⟩
   |lf i j=>
    rcases BM hk with⟨r,rfl,hT⟩|⟨l,cc,o,rfl,hT,hl⟩
    ·refine⟨if j<(s.root r).ls.length then uY (.lf i j)else [],fun k u7=>?_⟩;injection u7 with u7;subst u7
     refine⟨?_,?_,fun _ e=>by(cases e),?_,?_⟩
     ·split
      ·exact co.nodup _
      ·exact AAL
     ·intro b hb;split at hb
      ·exact .inl hb
      ·cases hb
     ·intro i' j' r' e ud;injection e with e1 e2;subst e1;subst e2
      rw[hT]at ud;injection ud with ud;injection ud with ud;subst ud
      rfl
     ·intro i' j' l' cc' o' e ud;injection e with e1 e2;subst e1;subst e2
      rw[hT]at ud;cases ud
    ·obtain⟨q,AA,gen,t,t0,e,xs,u6,d0,u,p1,p2,p3,p4,p5,p6⟩:=yt hT hl;refine⟨q,fun k u7=>?_⟩;injection u7 with u7;subst u7
     have e9:Ao T W.om (.lf i j)=o:=by simp[Ao,hT,hl]
     refine⟨p5,fun b hb=>?_,fun _ e=>by(cases e),?_,?_⟩
     ·rcases p6 b hb with hb|⟨vC,wA⟩
      ·exact .inl hb
      ·refine .inr ⟨by rw[um.om _ _ (hh.root hk)];exact vC,(h.sep.own _ b vC).2.1,fun c' uW=>?_⟩;obtain⟨a,ha,hba⟩:=w8 c' b uW;have:a=.lf cc.r cc.j:=AAn fun tj=>h.sep.A4 a _ tj b hba vC;subst this;have:=Bc hh.nodup ha hk;subst this;rw[e9]at uW;exact wA uW
     ·intro i' j' r' e ud;injection e with e1 e2;subst e1;subst e2
      rw[hT]at ud;cases ud
     ·intro i' j' l' cc' o' e ud uz;injection e with e1 e2;subst e1;subst e2
      rw[hT]at ud;injection ud with ud;injection ud with ud;subst ud
      rw[hl]at uz;injection uz with uz;injection uz with uz;injection uz with q1 q2;subst q1
      exact⟨AA,gen,t,t0,e,xs,u6,d0,u,p1,p2,p3,p4⟩
 obtain⟨qf,hqf⟩:=Classical.axiomOfChoice hq0
 let chb:Nat→Prop:=fun r=>∃i:Nat,T[i]?=some (.box r)
 let chk:Nat→Nat→Prop:=fun r j=>∃c,AU T c=some (.lf r j)
 let newcv:Nat→Nat→Option Value:=fun r j=>match w'.heap[W1.bk r]? with
  |some (.cells arr _ _)=>arr[j]?
  |_=>none
 open Classical in
 let W2:Wd:={
  w:=w'
  fz:=fzB
  cv:=fun r j=>if chb r then newcv r j else W1.cv r j
  bk:=W1.bk
  om:=K2 T W1.om qf fun n=>uY (.fl n) }
 have hW2om:∀k,W2.om k=K2 T W1.om qf (fun n=>uY (.fl n)) k:=fun _=>rfl;have hflom:∀k,W2.om (.fl k)=uY (.fl k):=fun k=>rfl;have zE:∀ {c k},AU T c=some k→W2.om k=qf c:=fun hk=>Ml hh.nodup hk;have zD:∀ {k},(∀c,AU T c≠some k)→(∀n,k≠.fl n)→W2.om k=W1.om k:=fun hk hn=>Mk hk hn
 have zW:∀k,∀b∈W2.om k,(∃c,(AU T c=some k∨∃n,k=.fl n∧c=.fl n)∧b∈uY c)∨(b∈W1.om k∧b<W.w.heap.size∧∀c,b∉Ao T W.om c):=by
  intro k b hb;by_cases hk:∃c,AU T c=some k
  ·obtain⟨c,hk⟩:=hk;rw[zE hk]at hb;rcases(hqf c k hk).2.1 b hb with hb|hb
   ·exact .inl ⟨c,.inl hk,hb⟩
   ·exact .inr hb
  ·have hk:∀c,AU T c≠some k:=fun c hc=>hk ⟨c,hc⟩;by_cases hn:∃n,k=.fl n
   ·obtain⟨n,rfl⟩:=hn;exact .inl ⟨.fl n,.inr ⟨n,rfl,rfl⟩,hb⟩
   ·rw[zD hk fun n e=>hn ⟨n,e⟩]at hb;exact .inr ⟨hb,hfar k hk b hb⟩
 have hnfz:∀c,∀b∈uY c,¬fzB b:=by
  intro c b hb hz;obtain⟨q1,q2,q3⟩:=co.own c b hb;rcases ya b hz with hz|⟨hz,yu⟩
  ·obtain⟨p1,p2⟩:=hfz1 b hz;rcases q3 with q3|⟨k0,q3⟩
   ·omega
   ·exact p2 k0 q3
  ·exact q1 hz
 have xc:∀b,(b<W.w.heap.size∧∀c,b∉Ao T W.om c)→∀c,b∉uY c:=by
  intro b hb c hc;rcases(co.own c b hc).2.2 with q|⟨k0,q⟩
  ·omega
  ·exact hb.2 k0 q
 have va:Sep E W2:={
  nodup:=by
   intro k;by_cases hk:∃c,AU T c=some k
   ·obtain⟨c,hk⟩:=hk;rw[zE hk];exact(hqf c k hk).1
   ·have hk:∀c,AU T c≠some k:=fun c hc=>hk ⟨c,hc⟩;by_cases hn:∃n,k=.fl n
    ·obtain⟨n,rfl⟩:=hn;exact co.nodup _
    ·rw[zD hk fun n e=>hn ⟨n,e⟩];exact h1.sep.nodup _
  A4:=by
   intro k k' tj b hb th;rcases zW k b hb with⟨c,hc,hb⟩|⟨hb,hfb⟩
   ·rcases zW k' b th with⟨c',uW,th⟩|⟨th,hfb'⟩
    ·refine co.A4 c c' (fun e=>tj ?_) b hb th;subst e;rcases hc with q|⟨n,q1,q2⟩
     ·rcases uW with q'|⟨n',q1',q2'⟩
      ·rw[q]at q';injection q'
      ·subst q2';cases q
     ·rcases uW with q'|⟨n',q1',q2'⟩
      ·subst q2;cases q'
      ·rw[q2]at q2';injection q2' with q2';rw[q1,q1',q2']
    ·exact xc b hfb' c hb
   ·rcases zW k' b th with⟨c',uW,th⟩|⟨th,hfb'⟩
    ·exact xc b hfb c' th
    ·exact h1.sep.A4 k k' tj b hb th
  own:=by
   intro k b hb;rcases zW k b hb with⟨c,hc,hb⟩|⟨hb,p1,p2⟩
   ·obtain⟨q1,q2,q3⟩:=co.own c b hb;refine⟨hnfz c b hb,q2,?_⟩;rcases q3 with q3|⟨k0,q3⟩
    ·left;have:=h.sep.size;omega
    ·obtain⟨a,_,ha⟩:=w8 k0 b q3;exact(h.sep.own a b ha).2.2
   ·obtain⟨q1,q2,q3⟩:=h1.sep.own k b hb;refine⟨fun hz=>?_,AA7 p1 co.size,q3⟩;rcases ya b hz with hz|⟨hz,yu⟩
    ·exact q1 hz
    ·rcases(co.fz b hz).2 with h3|h3|⟨k0,h3⟩
     ·exact q1 (yu h3)
     ·omega
     ·exact p2 k0 h3
  fz:=by
   intro b hb;rcases ya b hb with hz|⟨hz,yu⟩
   ·have:=h1.sep.fz b hz;rw[um.w]at this;exact⟨AA7 this.1 co.size,this.2⟩
   ·obtain⟨q1,q2⟩:=co.fz b hz;refine⟨q1,?_⟩;rcases q2 with q2|q2|⟨k0,q2⟩
    ·rcases q2 with q2|⟨r,hr,j,q2⟩
     ·exact(h.sep.fz b q2).2
     ·exact .inr (h.sep.own _ b q2).2.2
    ·right;left;have:=h.sep.size;omega
    ·obtain⟨a,_,ha⟩:=w8 k0 b q2;exact .inr (h.sep.own a b ha).2.2
  frame:=by
   intro b vC wA;refine(co.frame b (by have:=h.sep.size;omega) fun k hk=>?_).trans (h.sep.frame b vC wA);obtain⟨a,_,ha⟩:=w8 k b hk;rcases(h.sep.own a b ha).2.2 with q|q
   ·omega
   ·exact wA q
  size:=AAw h.sep.size co.size
  rest:=⟨co.rest.1.trans h.sep.rest.1,co.rest.2.1.trans h.sep.rest.2.1,co.rest.2.2.trans h.sep.rest.2.2⟩ }
 have zV:Jc s s2:=⟨uQ.sl.trans um.same.sl,uQ.len.trans um.same.len,fun x=>⟨(uQ.box x).1.trans (um.same.box x).1,(uQ.box x).2.1.trans (um.same.box x).2.1,(uQ.box x).2.2.trans (um.same.box x).2.2⟩⟩;have hcvu:∀r,¬chb r→∀j,W2.cv r j=W1.cv r j:=fun r hr j=>AAM hr;have hcvb:∀r,chb r→∀j,W2.cv r j=newcv r j:=fun r hr j=>AAK hr
 have xY:∀ {i j r j0:Nat} {l:List (Option (Loc×List Nat))} {c:Loc} {o:List Nat},T[i]?=some (.row l)→l[j]?=some (some (c,o))→¬chb c.r:=by
  rintro i j r j0 l c o hT hl ⟨i',ud⟩
  have wj:Key.lf i' c.j=.lf i j:=Bc hh.nodup (a:=.lf c.r c.j) (by simp[AU,ud]) (by simp[AU,hT,hl]);injection wj with wj;subst wj
  rw[hT]at ud;cases ud
 have yr:AW E s2 tm W2:=by
  refine h1.MK hv1 uQ chk chb (fun r j hn=>hun r j fun c hc=>hn ⟨c,hc⟩) hcvu (fun r j ⟨i,hT⟩=>⟨.lf i j,by simp[AU,hT]⟩) (fun _=>rfl) ?_ ?_ ?_ (fun b hb=>wv b hb) ?_ va ?_ ?_
  ·intro r j hn;exact zD (fun c hc=>hn ⟨c,hc⟩) fun n e=>by cases e
  ·intro r;by_cases hk:∃c,AU T c=some (.AX r)
   ·obtain⟨c,hk⟩:=hk;rw[zE hk,(hqf c _ hk).2.2.1 r rfl];cases c with
    |fl c=>cases hk
    |lf i j=>rcases BM hk with⟨r',e,_⟩|⟨l,c,o,e,_⟩<;>cases e
    |AX i=>
     obtain⟨r',e,hT⟩:=BP hk;injection e with e;subst e
     rw[co.AX,um.O4];simp[Ao,hT]
   ·exact zD (fun c hc=>hk ⟨c,hc⟩) fun n e=>by cases e
  ·intro b hb
   have:b<W.w.heap.size∧∀k,b∉Ao T W.om k:=by
    rcases hb with hb|⟨r,hr,hb⟩|⟨r,j,hr,hb⟩
    ·exact hfz1 b hb
    ·refine hfar (.AX r) (fun c hc=>?_) b hb;cases c with
     |fl c=>cases hc
     |AX i=>obtain⟨r',e,hT⟩:=BP hc;injection e with e;subst e;exact hr ⟨i,hT⟩
     |lf i j=>rcases BM hc with⟨r',e,_⟩|⟨l,c,o,e,_⟩<;>cases e
    ·exact hfar (.lf r j) (fun c hc=>hr ⟨c,hc⟩) b hb
   show w'.heap[b]?=_;rw[co.frame b this.1 this.2,um.w]
  ·intro r j AA gen t e xs d0 hc hl tj;obtain⟨c,hk⟩:=hc;cases c with
   |fl c=>cases hk
   |AX i=>obtain⟨r',e,hT⟩:=BP hk;cases e
   |lf i jj=>
    rcases BM hk with⟨r',e,hT⟩|⟨l,cc,o,e,hT,y8⟩
    ·injection e with e1 e2;subst e1;subst e2
     obtain⟨ls,vo,arr,T',fr,c1,c2,c3,c4,c5,c6,c7⟩:=xt hT;rw[c7]at hl;split at hl
     ·rename_i hj;have hj2:j<vo.length:=by omega
      rw[Ae,BJ v ls vo j ls[j] vo[j] (AAF hj) (AAF hj2)]at hl;exact absurd (J7 hl).1 tj
     ·cases hl
    ·injection e with e1 e2;subst e1;subst e2
     obtain⟨_,ver0,gen0,t1,t0,e0,xs0,u6,d1,u,c1,c2,c3,c4⟩:=yt hT y8;rw[c2]at hl;injection hl with f1 f2 f3 f4 f5 f6
     subst f1;subst f2;subst f4;exact⟨xY hT y8 (r:=0) (j0:=0),gen0,t1,xs0,d1,by rw[um.leaf _ _ (hh.root hk)];exact c1,fun hg=>absurd rfl hg⟩
  ·intro uH r j hc;obtain⟨c,hk⟩:=hc;cases c with
   |fl c=>cases hk
   |AX i=>obtain⟨r',e,hT⟩:=BP hk;cases e
   |lf i jj=>
    rw[zE hk];obtain⟨_,_,_,hqb,hqr⟩:=hqf _ _ hk;rcases BM hk with⟨r',e,hT⟩|⟨l,cc,o,e,hT,y8⟩
    ·injection e with e1 e2;subst e1;subst e2
     obtain⟨ls,vo,arr,T',fr,c1,c2,c3,c4,c5,c6,c7⟩:=xt hT;rw[hqb i j r rfl hT,c1]
     have uJ:W2.cv r j=arr[j]?:=by
      rw[hcvb r ⟨i,hT⟩ j]
      show(match w'.heap[W1.bk r]? with
       |some (.cells arr _ _)=>arr[j]?
       |_=>none)=_
      rw[c3]
     rw[c7,uJ];by_cases hj:j<ls.length
     ·rw[AAK hj,AAK hj];have hj2:j<vo.length:=by omega
      obtain⟨y,hy,hr⟩:=c6 j ls[j] vo[j] (AAF hj) (AAF hj2);rw[Ae,BJ v ls vo j ls[j] vo[j] (AAF hj) (AAF hj2),hy];exact FW hr
     ·rw[AAM hj,AAM hj];exact⟨rfl,fun _ _=>trivial⟩
    ·injection e with e1 e2;subst e1;subst e2
     obtain⟨ver0,gen0,t1,t0,e0,xs0,u6,d1,u,c1,c2,c3,c4⟩:=hqr i jj l cc o rfl hT y8;rw[c2,hcvu cc.r (xY hT y8 (r:=0) (j0:=0)) cc.j];exact⟨u,c3,c4⟩
  ·rintro r ⟨i,hT⟩ wP
   obtain⟨ls,vo,arr,T',fr,c1,c2,c3,c4,c5,c6,c7⟩:=xt hT;refine⟨arr,T',fr,c3,c4,?_,fun j=>?_⟩
   ·rw[(um.same.box r).2.2,c5,c1]
   ·rw[hcvb r ⟨i,hT⟩ j]
    show(match w'.heap[W1.bk r]? with
     |some (.cells arr _ _)=>arr[j]?
     |_=>none)=_
    rw[c3]
 have hv2:Ad s2 v:=by
  refine⟨fun t=>?_,fun r j=>?_,hv.2.2⟩
  ·have:s2.slot t=s.slot t:=by show nth _ s2.sl t=_;rw[zV.sl];rfl
   rw[this];exact hv.1 t
  ·by_cases hc:chk r j
   ·obtain⟨c,hk⟩:=hc;cases c with
    |fl c=>cases hk
    |AX i=>obtain⟨r',e,hT⟩:=BP hk;cases e
    |lf i jj=>
     rcases BM hk with⟨r',e,hT⟩|⟨l,cc,o,e,hT,y8⟩
     ·injection e with e1 e2;subst e1;subst e2
      obtain⟨ls,vo,arr,T',fr,c1,c2,c3,c4,c5,c6,c7⟩:=xt hT;rw[c7];split
      ·rename_i hj;have hj2:j<vo.length:=by omega
       rw[Ae,BJ v ls vo j ls[j] vo[j] (AAF hj) (AAF hj2)];generalize vo[j]=lv;obtain⟨l,x⟩:=lv;cases l with
       |sl t e=>cases ls[j].2 with
        |zero=>right;simp[BU,LA.AG]
        |succ m=>left;rfl
       |_=>right;simp[BU,LA.AG]
      ·right;simp[LA.AG]
     ·injection e with e1 e2;subst e1;subst e2
      obtain⟨_,ver0,gen0,t1,t0,e0,xs0,u6,d1,u,c1,c2,c3,c4⟩:=yt hT y8;rw[c2];exact .inl rfl
   ·rw[hun r j fun c uW=>hc ⟨c,uW⟩];exact hv1.2.1 r j
 have zi:∀(k:Nat)(b:LA),own[k]?=some b→∃y,ys[k]?=some y∧Fb w' fzB v b y (uY (.fl k)):=fun k b hk=>by have:=wu k b hk;rwa[AAW]at this
 let oj:Nat→List Nat:=fun k=>if k<own.length then uY (.fl k)else []
 have hoj:∀k,∀b∈oj k,b∈uY (.fl k):=by
  intro k b hb;have hb:b∈(if k<own.length then uY (.fl k)else []):=hb;split at hb
  ·exact hb
  ·cases hb
 generalize zb:Kk bs=av;refine⟨AO W2 w' [] d (fun k=>ys[k]?) 0 [] oj,rfl,?_⟩;refine yr.Ke hv2 (us:=[]) hd (x:=⟨false,v,own⟩) (a:=av) (u:=r) (w':=w') (cvd:=fun k=>ys[k]?) (bkd:=0) (ob:=[]) (oj:=oj) rfl ?_ (fun _ _=>rfl) (fun b h1 h2=>rfl) (AAd _) ⟨rfl,rfl,rfl⟩ AAL ?_ (fun _ _ hb=>by cases hb) ?_ ?_ ?_ ?_
 ·intro j AA gen t e xs dd hl;rw[Ae]at hl;cases hq:own[j]? with
  |none=>rw[hq]at hl;cases hl
  |some b=>
   rw[hq]at hl;obtain⟨y,_,ho⟩:=zi j b hq;have hl:b=.arr AA gen t e xs dd:=hl;subst hl;exact ho.1
 ·intro j;show(if j<own.length then uY (.fl j)else []).Nodup;split
  ·exact co.nodup _
  ·exact AAL
 ·intro i j xM b hb th;exact co.A4 (.fl i) (.fl j) (fun e=>xM (by injection e)) b (hoj i b hb) (hoj j b th)
 ·intro b hb;rcases hb with hb|⟨j,hb⟩
  ·cases hb
  ·exact .inl ⟨.fl j,fun hk=>hk,by rw[hflom];exact hoj j b hb⟩
 ·intro uH uK;refine⟨fun j=>?_,?_⟩
  ·have e1:(AO W2 w' [] d (fun k=>ys[k]?) 0 [] oj).cv d j=ys[j]?:=by simp[AO]
   have e2:(AO W2 w' [] d (fun k=>ys[k]?) 0 [] oj).om (.lf d j)=oj j:=by simp[AO]
   rw[e1,e2];show Aa _ _ (nth LA.bad own j) _ _;rw[Ae];cases hq:own[j]? with
   |none=>
    have hj:¬j<own.length:=by have:=List.getElem?_eq_none_iff.1 hq;omega
    have:oj j=[]:=AAM hj;rw[this];exact⟨rfl,fun _ _=>trivial⟩
   |some b=>
    have hj:j<own.length:=(AAH.1 hq).1;have:oj j=uY (.fl j):=AAK hj;rw[this];obtain⟨y,hy,ho⟩:=zi j b hq;show Aa _ _ b _ _;rw[hy];cases b with
    |arr AA gen t e xs m=>exact⟨y,rfl,ho.2.2⟩
    |bad=>exact⟨ho,fun _ _=>trivial⟩
    |_=>exact ho.elim
  ·show(if false=true then _ else _);rw[AAM (by simp)];simp[AO]
 ·intro uH uK
  have zY:=hvok (s2.app (gone []++[.root d ⟨false,v,own⟩,.slot d av])) (AO W2 w' [] d (fun k=>ys[k]?) 0 [] oj) rfl rfl (fun k hk=>by
   rw[AAW];refine⟨?_,by simp[AO]⟩;unfold St.leaf;rw[uK])
  rw[co.res];generalize s2.app (gone []++[.root d ⟨false,v,own⟩,.slot d av])=s3 at zY;generalize AO W2 w' [] d (fun k=>ys[k]?) 0 [] oj=W3 at zY;rw[←zb]
  have htup:∀ {bs:List (Bool×List LA)} {rv:List Value},bs.length=rv.length→(∀(i:Nat)(p:Bool×List LA)(u:Value),bs[i]?=some p→rv[i]?=some u→E4 s3 W3 p.1 p.2 u)→Ba s3 W3 (.Dp bs) (.tuple rv.toArray):=by
   intro bs rv hl hh;refine⟨rv.toArray,rfl,by simp[hl],fun j p hj=>?_⟩;have tX:j<rv.length:=by rw[←hl];exact(AAH.1 hj).1
   exact⟨rv[j],by simp[tX],hh j p rv[j] hj (AAF tX)⟩
  match bs,rv,y6,zY with
  | [],[],y6,zY=>exact htup y6 zY
  | [(g',as)],[u],y6,zY=>exact zY 0 (g',as) u rfl rfl
  |p::q::bs,u::u'::rv,y6,zY=>exact htup y6 zY
end
end Go.Ev
namespace Go.Ev
section
variable {P:Program}{E:Cw}{s:St}{W:Wd}{tm:Array Value}{v:Nat}
def Fu(W:Wd)(w':World)(tW:Nat→Prop)(b0:Nat):Wd:=
 { W with w:=w',fz:=fun x=>W.fz x∨tW x,om:=fun k=>match k with
   | .fl n=>if n=0 then [b0]else []
   |k=>W.om k }
theorem AW.OT(h:AW E s tm W)(hv:Ad s v){b0:Nat}{w':World}{tW:Nat→Prop}
  (hold:∀b,b<W.w.heap.size→w'.heap[b]?=W.w.heap[b]?) (uk:W.w.heap.size≤w'.heap.size) (uA:w'.os=W.w.os∧w'.tape=W.w.tape∧w'.output=W.w.output)
  (vO:∀x,tW x→x<w'.heap.size∧(W.fz x∨W.w.heap.size≤x)) (hb:W.w.heap.size≤b0∧b0<w'.heap.size∧¬tW b0):AW E s tm (Fu W w' tW b0):=by
 have hs:=h.sep
 have wJ:∀k b,b∈(Fu W w' tW b0).om k→(b∈W.om k∧∀n,k≠.fl n)∨(k=.fl 0∧b=b0):=by
  intro k b hk;cases k with
  |fl n=>
   have hk:b∈(if n=0 then [b0]else([]:List Nat)):=hk;by_cases hn:n=0
   ·rw[AAK hn]at hk;exact .inr ⟨by rw[hn],AA8.1 hk⟩
   ·rw[AAM hn]at hk;cases hk
  |AX r=>exact .inl ⟨hk,by simp⟩
  |lf r j=>exact .inl ⟨hk,by simp⟩
 have uH:EN v s s W (Fu W w' tW b0):={
  fz:=fun b hb=>.inl hb
  LN:=fun b hb=>hold b (hs.fz b hb).1
  leaf:=fun r j AA gen t e xs dd hl tj=>⟨rfl,gen,t,xs,dd,hl,fun _=>⟨rfl,fun p h' e' u uW hn=>by
   obtain⟨u0,uv,te⟩:=(h.roots r).row hl;rw[uW]at uv;injection uv with uv;subst uv
   exact BN p te hn fun b hb=>hold b (hb.elim (fun hb=>(hs.own _ b hb).2.1) fun hb=>(hs.fz b hb).1)⟩⟩
  box:=fun r hb tj=>⟨hb,rfl,rfl⟩ }
 refine h.IA hv uH ?_ h.DH h.B0 (fun t=>.inl ⟨rfl,rfl⟩) fun r=>?_
 ·exact {
   nodup:=fun k=>by
    cases k with
    |fl n=>
     show(if n=0 then [b0]else([]:List Nat)).Nodup;split<;>simp
    |AX r=>exact hs.nodup (.AX r)
    |lf r j=>exact hs.nodup (.lf r j)
   A4:=fun k k' tj b h1 h2=>by
    rcases wJ k b h1 with⟨h1,n1⟩|⟨rfl,rfl⟩<;>rcases wJ k' b h2 with⟨h2,n2⟩|⟨rfl,h2⟩
    ·exact hs.A4 k k' tj b h1 h2
    ·have:=(hs.own k b h1).2.1;omega
    ·have:=(hs.own k' _ h2).2.1;omega
    ·exact tj rfl
   own:=fun k b h1=>by
    rcases wJ k b h1 with⟨h1,_⟩|⟨rfl,rfl⟩
    ·obtain⟨a1,a2,a3⟩:=hs.own k b h1;refine⟨fun hz=>hz.elim a1 fun hz=>?_,AA7 a2 uk,a3⟩;rcases(vO b hz).2 with h|h
     ·exact a1 h
     ·omega
    ·refine⟨fun hz=>hz.elim (fun hz=>?_) hb.2.2,hb.2.1,.inl (AAw hs.size hb.1)⟩;have:=(hs.fz _ hz).1;omega
   fz:=fun b hz=>by
    rcases hz with hz|hz
    ·obtain⟨a1,a2⟩:=hs.fz b hz;exact⟨AA7 a1 uk,a2⟩
    ·obtain⟨a1,a2⟩:=vO b hz;refine⟨a1,a2.elim (fun h=>(hs.fz b h).2) fun h=>.inr (.inl (AAw hs.size h))⟩
   frame:=fun b h1 h2=>(hold b (AA7 h1 hs.size)).trans (hs.frame b h1 h2)
   size:=AAw hs.size uk
   rest:=⟨uA.1.trans hs.rest.1,uA.2.1.trans hs.rest.2.1,uA.2.2.trans hs.rest.2.2⟩ }
 ·obtain⟨h1,h2⟩:=h.roots r;refine⟨fun j=>?_,?_⟩
  ·exact Aa.Dq uH (by have:=hv.2.1 r j;exact this) (fun b hb=>hold b (hs.own _ b hb).2.1) (h1 j)
  ·show(if(s.root r).box=true then _ else _);split
   ·rename_i hb;rw[AAK hb]at h2;obtain⟨vZ,u1,T',yQ,wi,a1,a2,a3⟩:=h2;refine⟨vZ,u1,T',yQ,(hold _ ?_).trans wi,a1,a2,a3⟩;exact(AAt.1 wi).1
   ·rename_i hb;rw[AAM hb]at h2;exact h2
theorem AW.La(h:AW E s tm W)(hv:Ad s v){d:Nat}(hd:d<tm.size){bs:List LA}{cs:Array Value}{T:TypeId}{fr:Nat×Nat}{b0:Nat}{w':World}{tW:Nat→Prop}
  (hold:∀b,b<W.w.heap.size→w'.heap[b]?=W.w.heap[b]?) (uk:W.w.heap.size≤w'.heap.size) (uA:w'.os=W.w.os∧w'.tape=W.w.tape∧w'.output=W.w.output)
  (vO:∀x,tW x→x<w'.heap.size∧(W.fz x∨W.w.heap.size≤x)) (hb:W.w.heap.size≤b0∧b0<w'.heap.size∧¬tW b0) (uE:w'.heap[b0]?=some (.cells cs T fr)) (um:∀j,j<cs.size→¬(fr.1≤j∧j<fr.2)) (hlen:cs.size=bs.length)
  (vl:∀(j:Nat)(b:LA),bs[j]?=some b→∃(l:L) (x:l.D) (y:Value),b=.sc l x∧cs[j]?=some y∧l.rd 0 w' tW y x []):
  ∃W',W'.w=w'∧AW E (s.app (GJ d v bs)) (tm.setIfInBounds d (.pointer (some ⟨b0,0,none⟩))) W':=by
 have h1:=h.OT hv hold uk uA vO hb
 have hsc:∀j,(∃(l:L) (x:l.D) (y:Value),nth .bad bs j=.sc l x∧cs[j]?=some y∧l.rd 0 w' tW y x [])∨nth .bad bs j=.bad:=by
  intro j;rcases AAo j bs.length with hj|hj
  ·left;have:=vl j bs[j] (AAF hj);rw[Ae,AAF hj];exact this
  ·right;exact Az _ hj
 refine⟨AO (Fu W w' tW b0) w' [] d (fun j=>cs[j]?) b0 [b0] (fun _=>[]),rfl,?_⟩;refine h1.Ke (us:=[]) hv hd (x:=⟨true,v,bs⟩) (a:=one (.ptr d 0 v)) rfl ?_ (fun b _=>rfl) (fun b _ _=>rfl) (AAd _) ⟨rfl,rfl,rfl⟩ (AAY.2 ⟨by simp,AAL⟩) (fun _=>AAL) (fun _ _ _ hb=>by cases hb) (fun _ _ _ _ hb=>by cases hb) ?_ ?_ ?_
 ·intro j AA gen t e xs dd hl;dsimp only at hl;rcases hsc j with⟨l,x,y,h1,_⟩|h1<;>rw[h1]at hl<;>cases hl
 ·intro b hb;rcases hb with hb|⟨j,hb⟩
  ·simp at hb;subst hb;exact .inl ⟨.fl 0,id,by simp[Fu]⟩
  ·cases hb
 ·intro _ _;refine⟨fun j=>?_,?_⟩
  ·have e1:(AO (Fu W w' tW b0) w' [] d (fun j=>cs[j]?) b0 [b0] (fun _=>[])).cv d j=cs[j]?:=by simp[AO]
   have e2:(AO (Fu W w' tW b0) w' [] d (fun j=>cs[j]?) b0 [b0] (fun _=>[])).om (.lf d j)=[]:=by simp[AO]
   rw[e1,e2];show Aa _ _ (nth LA.bad bs j) _ _;rcases hsc j with⟨l,x,y,h1,h2,h3⟩|h1
   ·rw[h1];refine⟨rfl,fun u hu=>?_⟩;rw[h2]at hu;injection hu with hu;subst hu
    exact L.AJ l h3 (fun b _=>rfl) (fun b hb=>.inr hb)
   ·rw[h1];exact⟨rfl,fun _ _=>trivial⟩
  ·show(if true=true then _ else _);rw[AAK rfl];have yV:(AO (Fu W w' tW b0) w' [] d (fun j=>cs[j]?) b0 [b0] (fun _=>[])).bk d=b0:=by simp[AO]
   refine⟨by simp[AO],cs,T,fr,?_,um,hlen,fun j=>by simp[AO]⟩;rw[yV];exact uE
 ·intro _ _;intro _ _;have yV:(AO (Fu W w' tW b0) w' [] d (fun j=>cs[j]?) b0 [b0] (fun _=>[])).bk d=b0:=by simp[AO]
  rw[yV]
end
end Go.Ev
namespace Go.Ev
open Go.Sort (Holds insertionSort)
section
variable {α β:Type}[Inhabited α][Inhabited β]
theorem KJ(d:Array α)(i j:Nat):(Go.Sort.swp d i j).size=d.size:=by simp[Go.Sort.swp]
theorem get_map(f:α→β)(d:Array α)(i:Nat)(hi:i<d.size):(d.map f)[i]! = f d[i]! := by
 grind
theorem NT(f:α→β)(d:Array α)(i j:Nat)(hi:i<d.size)(hj:j<d.size):Go.Sort.swp (d.map f) i j=(Go.Sort.swp d i j).map f:=by unfold Go.Sort.swp;grind
theorem Fm(f:α→β)(lt:α→α→Bool)(wW:β→β→Bool)(h:∀x y,wW (f x) (f y)=lt x y)(a:Nat):∀(j:Nat)(d:Array α),j<d.size→Go.Sort.insInner wW a j (d.map f)=(Go.Sort.insInner lt a j d).map f∧(Go.Sort.insInner lt a j d).size=d.size
 |0,d,_=>⟨rfl,rfl⟩
 |j+1,d,hj=>by
  simp only[Go.Sort.insInner];rw[get_map f d (j+1) hj,get_map f d j (by omega),h];split
  ·rw[NT f d (j+1) j hj (by omega)];obtain⟨e1,e2⟩:=Fm f lt wW h a j (Go.Sort.swp d (j+1) j) (by rw[KJ];omega);exact⟨e1,e2.trans (KJ _ _ _)⟩
  grind
theorem Gf(lt:α→α→Bool)(a b i:Nat)(d:Array α)(h:i<b):Go.Sort.insOuter lt a b i d=Go.Sort.insOuter lt a b (i+1) (Go.Sort.insInner lt a i d):=by rw[Go.Sort.insOuter,AAK h]
theorem DS(lt:α→α→Bool)(a b i:Nat)(d:Array α)(h:¬i<b):Go.Sort.insOuter lt a b i d=d:=by rw[Go.Sort.insOuter,AAM h]
theorem Fo(f:α→β)(lt:α→α→Bool)(wW:β→β→Bool)(h:∀x y,wW (f x) (f y)=lt x y)(a b:Nat):∀(n i:Nat)(d:Array α),b-i≤n→b≤d.size→Go.Sort.insOuter wW a b i (d.map f)=(Go.Sort.insOuter lt a b i d).map f∧(Go.Sort.insOuter lt a b i d).size=d.size
 |0,i,d,hn,hb=>by rw[DS wW a b i _ (by omega),DS lt a b i _ (by omega)];grind
 |n+1,i,d,hn,hb=>by
  by_cases hi:i<b
  ·rw[Gf wW a b i _ hi,Gf lt a b i _ hi];obtain⟨e1,e2⟩:=Fm f lt wW h a i d (by omega);rw[e1];obtain⟨e3,e4⟩:=Fo f lt wW h a b n (i+1) (Go.Sort.insInner lt a i d) (by omega) (by rw[e2];exact hb);grind
  ·rw[DS wW a b i _ hi,DS lt a b i _ hi];grind
theorem Fp(f:α→β)(lt:α→α→Bool)(wW:β→β→Bool)(h:∀x y,wW (f x) (f y)=lt x y)(d:Array α)(b:Nat)(hb:b≤d.size):insertionSort wW (d.map f) 0 b=(insertionSort lt d 0 b).map f∧(insertionSort lt d 0 b).size=d.size:=
 Fo f lt wW h 0 b b 1 d (by omega) hb
theorem KD(enc:α→Value)(w:World)(AX off:Nat)(d:Array α){arr:Array Value}{T:TypeId}{fr:Nat×Nat}(h:w.heap[AX]?=some (.cells arr T fr)):(Go.Sort.putRow enc w AX off d).heap[AX]?=some (.cells (Go.Sort.putCells enc off d arr) T fr):=by simp[Go.Sort.putRow,Go.Sort.mapBlock,Array.getElem?_modify,h,Go.Sort.onCells]
theorem Gn(enc:α→Value)(w:World)(AX off:Nat)(d:Array α){b:Nat}(h:b≠AX):(Go.Sort.putRow enc w AX off d).heap[b]?=w.heap[b]?:=by simp[Go.Sort.putRow,Go.Sort.mapBlock,Array.getElem?_modify,Ne.symm h]
end
section
variable {P:Program}{E:Cw}{s:St}{W:Wd}{o:Oper}{a:Act}{ws:List Wr}{cx:Cx}{v:Nat}{tm:Array Value}
def KO(W:Wd)(r:Nat)(b:Nat):Prop:=W.fz b∨∃k,(∀j,k≠.lf r j)∧b∈W.om k
theorem HE.frame{w w':World}{fz:Nat→Prop}{ls:List L}{u:Value}{vs:List Lv}(h:HE w fz ls u vs)(hf:∀b,fz b→w'.heap[b]?=w.heap[b]?):HE w' fz ls u vs:=by
 obtain⟨b,arr,T,fr,hu,hz,hh,hs,hm,hr⟩:=h;exact⟨b,arr,T,fr,hu,hz,(hf b hz).trans hh,hs,hm,fun j lv hj=>let ⟨y,hy,hl⟩:=hr j lv hj;⟨y,hy,L.AJ lv.l hl (fun b hb=>hf b (hb.elim (fun hb=>by cases hb) id)) fun _ hb=>hb⟩⟩
theorem Dz.frame{w w':World}{fz:Nat→Prop}(hf:∀b,fz b→w'.heap[b]?=w.heap[b]?):∀ {bs:List (List L)} {us:List Value} {vs:List Lv},Dz w fz bs us vs→Dz w' fz bs us vs
 | [],[],vs,h=>h
 |ls::bs,u::us,vs,h=>by obtain⟨x,y,e,h1,h2⟩:=h;exact⟨x,y,e,h1.frame hf,Dz.frame hf h2⟩
 | [],_::_,vs,h=>h.elim
 |_::_,[],vs,h=>h.elim
theorem Kn.frame{w w':World}{fz:Nat→Prop}{rv:Value}(hf:∀b,fz b→w'.heap[b]?=w.heap[b]?){c:KL}{u:Value}{vs:List Lv}(h:Kn w fz rv c u vs):Kn w' fz rv c u vs:=by
 cases c with
 |box ls=>exact HE.frame h hf
 |EI g bs=>
  obtain⟨b,T,fr,lb,hu,hz,hh,hb⟩:=h;exact⟨b,T,fr,lb,hu,hz,(hf b hz).trans hh,hb.frame hf⟩
 |row=>
  obtain⟨e,b,T,fr,hu,hz,hh⟩:=h;exact⟨e,b,T,fr,hu,hz,(hf b hz).trans hh⟩
theorem EK.frame{w w':World}{fz:Nat→Prop}{rv:Value}(hf:∀b,fz b→w'.heap[b]?=w.heap[b]?):∀ {cs:List KL} {us:List Value} {vs:List Lv},EK w fz rv cs us vs→EK w' fz rv cs us vs
 | [],[],vs,h=>h
 |c::cs,u::us,vs,h=>by obtain⟨x,y,e,h1,h2⟩:=h;exact⟨x,y,e,h1.frame hf,EK.frame hf h2⟩
 | [],_::_,vs,h=>h.elim
 |_::_,[],vs,h=>h.elim
def JX(s:St)(W:Wd)(ps:List (Nat×Nat))(bs:List Nat):Prop:=bs.length=ps.length∧∀(k:Nat)(p:Nat×Nat)(b:Nat),ps[k]?=some p→bs[k]?=some b→(s.root p.1).box=true→(s.root p.1).AA=p.2→b=W.bk p.1
theorem JX.cons{p:Nat×Nat}{ps:List (Nat×Nat)}{bs:List Nat}(h:JX s W (p::ps) bs):∃b bs',bs=b::bs'∧((s.root p.1).box=true→(s.root p.1).AA=p.2→b=W.bk p.1)∧JX s W ps bs':=by
 obtain⟨h1,h2⟩:=h
 match bs,h1 with
 |b::bs,h1=>exact⟨b,bs,rfl,h2 0 p b rfl rfl,by grind,fun k q c hq hc=>h2 (k+1) q c (by grind) (by grind)⟩
theorem JX.nil{bs:List Nat}(h:JX s W [] bs):bs=[]:=AAP h.1
def NP(b:Nat):Value:=.pointer (some ⟨b,0,none⟩)
theorem Nk(h:AW E s tm W){not r:Nat}{ls:List L}(hb:(s.root r).box=true)(tj:r≠not)(hlen:(s.root r).ls.length=ls.length)(yH:(s.root r).ls.all NZ=true){β:Type}{z:β}{k:List Lv→Step β}(hl:(s.data ls (Ay r 0 (s.root r).ls) k).leads z):
  ∃x,(k x).leads z∧HE W.w (KO W not) ls (NP (W.bk r)) x:=by
 obtain⟨_,uR⟩:=h.roots r;rw[AAK hb]at uR;obtain⟨zh,arr,T,fr,hh,tw,uC,uJ⟩:=uR
 obtain⟨vs,hl,ug,xl,vb⟩:=Es h (g:=fun j=>arr[j]?) (fun j b hj=>by
  rw[Cy]at hj;cases hq:(s.root r).ls[j]? with
  |none=>grind
  |some y=>
   rw[hq]at hj;injection hj with hj
   have tX:j<(s.root r).ls.length:=(AAH.1 hq).1;have tR:s.leaf r j=y:=by unfold St.leaf;rw[Ae,hq];rfl
   have uE:W.cv r j=some (arr[j]'(by omega)):=by rw[uJ];exact AAc _
   refine⟨arr[j]'(by omega),AAc _,?_⟩;rw[←hj,AAW];exact K0 h tR uE) hl
 refine⟨vs,hl,W.bk r,arr,T,fr,rfl,.inr ⟨.AX r,(fun j e=>by cases e),by grind⟩,hh,by omega,xl,fun j lv hj=>?_⟩;obtain⟨u,hu,hr⟩:=vb j lv hj;refine⟨u,hu,L.AJ lv.l hr (fun _ _=>rfl) fun b hb=>?_⟩;rcases hb with hb|⟨r',uS,j',hb⟩
 ·exact .inl hb
 ·refine .inr ⟨.lf r' j',fun j e=>?_,hb⟩;injection e with e1 e2
  have:r'=r:=by
   obtain⟨y,hy,wN⟩:=AAI.1 uS;obtain⟨i,hi⟩:=AAp hy;rw[Cy]at hi;cases hq:(s.root r).ls[i]? with
   |none=>rw[hq]at hi;cases hi
   |some y0=>
    rw[hq]at hi;injection hi with hi
    subst hi;have:=AAU.1 yH y0 (AAN hq);cases y0 with
    |arr=>simpa[seen,LA.roots]using wN
    |sc=>simp[seen,LA.roots]at wN
    |_=>cases this
  omega
theorem HY(h:AW E s tm W){not:Nat}{β:Type}{z:β}:∀ {bs:List (List L)} {ps:List (Nat×Nat)} {ks:List Nat} {k:List Lv→Step β},JX s W ps ks→(DN s not bs ps k).leads z→∃x,(k x).leads z∧Dz W.w (KO W not) bs (ks.map NP) x
 | [],[],ks,k,hk,hl=>by rw[hk.nil];exact⟨[],hl,rfl⟩
 |ls::bs,(r,AA)::ps,ks,k,hk,hl=>by
  obtain⟨b,ks',rfl,xr,u7⟩:=hk.cons;simp only[DN]at hl;split at hl
  ·rename_i hc;simp only[AAG,AAS,bne_iff_ne,ne_eq]at hc;obtain⟨⟨⟨⟨hb,tc⟩,tj⟩,hlen⟩,uZ⟩:=hc;obtain⟨x,hl,hx⟩:=Nk h hb tj hlen uZ hl;obtain⟨y,hl,hy⟩:=HY h u7 hl;have e:b=W.bk r:=xr hb tc;exact⟨_,hl,x,y,rfl,by grind,hy⟩
  ·exact hl.elim
 | [],_::_,ks,k,hk,hl=>hl.elim
 |_::_,[],ks,k,hk,hl=>hl.elim
theorem G3(h:AW E s tm W){c:Loc}{qs:List (Nat×Nat)}{rv:Value}(y9:W.cv c.r c.j=some rv){β:Type}{z:β}:∀ {cs:List KL} {ps:List (Nat×Nat)} {ks:List Nat} {k:List Lv→Step β},JX s W ps ks→(Bx s c qs cs ps k).leads z→∃x,(k x).leads z∧EK W.w (KO W c.r) rv cs (ks.map NP) x
 | [],[],ks,k,hk,hl=>by rw[hk.nil];exact⟨[],hl,rfl⟩
 | .box ls::cs,p::ps,ks,k,hk,hl=>by
  obtain⟨b,ks',rfl,xr,u7⟩:=hk.cons;simp only[Bx]at hl
  have y7:JX s W [p] [b]:=⟨rfl,fun i q d hq hd=>by
   grind⟩
  obtain⟨x,hl,hx⟩:=HY h y7 hl;obtain⟨y,hl,hy⟩:=G3 h y9 u7 hl;obtain⟨x1,x2,e,h1,h2⟩:=hx;have e2:x2=[]:=h2;subst e2;exact⟨_,hl,x,y,rfl,by rw[e,List.append_nil];exact h1,hy⟩
 | .EI g bs::cs,(r,AA)::ps,ks,k,hk,hl=>by
  obtain⟨b,ks',rfl,xr,u7⟩:=hk.cons;simp only[Bx]at hl;split at hl
  ·rename_i g' zB qs' vf;split at hl
   ·rename_i hc;simp only[AAG,AAS,bne_iff_ne,ne_eq]at hc;obtain⟨⟨⟨⟨hb,tc⟩,tj⟩,hg⟩,uZ⟩:=hc;subst hg;obtain⟨yH,uR⟩:=h.roots r;rw[AAK hb]at uR;obtain⟨zh,arr,T,fr,hh,tw,uC,uJ⟩:=uR;rw[vf]at uC;have uC:arr.size=1:=uC
    obtain⟨u,hu⟩:∃u,arr = #[u]:=by
     match arr,uC with
     |⟨[u]⟩,_=>grind
    have vP:=yH 0;rw[vf]at vP;have vP:[]=W.om (.lf r 0)∨True:=.inr trivial;have wB:=yH 0;rw[vf]at wB;have hclo:AR s W (.EI g zB qs') u:=wB.2 u (by grind);obtain⟨ks2,hv2,wZ,hk2⟩:=hclo;obtain⟨x,hl,hx⟩:=HY h (ks:=ks2) ⟨wZ,hk2⟩ hl;obtain⟨y,hl,hy⟩:=G3 h y9 u7 hl;have e:b=W.bk r:=xr hb tc;refine⟨_,hl,x,y,rfl,?_,hy⟩;refine⟨W.bk r,T,fr,_,by rw[e];rfl,.inr ⟨.AX r,(fun j e=>by cases e),by grind⟩,?_,hx⟩;rw[hh,hu,hv2];rfl
   ·exact hl.elim
  ·exact hl.elim
 | .row::cs,(r,AA)::ps,ks,k,hk,hl=>by
  obtain⟨b,ks',rfl,xr,u7⟩:=hk.cons;simp only[Bx]at hl;split at hl
  ·rename_i hc;simp only[AAG,AAS]at hc;obtain⟨⟨⟨⟨hb,tc⟩,hr⟩,hj⟩,hlen⟩:=hc;obtain⟨y,hl,hy⟩:=G3 h y9 u7 hl;obtain⟨yH,uR⟩:=h.roots r;rw[AAK hb]at uR;obtain⟨zh,arr,T,fr,hh,tw,uC,uJ⟩:=uR
   obtain⟨u,hu⟩:∃u,arr = #[u]:=by
    have uC:arr.size=1:=by rw[uC,hlen]
    match arr,uC with
    |⟨[u]⟩,_=>exact⟨u,rfl⟩
   have hrv':=y9;rw[←hr,hj,uJ,hu]at hrv';have hurv:u=rv:=by simpa using hrv'
   have e:b=W.bk r:=xr hb tc;refine⟨_,hl,[],y,rfl,⟨rfl,W.bk r,T,fr,by rw[e];rfl,.inr ⟨.AX r,(fun j e=>by cases e),by rw[zh];simp⟩,?_⟩,hy⟩;grind
  ·exact hl.elim
 | [],_::_,ks,k,hk,hl=>hl.elim
 | .box _::_,[],ks,k,hk,hl=>hl.elim
 | .EI _ _::_,[],ks,k,hk,hl=>hl.elim
 | .row::_,[],ks,k,hk,hl=>hl.elim
theorem GI(hc:Dr P cx)(h:AW E s a.tmps W){t:TypeId}{x:Operand}(ho:o.op=.makeInterface t x)(hl:(AB cx v o s).leads ws):Be P E o a W.w (s.app ws):=by
 simp only[AB,ho]at hl;have h1:=Ac h x;split at hl
 ·rename_i ty c ht hx;split at hl
  ·exact hl.elim
  ·rename_i vd;split at hl
   ·rename_i t' e vf;rw[AN hl];rw[hx]at h1;have uO:P.underlying t=some (.slice t'):=(Cm hc ht vf (by grind):GQ P t (.sl t' e)).1;refine AT h (u:=.iface t (a.eval x)) ?_ (show AR s W (.JC t c) _ from⟨_,rfl,h1⟩);simp[execOp,ho,Instr.makeInterface,run_underlying uO]
   ·exact hl.elim
 ·exact hl.elim
theorem Kw(h:AW E s a.tmps W):∀ {xs:List Operand} {ps:List (Nat×Nat)},Di s (xs.map s.Ap)=some ps→xs.map a.eval=(ps.map fun p=>W.bk p.1).map (fun b=>Value.pointer (some ⟨b,0,none⟩))
 | [],ps,hp=>by simp only[List.map_nil,Di,Option.some.injEq]at hp;subst hp;rfl
 |x::xs,ps,hp=>by
  have hx:=BF h x;rw[ABK]at hp;unfold Di at hp;split at hp
  ·grind
  ·rename_i r AA vs e;injection e with e1 e2
   split at hp
   ·rename_i hc;simp only[AAG,AAS]at hc;split at hp
    ·rename_i zB zS;injection hp with hp
     subst hp;rw[←e2]at zS;have ih:=Kw h zS;rw[e1]at hx;have hx:a.eval x=.pointer (some ⟨W.bk r,0,none⟩):=hx hc.1 hc.2;grind
    ·cases hp
   ·cases hp
  ·cases hp
theorem J9(h:AW E s a.tmps W){fn:Fn}{xs ys:Array Operand}(ho:o.op=.makeFunc fn xs ys)(hl:(AB cx v o s).leads ws):Be P E o a W.w (s.app ws):=by
 cases fn with
 |func g=>
  simp only[AB,ho]at hl;split at hl
  ·rename_i uC;split at hl
   ·rename_i ps wR;rw[AN hl];have hp:=Kw h wR;have xm:xs = #[]:=Array.size_eq_zero_iff.1 (by simpa using uC);refine AT h (u:=.func (.func g) #[] (ys.map a.eval)) ?_ (show AR s W (.EI g ps (behind s ps)) _ from⟨ps.map fun p=>W.bk p.1,?_,by simp,fun k p b hk hb _ _=>?_⟩)
    ·simp[execOp,ho,Instr.makeFunc,xm]
    ·rw[←hp,←ABI,Array.toArray_toList]
    grind
   ·exact hl.elim
  ·exact hl.elim
 |_=>simp only[AB,ho]at hl;exact hl.elim
theorem Mn{l:List Operand}{f:Operand→AV}{p q:AV}(h:l.map f=[p,q]):∃x y,l=[x,y]∧f x=p∧f y=q:=by
 match l,h with
 | [x,y],h=>grind
theorem Lh(h:AW E s a.tmps W)(hv:Ad s v){fid g:FuncId}{σ:OJ}(hso:NW P fid g σ){cl:Loc}{gen:Nat}{t0:TypeId}{xs zs:List Int}{ks:List Nat}{vs:List Lv}{u:Value}{y:(E2 (σ.I9.flatMap KL.kinds)).D}
  (tR:s.leaf cl.r cl.j=.arr cl.AA gen t0 (.one (.int .i64)) xs 2) (uJ:W.cv cl.r cl.j=some u) (te:AD (.one (.int .i64)) 2 W.w W.fz u xs (W.om (.lf cl.r cl.j))) (yY:EK W.w (KO W cl.r) u σ.I9 (ks.map NP) vs) (hy:pack (E2 (σ.I9.flatMap KL.kinds)) vs=some y)
  (w6:Mj (σ.lt y) xs=some zs):Calls P fid #[.iface σ.t u,.func (.func g) #[] (ks.map fun b=>Value.pointer (some ⟨b,0,none⟩)).toArray] W.w fun en w'=>en=.returned (.tuple #[])∧
   ∃W1:Wd,W1.w=w'∧AW E (s.app [.leaf cl.r cl.j (.arr cl.AA v t0 (.one (.int .i64)) zs 2)]) a.tmps W1:=by
 have uj:∀b,KO W cl.r b→b∉W.om (.lf cl.r cl.j):=by
  intro b hb tS;rcases hb with hb|⟨k,hk,hb⟩
  ·exact(h.sep.own _ b tS).1 hb
  ·exact h.sep.A4 k _ (hk _) b hb tS
 have helt:∀b,KO W cl.r b→b<W.w.heap.size:=by
  intro b hb;rcases hb with hb|⟨k,hk,hb⟩
  ·exact(h.sep.fz b hb).1
  ·exact(h.sep.own _ b hb).2.1
 have OA:xs.length≤1→Calls P fid #[.iface σ.t u,.func (.func g) #[] (ks.map fun b=>Value.pointer (some ⟨b,0,none⟩)).toArray] W.w (fun en w'=>en=.returned (.tuple #[])∧∃os,w'=Go.Sort.grow W.w os):=by intro hlen;obtain⟨A,cc,xO,hcc,_⟩:=te.KM;rw[xO];exact hso.sort.OA A _ cc hlen _ _ _ _
 unfold Mj at w6;by_cases wI:xs.length≤1
 ·rw[show decide (xs.length≤1)=true by simpa using wI]at w6;injection w6 with w6
  refine(OA wI).mono ?_
  rintro en w' ⟨rfl,os,rfl⟩
  refine⟨rfl,?_⟩;have yM:=h.JS hv (e:=.one (.int .i64)) (u6:=xs) tR uJ te (fun b _=>rfl) rfl ⟨rfl,rfl,rfl⟩;rw[w6]at yM;refine⟨_,rfl,yM.world (w':=Go.Sort.grow W.w os) (yM.KG fun b hb=>Go.Sort.heap_grow_old _ _ hb) (fun b hb _=>Go.Sort.heap_grow_old _ _ (by have:=h.sep.size;omega)) (by show W.w.heap.size≤(Go.Sort.grow W.w os).heap.size;rw[Go.Sort.size_grow];omega) ⟨rfl,rfl,rfl⟩⟩
 ·rw[show decide (xs.length≤1)=false by grind,cond_false]at w6;cases uU:(decide (xs.length≤20)&&xs.all fun x=>xs.all fun z=>(σ.lt y x z).isSome)with
  |false=>grind
  |true=>
   rw[uU,cond_true]at w6;injection w6 with w6
   simp only[AAG,AAb]at uU;obtain⟨h20,uZ⟩:=uU;obtain⟨A,cc,xO,hcc,vU,uN⟩:=te.KM;have hcc:xs.length≤cc:=hcc;cases A with
   |none=>grind
   |some ad=>
    obtain⟨arr,T,fr,os1,vV,hh,uP,uw,uD,hoo,_⟩:=uN ad rfl (.inr (by omega));have tw:=uw (by omega);obtain⟨AX,off,sp⟩:=ad;dsimp only at vV hh uP uD hoo;subst vV;have uP:off+cc*1≤arr.size:=uP;have u4:AX∈W.om (.lf cl.r cl.j):=by rw[hoo (by omega)];exact AAe
    have hblt:AX<W.w.heap.size:=(h.sep.own _ AX u4).2.1
    have hcellv:∀i (hi:i<xs.length),arr[off+i]?=some (.int .i64 (xs[i])):=by intro i hi;have h3:=uD i hi;simp only[Ls.rd]at h3;obtain⟨w3,hw3,h4,_⟩:=h3;have hw3:arr[off+(i*1+0)]?=some w3:=hw3;rw[Nat.mul_one,AAr]at hw3;rw[hw3];exact congrArg some h4
    obtain⟨x0,xm⟩:∃x0,x0∈xs:=by
     match hq:xs,wI with
     |x::_,_=>grind
    letI:Inhabited {x:Int // x∈xs}:=⟨⟨x0,xm⟩⟩
    let D:Array {x:Int // x∈xs}:=xs.attach.toArray
    have hDs:D.size=xs.length:=by simp[D]
    have hDm:D.map Subtype.val=xs.toArray:=by simp[D]
    let enc:{x:Int // x∈xs}→Value:=fun x=>.int .i64 x.1
    let wW:{x:Int // x∈xs}→{x:Int // x∈xs}→Bool:=fun p q=>OS (σ.lt y) p.1 q.1
    have ye:Holds enc W.w AX off D:=by
     intro j hj;rw[hDs]at hj;refine⟨?_,?_⟩
     ·simp only[World.cell?,hh];grind
     ·have tX:off+j<arr.size:=by omega
      have:=tw (off+j) tX;obtain⟨lo,hi⟩:=fr;simp only[World.frozen?,hh];grind
    have hless:∀(m:Nat)(os:Array Obj)(dk:Array {x:Int // x∈xs}),dk.size=D.size→∀i j:Nat,i<D.size→j<D.size→
      Calls P g (#[.int .i64 i,.int .i64 j]++(ks.map fun b=>Value.pointer (some ⟨b,0,none⟩)).toArray) (Go.Sort.grow (Go.Sort.putRow enc (Go.Sort.ahead W.w m) AX off dk) os) fun e w'=>e=.returned (.bool (wW dk[i]! dk[j]!))∧∃q ui,w'=Go.Sort.grow ((Go.Sort.grow (Go.Sort.putRow enc (Go.Sort.ahead W.w m) AX off dk) os).drewN q) ui:=by
     intro m os dk hdk i j hi hj
     have vY:∀b,KO W cl.r b→(Go.Sort.grow (Go.Sort.putRow enc (Go.Sort.ahead W.w m) AX off dk) os).heap[b]?=W.w.heap[b]?:=by intro b hb;rw[Go.Sort.heap_grow_old _ _ (by rw[Go.Sort.size_putRow];exact helt b hb),Gn enc _ AX off dk (b:=b) (fun e=>uj b hb (e▸u4))];rfl
     have hc2:=yY.frame vY;rw[xO]at hc2
     have wM:σ.lt y dk[i]!.1 dk[j]!.1=some (wW dk[i]! dk[j]!):=by have h5:=AAU.1 uZ dk[i]!.1 dk[i]!.2;have h6:=AAU.1 h5 dk[j]!.1 dk[j]!.2;obtain⟨b,hb⟩:=Option.isSome_iff_exists.1 h6;show _=some (OS (σ.lt y) dk[i]!.1 dk[j]!.1);unfold OS;rw[hb]
     exact hso.less _ _ _ _ y AX off xs.length cc (fun t=>dk[t]!.1) hc2 hy (fun t ht=>by
      rw[Go.Sort.cell?_grow _ _ _ (by show AX<_;rw[Go.Sort.size_putRow];exact hblt)];exact Go.Sort.cell?_putRow enc (Go.Sort.ahead W.w m) AX off D dk ye hdk t (by omega)) h20 i j (by omega) (by omega) _ wM
    have uq:=hso.sort.many _ enc (fun _=>rfl) wW g (ks.map fun b=>Value.pointer (some ⟨b,0,none⟩)).toArray hso.enters AX off cc D (by omega) (by omega) W.w hless ye hblt;rw[hDs]at uq;rw[xO];refine uq.mono ?_
    rintro en w' ⟨rfl,n,os,rfl⟩
    refine⟨rfl,?_⟩;obtain⟨yI,uk⟩:=Fp Subtype.val wW (OS (σ.lt y)) (fun _ _=>rfl) D xs.length (by omega);rw[hDm]at yI;generalize hS:insertionSort wW D 0 xs.length=S at yI uk;rw[yI]at w6
    have hzl:zs.length=xs.length:=by rw[←w6];simp[uk,hDs]
    have hzget:∀i (hi:i<xs.length),zs[i]?=some S[i]!.1:=by intro i hi;rw[←w6,getElem!_pos S i (by omega)];simp[uk,hDs,hi]
    have tz:Mu W.w (Go.Sort.putRow enc (Go.Sort.ahead W.w n) AX off S) AX (Go.Sort.putCells enc off S arr) T fr:={
     here:=KD enc (Go.Sort.ahead W.w n) AX off S hh
     CL:=fun b hb=>Gn enc (Go.Sort.ahead W.w n) AX off S hb
     size:=Go.Sort.size_putRow enc (Go.Sort.ahead W.w n) AX off S
     rest:=⟨rfl,rfl,rfl⟩ }
    have hpsz:(Go.Sort.putCells enc off S arr).size=arr.size:=by simp[Go.Sort.putCells]
    have tY:AD (.one (.int .i64)) 2 (Go.Sort.putRow enc (Go.Sort.ahead W.w n) AX off S) W.fz (.slice (some ⟨AX,off,none⟩) zs.length cc) zs (AX::(List.range zs.length).flatMap fun _=>[]):=by
     refine Gi (e:=.one (.int .i64)) (xs:=zs) (ad:=⟨AX,off,none⟩) tz.here rfl (by grind) (by grind) (show zs.length≤cc by omega) ?_;intro i hi;have hi:i<zs.length:=hi;rw[hzl]at hi;simp only[Ls.rd]
     have uE:(Go.Sort.putCells enc off S arr)[off+i]?=some (enc S[i]!):=by simp only[Go.Sort.putCells,Array.getElem?_mapIdx,hcellv i hi,AA9];rw[AAK ⟨by omega,by omega⟩,show off+i-off=i by omega]
     refine⟨enc S[i]!,?_,?_,rfl⟩
     ·show(Go.Sort.putCells enc off S arr)[off+(i*1+0)]?=_;grind
     ·have h7:=hzget i hi;rw[AAF (by omega)]at h7;injection h7 with h7
      exact(congrArg (Value.int .i64) h7).symm
    have hod:(AX::(List.range zs.length).flatMap fun _=>([]:List Nat))=W.om (.lf cl.r cl.j):=by
     rw[hoo (by omega)];congr 1
     have:(List.range xs.length).flatMap os1=[]:=by rw[List.flatMap_eq_nil_iff];intro i hi;have h3:=uD i (AAR.1 hi);simp only[Ls.rd]at h3;obtain⟨w3,hw3,_,h4⟩:=h3;exact h4
     rw[DQ];exact this.symm
    rw[hod,hzl]at tY;rw[xO]at uJ;have yM:=h.JS hv (e:=.one (.int .i64)) (u6:=zs) tR uJ tY (fun b hb=>tz.CL b fun e=>hb (e▸u4)) tz.size tz.rest;refine⟨_,rfl,yM.world (w':=Go.Sort.grow (Go.Sort.putRow enc (Go.Sort.ahead W.w n) AX off S) os) (yM.KG fun b hb=>Go.Sort.heap_grow_old _ _ hb) (fun b hb w8=>Go.Sort.heap_grow_old _ _ (by show b<(Go.Sort.putRow enc (Go.Sort.ahead W.w n) AX off S).heap.size;rw[tz.size];have:=h.sep.size;omega)) (by show _≤(Go.Sort.grow (Go.Sort.putRow enc (Go.Sort.ahead W.w n) AX off S) os).heap.size;rw[Go.Sort.size_grow];grind) ⟨rfl,rfl,rfl⟩⟩
theorem Li(uF:DL P E cx.env)(h:AW E s a.tmps W)(hv:Ad s v){c:Call}{f:Operand}{fid:FuncId}{d:Nat}(ho:o.op=.call c)(hb:c.callee=.value f)(ua:o.dst=some d)(hdlt:d<a.tmps.size)(hf:a.eval f=.func (.func fid) #[] #[])
  (hl:(Dx cx s d v fid (c.args.toList.map s.Ap) fun ws=>.go ws).leads ws):Be P E o a W.w (s.app ws):=by
 unfold Dx at hl;split at hl
 ·rename_i t cl g ps qs uL;split at hl
  ·rename_i σ hσ;split at hl
   ·rename_i AA gen t0 xs tR;split at hl
    ·rename_i tZ;simp only[AAG,AAS,AAT]at tZ;obtain⟨⟨⟨tc,hp⟩,wU⟩,hts⟩:=tZ;subst tc;subst hts;have hp:cl.p=[]:=by cases hq:cl.p<;>simp_all[isNil]
     obtain⟨x1,x2,hxy,v8,vh⟩:=Mn uL;have z8:c.args = #[x1,x2]:=by grind
     have h1:=BF h x1;have h2:=BF h x2;rw[v8]at h1;rw[vh]at h2;obtain⟨u,hu1,hu2⟩:AR s W (.JC σ.t cl) (a.eval x1):=h1;obtain⟨ks,y7,hk2⟩:AR s W (.EI g ps qs) (a.eval x2):=h2;obtain⟨h',e',uJ,hn⟩:=hu2 _ _ _ _ _ tR (.inl hp);rw[hp]at hn;obtain⟨rfl,rfl⟩:=hn;obtain⟨u',tu,te⟩:=(h.roots cl.r).row tR;rw[uJ]at tu;injection tu with tu;subst tu
     obtain⟨vs,hl,yY⟩:=G3 h uJ (ks:=ks) hk2 hl;split at hl
     ·rename_i y hy;obtain⟨zs,w6,hl⟩:=hl;have hl:_=ws:=hl;have hso:=uF.1.Oq fid g σ hσ;obtain⟨fn,cb,yb,yc,wG⟩:=hso.sort.body
      have hrunc:(execOp a.eval o).run P W.w=.ok (.enter fid #[a.eval x1,a.eval x2]) W.w:=by
       have wG : ¬ fn.name = "runtime.NumGoroutine" := by simpa using wG
       simp[execOp,ho,hb,z8,resolve,invoke,hf,Deferred.ofValue,callFunc,yb,yc,wG]
      have fin:∀w':World,(∃W1:Wd,W1.w=w'∧AW E (s.app [.leaf cl.r cl.j (.arr cl.AA v t0 (.one (.int .i64)) (show List Int from zs) 2)]) a.tmps W1)→∀(next:Act→World→Prop),(∀a' W',a'.defers=a.defers→AW E (s.app ws) a'.tmps W'→next a' W'.w)→next (a.put o.dst (.tuple #[])) w':=by
       intro w' ⟨W1,hW1,tT⟩ next wK
       have hs:=tT.slot d (x:=.Dp []) (u:=.tuple #[]) ⟨#[],rfl,rfl,fun j p hj=>by simp at hj⟩;rw[←hW1];refine wK _ W1 (by rw[ua];rfl) ?_;rw[←hl,ua];exact hs
      intro next Q wK
      unfold Oper.wp;rw[hrunc,Oper.upon_enter,hu1,y7];have hcore:=Lh (v:=v) (zs:=zs) h hv hso tR uJ te yY hy w6;refine hcore.mono ?_
      rintro en w' ⟨rfl,W1,hW1,tT⟩
      exact fin _ ⟨W1,hW1,tT⟩ next wK
     ·exact hl.elim
    ·exact hl.elim
   ·exact hl.elim
  ·exact hl.elim
 ·exact hl.elim
end
end Go.Ev
namespace Go.Ev
section
variable {P:Program}{E:Cw}{s:St}{W:Wd}{o:Oper}{a:Act}{ws:List Wr}{cx:Cx}{v:Nat}{tm:Array Value}
theorem NI(uF:DL P E cx.env)(h:AW E s a.tmps W)(hv:Ad s v){c:Call}{f:Operand}(ho:o.op=.call c)(hb:c.callee=.value f)(hd:∀d,o.dst=some d→d<a.tmps.size)(hl:(AB cx v o s).leads ws):Be P E o a W.w (s.app ws):=by
 simp only[AB,ho,hb]at hl;have hf:=Ac h f;split at hl
 ·rename_i fid d hfid ua;rw[hfid]at hf;have hf:a.eval f=.func (.func fid) #[] #[]:=hf;unfold call at hl;split at hl
  ·exact Li uF h hv ho hb ua (hd d ua) hf hl
  ·rename_i g hg;cases xX:g.s.mk? with
   |true=>
    rw[xX,AAK rfl]at hl
    obtain⟨tV,T,hl,l1,l3,l4,hn,wY⟩:=I7 h g.s.ps (c.args.toList.map s.Ap) (c.args.toList.map a.eval) (by simp) (fun i av u h1 h2=>by
     rw[AAX]at h1 h2;cases hx:c.args.toList[i]? with
     |none=>rw[hx]at h1;cases h1
     |some x=>
      rw[hx]at h1 h2;injection h1 with h1;injection h2 with h2
      subst h1;subst h2;exact BF h x) hl
    split at hl
    ·rename_i xp;simp only[AAG]at xp;obtain⟨wC,hvr⟩:=xp
     have hvr:Af g.s.ps (c.args.toList.map s.Ap)=[]:=by
      revert hvr
      cases Af g.s.ps (c.args.toList.map s.Ap)with
      |nil=>intro _;rfl
      |cons=>intro h;cases h
     split at hl
     ·exact hl.elim
     ·rename_i y hy;obtain⟨z,hz,hl⟩:=hl;have hl:_=ws:=hl
      have hh:Handed s W g.s.ps (c.args.toList.map s.Ap) (c.args.toList.map a.eval) tV T:={
       l1:=l1
       l2:=by rw[←l1];simp
       l3:=l3
       l4:=l4
       nodup:=hn
       each:=wY
       apart:=fun r hr=>by rw[hvr]at hr;cases hr }
      obtain⟨yF,fn,cb,yb,yc,wG⟩:=uF.1.fns fid g hg;have uq:=yF (c.args.toList.map a.eval) W.w (Seen W (Af g.s.ps (c.args.toList.map s.Ap))) tV _ _ y z (uF.Ox h.sep fun k b hb=>let ⟨a,_,h2⟩:=Cc hh hb;⟨a,h2⟩) (F9 h hh) hy hz;rw[xX]at uq;intro next Q wK
      have tn:(execOp a.eval o).run P W.w=.ok (.enter fid (c.args.toList.map a.eval).toArray) W.w:=by
       have:(c.args.toList.map a.eval).toArray=c.args.map a.eval:=by rw[←ABI,Array.toArray_toList]
       rw[this]
       have wG : ¬ fn.name = "runtime.NumGoroutine" := by simpa using wG
       simp[execOp,ho,hb,resolve,invoke,hf,Deferred.ofValue,callFunc,yb,yc,wG]
      unfold Oper.wp;rw[tn,Oper.upon_enter];refine uq.mono ?_
      rintro en w' ⟨r,tW,b0,rfl,mo⟩
      obtain⟨rfl,hkinds,cs,T0,fr,uE,um,hlen,yA⟩:=mo.box;have ug:(unpack g.s.outs z).length=g.s.Gw.length:=by have:=congrArg List.length hkinds;simpa using this
      have hzero:∀p∈g.s.Gw,p.2=0:=fun p hp=>by unfold Sm.plain at wC;simp only[AAG]at wC;simpa using AAU.1 wC.2 p hp
      obtain⟨W',vL,tT⟩:=h.La hv (hd d ua) (bs:=AM v g.s.Gw (unpack g.s.outs z)) mo.frame mo.size mo.rest (fun x hx=>by
       obtain⟨a1,a2⟩:=mo.fz x hx;refine⟨a1,a2.imp (fun h=>?_) id⟩;rcases h with h|⟨r,hr,_⟩
       ·exact h
       ·rw[hvr]at hr;cases hr) mo.new uE um (by rw[BK _ _ _ ug];exact hlen) (fun j b hj=>by
       have hjl:j<g.s.Gw.length:=by have:=(AAH.1 hj).1;rwa[BK _ _ _ ug]at this
       have q1:=AAF hjl;have q2:=AAF (show j<(unpack g.s.outs z).length by omega);have q3:=BJ v _ _ j _ _ q1 q2;rw[q3]at hj;injection hj with hj
       obtain⟨y',wN,hr⟩:=yA j _ _ q1 q2;rw[hzero _ (List.getElem_mem hjl)]at hr hj;refine⟨_,_,y',?_,wN,hr⟩;rw[←hj];generalize (unpack g.s.outs z)[j]=lv;obtain⟨l,x⟩:=lv;cases l<;>rfl)
      rw[←hl,ua]at *;rw[←vL];exact wK _ W' rfl tT
    ·exact hl.elim
   |false=>
   rw[xX]at hl;simp only[ABC,if_false]at hl
   obtain⟨tV,T,hl,l1,l3,l4,hn,wY⟩:=I7 h g.s.ps (c.args.toList.map s.Ap) (c.args.toList.map a.eval) (by simp) (fun i av u h1 h2=>by
    rw[AAX]at h1 h2;cases hx:c.args.toList[i]? with
    |none=>rw[hx]at h1;cases h1
    |some x=>
     rw[hx]at h1 h2;injection h1 with h1;injection h2 with h2
     subst h1;subst h2;exact BF h x) hl
   split at hl
   ·rename_i xp;split at hl
    ·exact hl.elim
    ·rename_i y hy;obtain⟨z,hz,hl⟩:=hl;cases vz:D4 d v g.s.rs (unpack g.s.outs z) 0 with
     |none=>simp only[vz]at hl;exact hl.elim
     |some bol=>
      obtain⟨bs,own,left⟩:=bol;simp only[vz]at hl;generalize ve:(if fresh g.s.Gw=true then some []else As cx s (Af g.s.ps (c.args.toList.map s.Ap)))=fso at hl;split at hl
      ·rename_i pw fs hpw;have hl:_=ws:=hl
       have hh:Handed s W g.s.ps (c.args.toList.map s.Ap) (c.args.toList.map a.eval) tV T:={
        l1:=l1
        l2:=by rw[←l1];simp
        l3:=l3
        l4:=l4
        nodup:=hn
        each:=wY
        apart:=fun r hr i p hT x hx e=>by
         have h1:=AAU.1 xp r hr;simp only[AAT]at h1;have h2:Fl (T.flatMap PT.EH) (r,none)=true:=AA6.2 ⟨x,AAI.2 ⟨p,AAN hT,hx⟩,by simp[Tg.Dg,e]⟩;rw[h1]at h2;cases h2 }
       obtain⟨yF,fn,cb,yb,yc,wG⟩:=uF.1.fns fid g hg;have uq:=yF (c.args.toList.map a.eval) W.w (Seen W (Af g.s.ps (c.args.toList.map s.Ap))) tV _ _ y z (uF.Ox h.sep fun k b hb=>let ⟨a,_,h2⟩:=Cc hh hb;⟨a,h2⟩) (F9 h hh) hy hz;rw[xX]at uq;intro next Q wK
       have tn:(execOp a.eval o).run P W.w=.ok (.enter fid (c.args.toList.map a.eval).toArray) W.w:=by
        have:(c.args.toList.map a.eval).toArray=c.args.map a.eval:=by rw[←ABI,Array.toArray_toList]
        rw[this]
        have wG : ¬ fn.name = "runtime.NumGoroutine" := by simpa using wG
        simp[execOp,ho,hb,resolve,invoke,hf,Deferred.ofValue,callFunc,yb,yc,wG]
       unfold Oper.wp;rw[tn,Oper.upon_enter];refine uq.mono ?_
       rintro en w' ⟨r,tW,uY,rv,vsR,vsP,rfl,co⟩
       obtain⟨W',vL,tT⟩:=My (cx:=cx) h hv (hd d ua) hh co ve vz hpw;rw[←hl,ua]at *;rw[←vL];exact wK _ W' rfl tT
      ·exact hl.elim
   ·exact hl.elim
 ·exact hl.elim
end
end Go.Ev
namespace Go.Ev
section
variable {P:Program}{E:Cw}{s:St}{W:Wd}{o:Oper}{a:Act}{ws:List Wr}{cx:Cx}{v:Nat}{tm:Array Value}
theorem MU(hc:Dr P cx)(uF:DL P E cx.env)(h:AW E s a.tmps W)(hv:Ad s v)(hd:∀d,o.dst=some d→d<a.tmps.size)(hl:(AB cx v o s).leads ws):Be P E o a W.w (s.app ws):=by
 cases ho:o.op with
 |move x=>
  cases hn:Hr (s.Ap x)with
  |true=>exact Kd h hv ho hn hd hl
  |false=>exact NK h ho hn hl
 |assign x=>exact LY h hv ho hd hl
 |pick x y z=>exact NL h ho hl
 |alloc t=>exact MO hc uF.1.OP h hv ho hd hl
 |box t x=>exact Ny hc h hv ho hd hl
 |build t ps=>exact MQ hc h ho hl
 |buildSlice t n ps=>exact IV hc h hv ho hd hl
 |load t x=>exact NJ hc h ho hl
 |store t x y=>exact MV hc uF.1.OP h hv ho hl
 |makeInterface t x=>exact GI hc h ho hl
 |makeFunc fn xs ys=>exact J9 h ho hl
 |nilCheck x=>exact KA h ho hl
 |binOp op tx x y ty=>exact MP hc h ho hl
 |unOp op tx x=>exact NM h ho hl
 |convert t1 t2 x=>exact Kb hc h ho hl
 |makeSlice t x y=>exact JN hc h hv ho hd hl
 |slice ti x lo hi m=>
  cases m with
  |none=>exact MT hc h ho hl
  |some m=>simp only[AB,ho]at hl;exact hl.elim
 |fieldAddr t x f=>exact JL hc h ho hl
 |field t x f=>exact MR hc h ho hl
 |indexAddr t x i=>exact JM hc h ho hl
 |index t x i=>exact MS hc h ho hl
 |extract x i=>exact Kc h ho hl
 |call c=>
  cases hb:c.callee with
  |builtin b=>
   cases b with
   |len=>exact Nz hc h ho hb hl
   |append=>exact LX hc h hv ho hb hd hl
   |min=>exact N1 h ho hb hl
   |max=>exact N0 h ho hb hl
   |_=>simp only[AB,ho,hb]at hl;exact hl.elim
  |value f=>exact NI uF h hv ho hb hd hl
  |invoke r n=>simp only[AB,ho,hb]at hl;exact hl.elim
 |_=>simp only[AB,ho]at hl;exact hl.elim
end
end Go.Ev
namespace Go.Ev
section
variable {s s':St}{cx:Cx}{v:Nat}{β:Type}
theorem Ak{r:Nat}(h:s'.root r=s.root r)(j:Nat):s'.leaf r j=s.leaf r j:=by unfold St.leaf;rw[h]
theorem Bd{c:Loc}(h:s'.root c.r=s.root c.r)(k:(t:TypeId)→(e:Ls)→List e.D→Nat→Step β):s'.content c k=s.content c k:=by unfold St.content;rw[Ak h]
def A3(s s':St)(rs:List Nat):Prop:=∀r∈rs,s'.root r=s.root r
theorem CB{l:L}{la:LA}(h:A3 s s' la.roots)(k:l.D→Step β):s'.Av l la k=s.Av l la k:=by
 cases la with
 |ref c=>exact Bd (h c.r (by simp[LA.roots])) _
 |EF c lo hi=>exact Bd (h c.r (by simp[LA.roots])) _
 |_=>rfl
theorem DP:∀ {ls:List L} {as:List LA} (h:A3 s s' (as.flatMap LA.roots)) (k:List Lv→Step β),s'.data ls as k=s.data ls as k
 | [],[],h,k=>rfl
 | [],_::_,h,k=>rfl
 |_::_,[],h,k=>rfl
 |l::ls,a::as,h,k=>by simp only[St.data];rw[CB fun r hr=>h r (by simp[hr])];congr 1;funext x;exact DP (fun r hr=>h r (by grind)) _
theorem J2{la:LA}(h:A3 s s' la.roots)(n:Nat)(k:List LA→Step β):s'.DE la n k=s.DE la n k:=by
 cases la with
 |ptr r j AA=>simp only[St.DE];rw[h r (by simp[LA.roots])]
 |Bn c=>
  simp only[St.DE];split
  ·rfl
  ·rename_i q i off hq;have hg:s'.Jv c.r c.j=s.Jv c.r c.j:=by unfold St.Jv;rw[Ak (h c.r (by simp[LA.roots]))]
   rw[hg];exact Bd (c:={ c with p:=q }) (h c.r (by simp[LA.roots])) _
 |_=>rfl
theorem Eo{a:AV}(h:A3 s s' a.roots):A3 s s' a.one?.roots:=by
 cases a with
 |Dp vs=>intro r hr;cases hr
 |bx as=>intro r hr;cases hr
 |v g as=>
  cases g with
  |true=>intro r hr;cases hr
  |false=>cases as with
   |nil=>intro r hr;cases hr
   |cons b bs=>cases bs with
    |nil=>intro r hr;exact h r (AAI.2 ⟨b,by simp,hr⟩)
    |cons=>intro r hr;cases hr
theorem LR{a:AV}(h:A3 s s' a.roots)(n:Nat)(k:List LA→Step β):s'.FR a n k=s.FR a n k:=by
 cases a with
 |bx as=>rfl
 |v g as=>exact J2 (Eo h) n k
 |Dp vs=>exact J2 (Eo h) n k
theorem Ks:∀ {as:List LA},A3 s s' (as.flatMap LA.roots)→MD s' as=MD s as
 | [],_=>rfl
 |a::as,h=>by
  unfold MD;simp only[List.any_cons];have ih:=Ks (as:=as) fun r hr=>h r (by grind);unfold MD at ih;rw[ih];congr 1;cases a with
  |ref c=>simp only;rw[h c.r (by simp[LA.roots])]
  |_=>rfl
theorem EP{la:LA}(h:A3 s s' la.roots):s'.alive la=s.alive la:=by
 cases la with
 |ptr r j AA=>simp only[St.alive];rw[h r (by simp[LA.roots])]
 |Bn c=>simp only[St.alive];rw[Ak (h c.r (by simp[LA.roots]))]
 |_=>rfl
theorem NR{la:LA}(h:A3 s s' la.roots):s'.sure la=s.sure la:=by
 cases la with
 |ptr r j AA=>simp only[St.sure];rw[h r (by simp[LA.roots])]
 |ref c=>simp only[St.sure];rw[Ak (h c.r (by simp[LA.roots]))]
 |EF c lo hi=>simp only[St.sure];rw[Ak (h c.r (by simp[LA.roots]))]
 |Bn c=>simp only[St.sure];exact EP h
 |_=>rfl
theorem K3{la:LA}(h:A3 s s' la.roots)(l:L)(k:LA→List (Nat×Nat)→Step β):s'.take cx v la l k=s.take cx v la l k:=by
 cases la with
 |ptr r j AA=>simp only[St.take];rw[h r (by simp[LA.roots])]
 |ref c=>simp only[St.take];rw[Ak (h c.r (by simp[LA.roots]))];simp only[Bd (h c.r (by simp[LA.roots]))]
 |EF c lo hi=>simp only[St.take];rw[Ak (h c.r (by simp[LA.roots]))]
 |_=>rfl
theorem Ei:∀ {ls:List L} {as:List LA} (h:A3 s s' (as.flatMap LA.roots)) (k:List LA→List (Nat×Nat)→Step β),s'.F1 cx v ls as k=s.F1 cx v ls as k
 | [],[],h,k=>rfl
 | [],_::_,h,k=>rfl
 |_::_,[],h,k=>rfl
 |l::ls,a::as,h,k=>by simp only[St.F1];rw[K3 fun r hr=>h r (by simp[hr])];congr 1;funext b us;exact Ei (fun r hr=>h r (by grind)) _
theorem Mh{c:Loc}(h:s'.root c.r=s.root c.r)(g:Nat)(vs:List Lv):s'.KE g c vs=s.KE g c vs:=by unfold St.KE;rw[Ak h]
theorem I0{la:LA}(h:A3 s s' la.roots){as:List LA}(h2:A3 s s' (as.flatMap LA.roots))(ls:List L)(k:List Wr→Step β):s'.GP cx v la ls as k=s.GP cx v la ls as k:=by
 cases la with
 |ptr r j AA=>simp only[St.GP];rw[h r (by simp[LA.roots]),Ei h2]
 |Bn c=>
  simp only[St.GP];have hh:s'.half c.r c.j=s.half c.r c.j:=by unfold St.half;rw[Ak (h c.r (by simp[LA.roots]))]
  have hs:s'.C4 v c ls as k=s.C4 v c ls as k:=by unfold St.C4;rw[Ak (h c.r (by simp[LA.roots]))];simp only[DP h2]
  rw[DP h2,Ei h2,Ak (h c.r (by simp[LA.roots])),hh,hs];congr 2;funext vs;rw[Mh (h c.r (by simp[LA.roots]))]
 |_=>rfl
theorem MB{la:LA}(h:A3 s s' la.roots)(k:Int→Step β):lenOf s' la k=lenOf s la k:=by
 cases la with
 |ref c=>exact Bd (h c.r (by simp[LA.roots])) _
 |EF c lo hi=>exact Bd (h c.r (by simp[LA.roots])) _
 |_=>rfl
theorem GG{la:LA}(h:A3 s s' la.roots)(t:TypeId)(e:Ls)(k:List e.D→List (Nat×Nat)→Step β):Ee cx s' la t e k=Ee cx s la t e k:=by
 unfold Ee;rw[CB h];cases la with
 |ref c=>simp only;rw[Ak (h c.r (by simp[LA.roots]))]
 |_=>rfl
theorem Jf{la lb:LA}(h:A3 s s' la.roots)(h2:A3 s s' lb.roots)(d v:Nat)(t:TypeId)(e:Ls)(k:List Wr→Step β):C7 cx s' d v t e la lb k=C7 cx s d v t e la lb k:=by
 cases la with
 |DJ=>simp only[C7];exact GG h2 _ _ _
 |ref c=>
  simp only[C7];rw[Ak (h c.r (by simp[LA.roots]))];cases s.leaf c.r c.j with
  |arr AA gen t' e' xs dd=>
   simp only;split
   ·split
    ·exact GG h2 _ _ _
    ·rfl
   ·rfl
  |_=>rfl
 |EF c lo hi=>
  simp only[C7];rw[Ak (h c.r (by simp[LA.roots]))];cases s.leaf c.r c.j with
  |arr AA gen t' e' xs dd=>
   simp only;split
   ·split
    ·exact GG h2 _ _ _
    ·rfl
   ·rfl
  |_=>rfl
 |_=>rfl
theorem I6{la lb:LA}(h:A3 s s' la.roots)(h2:A3 s s' lb.roots)(d v:Nat)(t:TypeId)(e:Ls)(k:List Wr→Step β):Ds cx s' d v t e la lb k=Ds cx s d v t e la lb k:=by
 unfold Ds;cases hn:nested la with
 |none=>
  have hh:Ea s' la=Ea s la:=by
   cases la with
   |ref c=>
    unfold Ea St.half;simp only[Ak (h c.r (by simp[LA.roots]))]
   |_=>rfl
  dsimp only;rw[hh];cases hq:Ea s la with
  |none=>exact Jf h h2 d v t e k
  |some c=>
   have hc:c.r∈la.roots:=by
    unfold Ea at hq;split at hq
    ·split at hq
     ·split at hq
      ·injection hq with hq;subst hq;simp[LA.roots]
      ·cases hq
     ·cases hq
    ·cases hq
   dsimp only;unfold D0;rw[Ak (h c.r hc)];simp only[CB h2]
 |some c=>
  have hc:c.r∈la.roots:=by
   unfold nested at hn;split at hn
   ·split at hn
    ·injection hn with hn;subst hn;simp[LA.roots]
    ·cases hn
   ·cases hn
  dsimp only;unfold D1;rw[Ak (h c.r hc)];simp only[Bd (h c.r hc),CB h2]
theorem Jo{fs:List (Nat×TypeId)}:∀ {ps:List (Nat×Operand)} (h:∀p∈ps,s'.Ap p.2=s.Ap p.2∧A3 s s' (s.Ap p.2).roots) (ls:List LA),Hj cx s' fs ps ls=Hj cx s fs ps ls
 | [],h,ls=>rfl
 |(i,x)::ps,h,ls=>by
  obtain⟨h1,h2⟩:=h (i,x) (by simp);dsimp only at h1 h2;simp only[Hj];rw[h1];generalize s.Ap x=p at h2;cases p with
  |Dp vs=>rfl
  |bx as=>rfl
  |v g as=>
   have:as.all s'.sure=as.all s.sure:=by rw[Bool.eq_iff_iff,AAU,AAU];refine forall_congr' fun b=>forall_congr' fun hb=>?_;rw[NR fun r hr=>h2 r (AAI.2 ⟨b,hb,hr⟩)]
   cases H2 fs i with
   |none=>rfl
   |some q=>
    obtain⟨off,t⟩:=q;dsimp only;cases cx.ty t with
    |none=>rfl
    |some tf=>
     dsimp only;rw[this];split
     ·exact Jo (fun p hp=>h p (AAJ _ hp)) _
     ·rfl
theorem He{e:Ls}:∀ {ps:List (Nat×Operand)} (h:∀p∈ps,s'.Ap p.2=s.Ap p.2∧A3 s s' (s.Ap p.2).roots) (n:Nat) (k:List e.D→List (Nat×Nat)→Step β),Cl cx s' v e ps n k=Cl cx s v e ps n k
 | [],h,n,k=>rfl
 |(i,x)::ps,h,n,k=>by
  obtain⟨h1,h2⟩:=h (i,x) (by simp);dsimp only at h1 h2;have ih:∀(n:Nat) (k:List e.D→List (Nat×Nat)→Step β),Cl cx s' v e ps n k=Cl cx s v e ps n k:=He fun p hp=>h p (AAJ _ hp);simp only[Cl];rw[h1];generalize s.Ap x=p at h2;cases p with
  |Dp vs=>rfl
  |bx as=>rfl
  |v g as=>
   have h2:A3 s s' (as.flatMap LA.roots):=h2;simp only[DP h2,Ei h2,ih]
theorem EG:∀ {as:List LA} {c:Loc},Cg as=some c→c.r∈as.flatMap LA.roots
 | [],c,h=>by cases h
 |a::as,c,h=>by
  rw[AAj];unfold Cg at h;split at h
  ·rename_i c' uW;injection h with h;subst h
   obtain⟨e1,_⟩:=FV uW;exact AAQ _ (by rw[e1];simp[LA.roots])
  ·exact AAO _ (EG h)
theorem LQ{e:Ls}{ps:List (Nat×Operand)}(h:∀p∈ps,s'.Ap p.2=s.Ap p.2∧A3 s s' (s.Ap p.2).roots):EB s' e ps=EB s e ps:=by
 unfold EB;split
 ·rfl
 ·split
  ·rename_i x;rw[(h (0,x) (by simp)).1]
  ·rfl
theorem I8{e:Ls}{ps:List (Nat×Operand)}(h:∀p∈ps,s'.Ap p.2=s.Ap p.2∧A3 s s' (s.Ap p.2).roots){x:Operand}{c:Loc}(hl:EB s e ps=some (x,c))(d v:Nat)(t:TypeId)(k:List Wr→Step β):
  C1 cx s' d v t e x c k=C1 cx s d v t e x c k:=by
 unfold EB at hl;split at hl
 ·cases hl
 ·split at hl
  ·rename_i x';split at hl
   ·rename_i g as xd;split at hl
    ·rename_i c' uW;injection hl with hl
     injection hl with e1 e2
     subst e1;subst e2;obtain⟨h1,h2⟩:=h (0,x') (by simp);dsimp only at h1 h2;rw[xd]at h2;have h2:A3 s s' (as.flatMap LA.roots):=h2;unfold C1;rw[h1,xd];dsimp only;rw[Ak (h2 c'.r (EG uW))];simp only[DP h2]
    ·cases hl
   ·cases hl
  ·cases hl
theorem Hb(r:Nat):∀(ls:List (L×Nat)) (as:List LA) (j:Nat),EW ls as=true→∀b∈Ay r j as,∀r'∈b.roots,r'=r
 | [],[],j,h,b,hb,r',hr=>by cases hb
 | [],_::_,j,h,b,hb,r',hr=>by cases h
 |_::_,[],j,h,b,hb,r',hr=>by cases h
 |(l,m)::ls,a::as,j,h,b,hb,r',hr=>by
  simp only[EW,AAG]at h;rcases AAZ.1 hb with hb|hb
  ·subst hb;cases a with
   |arr AA gen t e xs d=>simpa[seen,LA.roots]using hr
   |sc l x=>simp[seen,LA.roots]at hr
   |_=>simp at h
  ·exact Hb r ls as (j+1) h.2 b hb r' hr
theorem Le{la:LA}(h:A3 s s' la.roots)(l:L)(d:Nat)(k:Lv→List Tg→Step β):JU s' l d la k=JU s l d la k:=by
 cases l with
 |sl t e=>
  cases la with
  |ref c=>
   show(if(match s'.leaf c.r c.j with
    | .arr _ _ _ _ _ dd=>dd==d&&(isNil c.p||d==2)
    |_=>false)then s'.Av (.sl t e) (.ref c) _ else Step.none)=(if(match s.leaf c.r c.j with
    | .arr _ _ _ _ _ dd=>dd==d&&(isNil c.p||d==2)
    |_=>false)then s.Av (.sl t e) (.ref c) _ else Step.none)
   rw[Ak (h c.r (by simp[LA.roots])),CB h]
  |_=>rfl
 |int i=>exact CB h _
 |bool=>exact CB h _
 |str=>exact CB h _
theorem ID:∀ {ls:List (L×Nat)} {as:List LA} (h:A3 s s' (as.flatMap LA.roots)) (k:List Lv→List Tg→Step β),Ey s' ls as k=Ey s ls as k
 | [],[],h,k=>rfl
 | [],_::_,h,k=>rfl
 |_::_,[],h,k=>rfl
 |(l,d)::ls,a::as,h,k=>by simp only[Ey];rw[Le fun r hr=>h r (by simp[hr])];congr 1;funext x us;exact ID (fun r hr=>h r (by grind)) _
theorem Iw:∀ {ls:List (L×Nat)} {as:List LA} (h:A3 s s' (as.flatMap LA.roots)) (vs:List Lv),putRow s' v ls as vs=putRow s v ls as vs
 | [],[],h,vs=>rfl
 | [],_::_,h,vs=>by simp[putRow]
 |_::_,[],h,vs=>by simp[putRow]
 |_::_,_::_,h,[]=>by simp[putRow]
 |(l,d)::ls,a::as,h,x::vs=>by
  simp only[putRow];rw[Iw (fun r hr=>h r (by grind)) vs];cases a with
  |ref c=>
   have e:s'.leaf c.r c.j=s.leaf c.r c.j:=Ak (h c.r (by simp[LA.roots])) c.j;simp only[e]
  |_=>rfl
theorem GA:∀ {ps:List PM} {vs:List AV} (h:∀a∈vs,A3 s s' a.roots) (k:List Lv→List Tg→Step β),Am s' ps vs k=Am s ps vs k
 | [],[],h,k=>rfl
 | [],_::_,h,k=>by simp only[Am]
 |pm::ps,[],h,k=>by cases pm<;>simp only[Am]
 |pm::ps,a::vs,h,k=>by
  have ih:∀(k:List Lv→List Tg→Step β),Am s' ps vs k=Am s ps vs k:=GA fun a ha=>h a (AAJ _ ha);have ha:=h a (by simp);cases pm with
  |val g ls=>
   cases a with
   |Dp vs=>simp only[Am]
   |bx as=>simp only[Am]
   |v g' as=>
    simp only[Am];rw[DP (show A3 s s' (as.flatMap LA.roots)from ha)];grind
  |fn f=>
   unfold Am;grind
  |box ls=>
   unfold Am;split
   all_goals (try rename_i e1 e2;try cases e1;try cases e2;try rfl)
   rename_i r AA;have hr:s'.root r=s.root r:=ha r (by simp[AV.roots,LA.roots])
   ·rw[hr];by_cases hc:((s.root r).box&&(s.root r).AA==AA&&EW ls (s.root r).ls)=true
    ·rw[AAK hc,AAK hc];have yZ:EW ls (s.root r).ls=true:=by simp only[AAG]at hc;exact hc.2
     have hd:A3 s s' ((Ay r 0 (s.root r).ls).flatMap LA.roots):=fun r' uS=>by obtain⟨b,hb,th⟩:=AAI.1 uS;rw[Hb r ls _ 0 yZ b hb r' th];exact hr
     simp only[ih];exact DP hd _
    grind
   all_goals rfl
  |row g ls=>
   cases a with
   |Dp vs=>simp only[Am]
   |bx as=>simp only[Am]
   |v g' as=>
    simp only[Am];rw[ID (show A3 s s' (as.flatMap LA.roots)from ha)];grind
theorem Gl:∀ {ps:List PM} {uI:List AV} (h:∀a∈uI,A3 s s' a.roots) (vs:List Lv),AY s' v ps uI vs=AY s v ps uI vs
 | [],[],h,[]=>rfl
 | [],[],h,_::_=>rfl
 | [],_::_,h,vs=>by simp only[AY]
 |pm::ps,[],h,vs=>by cases pm<;>simp only[AY]
 |pm::ps,a::uI,h,vs=>by
  have ih:∀vs,AY s' v ps uI vs=AY s v ps uI vs:=Gl fun a ha=>h a (AAJ _ ha);have ha:=h a (by simp);cases pm with
  |val g ls=>simp only[AY,ih]
  |fn f=>simp only[AY,ih]
  |box ls=>
   unfold AY;grind
  |row g ls=>
   cases a with
   |Dp vs=>simp only[AY]
   |bx as=>simp only[AY]
   |v g' as=>
    simp only[AY];rw[Iw (show A3 s s' (as.flatMap LA.roots)from ha)];grind
theorem FI{not:Nat}:∀ {bs:List (List L)} {ps:List (Nat×Nat)} (h:∀p∈ps,s'.root p.1=s.root p.1) (k:List Lv→Step β),DN s' not bs ps k=DN s not bs ps k
 | [],[],h,k=>rfl
 | [],_::_,h,k=>rfl
 |_::_,[],h,k=>rfl
 |ls::bs,(r,AA)::ps,h,k=>by
  have hr:s'.root r=s.root r:=h (r,AA) (by simp);simp only[DN];rw[hr];split
  ·rename_i hc;simp only[AAG]at hc;have uZ:=hc.2
   have hsees:A3 s s' ((Ay r 0 (s.root r).ls).flatMap LA.roots):=fun r' uS=>by
    obtain⟨y,hy,wN⟩:=AAI.1 uS;obtain⟨i,hi⟩:=AAp hy;rw[Cy]at hi;cases hq:(s.root r).ls[i]? with
    |none=>grind
    |some y0=>
     rw[hq]at hi;injection hi with hi
     subst hi;have:=AAU.1 uZ y0 (AAN hq);cases y0 with
     |arr=>
      have:r'=r:=by simpa[seen,LA.roots]using wN
      grind
     |sc=>simp[seen,LA.roots]at wN
     |_=>cases this
   rw[DP hsees];congr 1;funext x;exact FI (fun p hp=>h p (AAJ _ hp)) _
  ·rfl
theorem D7{c:Loc}{qs:List (Nat×Nat)}(hq:∀p∈qs,s'.root p.1=s.root p.1):∀ {cs:List KL} {ps:List (Nat×Nat)} (h:∀p∈ps,s'.root p.1=s.root p.1) (k:List Lv→Step β),Bx s' c qs cs ps k=Bx s c qs cs ps k
 | [],[],h,k=>rfl
 | [],_::_,h,k=>rfl
 | .box _::_,[],h,k=>rfl
 | .EI _ _::_,[],h,k=>rfl
 | .row::_,[],h,k=>rfl
 | .box ls::cs,p::ps,h,k=>by simp only[Bx];rw[FI (fun q hq=>h q (by grind))];congr 1;funext x;exact D7 hq (fun p hp=>h p (AAJ _ hp)) _
 | .EI g bs::cs,(r,AA)::ps,h,k=>by
  have hr:s'.root r=s.root r:=h (r,AA) (by simp);simp only[Bx];rw[hr];split
  ·split
   ·rename_i hc;simp only[AAG]at hc;have uZ:=hc.2;rw[FI (fun p hp=>hq p (by grind))];congr 1;funext x;exact D7 hq (fun p hp=>h p (AAJ _ hp)) _
   ·rfl
  ·rfl
 | .row::cs,(r,AA)::ps,h,k=>by
  have hr:s'.root r=s.root r:=h (r,AA) (by simp);simp only[Bx];rw[hr];split
  ·exact D7 hq (fun p hp=>h p (AAJ _ hp)) _
  ·rfl
theorem KF{uI:List AV}(h:∀a∈uI,A3 s s' a.roots)(d:Nat)(f:FuncId)(k:List Wr→Step β):Dx cx s' d v f uI k=Dx cx s d v f uI k:=by
 unfold Dx;split
 ·rename_i t c g ps qs;have h1:=h (.v false [.JC t c]) (by simp);have h2:=h (.v false [.EI g ps qs]) (by simp);have hc:s'.root c.r=s.root c.r:=h1 c.r (by simp[AV.roots,LA.roots]);have wR:∀p∈ps,s'.root p.1=s.root p.1:=fun p hp=>h2 p.1 (AAI.2 ⟨.EI g ps qs,by simp,AAQ _ (AAs.2 ⟨p,hp,rfl⟩)⟩);have hqs:∀p∈qs,s'.root p.1=s.root p.1:=fun p hp=>h2 p.1 (AAI.2 ⟨.EI g ps qs,by simp,AAO _ (AAs.2 ⟨p,hp,rfl⟩)⟩);rw[Ak hc];simp only[D7 hqs wR]
 ·rfl
theorem Iv:∀ {vs:List AV} (h:∀a∈vs,A3 s s' a.roots),Di s' vs=Di s vs∧∀ps,Di s vs=some ps→behind s' ps=behind s ps
 | [],h=>⟨rfl,fun ps hp=>by simp only[Di,Option.some.injEq]at hp;subst hp;rfl⟩
 |a::vs,h=>by
  obtain⟨ih1,ih2⟩:=Iv (vs:=vs) fun b hb=>h b (AAJ _ hb);have ha:=h a (by simp);unfold Di;split
  ·rename_i e;exact absurd e (by simp)
  ·rename_i r AA wb e;injection e with e1 e2
   subst e1;subst e2;have hr:s'.root r=s.root r:=ha r (by simp[AV.roots,LA.roots]);rw[hr,ih1];refine⟨rfl,fun ps hp=>?_⟩;split at hp
   ·split at hp
    ·rename_i zB zS;injection hp with hp
     subst hp;simp only[behind];rw[hr,ih2 zB zS]
    ·cases hp
   ·cases hp
  grind
theorem Ll{t:TypeId}{q:LA}{p:AV}{dst:Option Tmp}(h:A3 s s' q.roots):II cx s' t q p dst=II cx s t q p dst:=by
 unfold II;split
 ·split
  ·split
   ·rename_i r j AA;rw[h r (by simp[LA.roots])]
   ·rfl
  ·rfl
 ·rfl
theorem FP:∀ {rs:List Nat} (h:A3 s s' rs),As cx s' rs=As cx s rs
 | [],h=>rfl
 |r::rs,h=>by
  have hr:=h r (by simp)
  have hw:DB s' r=DB s r:=by
   unfold DB;have:s'.B8 r=s.B8 r:=by unfold St.B8;rw[hr]
   rw[this,hr]
  simp only[As];rw[FP (fun r hr=>h r (AAJ _ hr)),hw]
theorem F5:∀(ps:List PM)(uI:List AV)(r:Nat),r∈Af ps uI→∃a∈uI,r∈a.roots
 | [],_,r,h=>by simp[Af]at h
 |pm::_,[],r,h=>by cases pm<;>simp[Af]at h
 |pm::ps,a::uI,r,h=>by
  have ih:=F5 ps uI r;have sub:r∈Af ps uI→∃b∈a::uI,r∈b.roots:=fun h=>let ⟨b,hb,hr⟩:=ih h;⟨b,AAJ _ hb,hr⟩
  cases pm with
  |val g ls=>
   rcases AAy.1 (show r∈a.roots++Af ps uI from h)with h|h
   all_goals grind
  |_=>exact sub h
theorem M3{uI:List AV}(h:∀a∈uI,A3 s s' a.roots)(d:Nat)(f:FuncId)(k:List Wr→Step β):call cx s' d v f uI k=call cx s d v f uI k:=by
 unfold call;cases cx.env.fn f with
 |none=>exact KF h d f k
 |some g=>
  dsimp only;cases g.s.mk? with
  |true=>simp only[if_true];rw[GA h]
  |false=>
  simp only[ABC,if_false];rw[GA h];have h2:∀vs,AY s' v g.s.ps uI vs=AY s v g.s.ps uI vs:=Gl h;have h3:As cx s' (Af g.s.ps uI)=As cx s (Af g.s.ps uI):=FP fun r hr=>let ⟨a,ha,uS⟩:=F5 _ _ r hr;h a ha r uS
  grind
def Wr.JE:Wr→Bool
 | .leaf _ _ _=>true
 |_=>false
theorem ER(s:St)(r j:Nat)(a:LA)(r':Nat):(s.AF (.leaf r j a)).root r'=if r=r' then { s.root r with ls:=Cb (s.root r).ls j a }else s.root r':=by
 show nth dead (Cb s.ro r _) r'=_;rw[Ax];by_cases h:r=r'
 ·subst h;by_cases hl:r<s.ro.length
  ·grind
  ·rw[AAM (fun hh=>hl hh.2),AAK rfl];have:s.root r=dead:=Az _ (AA1 hl);show s.root r=_;rw[this];rfl
 ·rw[AAM (fun hh=>h hh.1),AAM h];rfl
theorem A3.app{rs:List Nat}(h:A3 s s' rs):∀ {fs:List Wr},(∀w∈fs,w.JE=true)→A3 (s.app fs) (s'.app fs) rs:=by
 intro fs hf r hr
 have key:∀(fs:List Wr)(s s':St),(∀w∈fs,w.JE=true)→s'.root r=s.root r→(s'.app fs).root r=(s.app fs).root r:=by
  intro fs
  induction fs with
  |nil=>intro s s' _ h;exact h
  |cons w fs ih=>
   intro s s' hf h;have hw:=hf w AAe;refine ih _ _ (fun x hx=>hf x (AAJ _ hx)) ?_;cases w with
   |leaf r0 j a=>
    rw[ER,ER];grind
   |slot t a=>cases hw
   |root r x=>cases hw
   |half r j v=>cases hw
 exact key fs s s' hf (h r hr)
theorem Fs:∀(r j:Nat)(ls:List LA),∀w∈BA r j ls,w.JE=true
 |_,_,[],w,hw=>by cases hw
 |r,j,a::as,w,hw=>by
  rcases AAZ.1 hw with e|hw
  ·subst e;rfl
  ·exact Fs r (j+1) as w hw
theorem Fi:∀ {rs:List Nat} {fs:List Wr},As cx s rs=some fs→∀w∈fs,w.JE=true
 | [],fs,h,w,hw=>by injection h with h;grind
 |r::rs,fs,h,w,hw=>by
  simp only[As]at h;split at h
  ·cases h
  ·split at h
   ·rename_i vk wx;injection h with h;subst h
    rcases AAy.1 hw with hw|hw
    ·unfold DB at hw;split at hw
     ·cases hw
     ·exact Fs r 0 _ w hw
    ·exact Fi wx w hw
   ·cases h
theorem Ew:∀ {as:List LA} {r:Nat},r∈Hx as→r∈as.flatMap LA.roots
 | [],r,h=>by cases h
 |a::as,r,h=>by
  rw[AAj];refine AAy.2 ?_;cases a with
  |ref c=>
   simp only[Hx]at h;split at h
   ·exact .inr (Ew h)
   ·rcases AAZ.1 h with e|h
    ·subst e;exact .inl (by simp[LA.roots])
    ·exact .inr (Ew h)
  |_=>exact .inr (Ew (by simpa[Hx]using h))
theorem LV{q:LA}{as:List LA}{r:Nat}(h:r∈MM q as):r∈as.flatMap LA.roots:=by
 cases q with
 |ptr=>exact Ew h
 |_=>cases h
def LA.norm:LA→LA
 | .arr AA _ t e xs (_+1)=>.arr AA 0 t e xs 1
 |a=>a
def Bp.norm(x:Bp):Bp:={ x with ls:=x.ls.map LA.norm }
def NV(m:Nat)(s s':St):Prop:=(∀t,m.testBit (2*t)=true→s'.slot t=s.slot t)∧(∀r,m.testBit (4*r+1)=true→m.testBit (4*r+3)=true→s'.root r=s.root r)∧∀r,m.testBit (4*r+1)=true→(s'.root r).norm=(s.root r).norm
end
end Go.Ev
namespace Go.Ev
section
variable {s s':St}{cx:Cx}{v:Nat}{β:Type}
def GU(s s':St)(x:Operand):Prop:=s'.Ap x=s.Ap x∧A3 s s' (s.Ap x).roots
theorem GU.one{x:Operand}(h:GU s s' x):s'.Ah x=s.Ah x∧A3 s s' (s.Ah x).roots:=by
 refine⟨by unfold St.Ah;rw[h.1],fun r hr=>h.2 r ?_⟩;unfold St.Ah at hr;cases hq:s.Ap x with
 |Dp vs=>rw[hq]at hr;cases hr
 |bx as=>rw[hq]at hr;cases hr
 |v g as=>
  rw[hq]at hr;cases g with
  |true=>cases hr
  |false=>cases as with
   |nil=>cases hr
   |cons b bs=>cases bs with
    |nil=>exact AAI.2 ⟨b,by simp,hr⟩
    |cons=>cases hr
theorem En{x:Option Operand}(h:∀y,x=some y→GU s s' y)(d:Int)(k:Int→Step β):De s' x d k=De s x d k:=by
 cases x with
 |none=>rfl
 |some y=>simp only[De];rw[(h y rfl).one.1]
theorem LJ{o:Oper}{c:Call}(ho:o.op=.call c)(uL:∀x∈c.args.toList,GU s s' x)(yF:∀f,c.callee=.value f→GU s s' f):AB cx v o s'=AB cx v o s:=by
 cases hb:c.callee with
 |builtin b=>
  cases b with
  |len=>
   simp only[AB,ho,hb];split
   ·rename_i x t hx ht;have hx:=(uL x (by rw[hx];simp)).one;simp only[hx.1,MB hx.2]
   ·rfl
  |append=>
   simp only[AB,ho,hb];split
   ·rename_i x y t1 t2 ty d hx _ _ _;have v8:=(uL x (by rw[hx];simp)).one;have zt:=(uL y (by rw[hx];simp)).one;simp only[v8.1,zt.1,I6 v8.2 zt.2]
   ·rfl
  |min=>
   simp only[AB,ho,hb];split
   ·rename_i x y hx;have v8:=(uL x (by rw[hx];simp)).one;have zt:=(uL y (by rw[hx];simp)).one;grind
   ·rfl
  |max=>
   simp only[AB,ho,hb];split
   ·rename_i x y hx;have v8:=(uL x (by rw[hx];simp)).one;have zt:=(uL y (by rw[hx];simp)).one;grind
   ·rfl
  |_=>simp only[AB,ho,hb]
 |value f=>
  have hf:=(yF f hb).one;have yI:c.args.toList.map s'.Ap=c.args.toList.map s.Ap:=List.map_congr_left fun x hx=>(uL x hx).1
  have uc:∀a∈c.args.toList.map s.Ap,A3 s s' a.roots:=fun a ha=>by obtain⟨x,hx,rfl⟩:=AAs.1 ha;exact(uL x hx).2
  simp only[AB,ho,hb];rw[hf.1,yI];simp only[M3 uc]
 |invoke r n=>simp only[AB,ho,hb]
theorem H3{o:Oper}(h:∀x∈o.op.operands.toList,GU s s' x):AB cx v o s'=AB cx v o s:=by
 by_cases uq:∃c,o.op=.call c
 ·obtain⟨c,ho⟩:=uq;exact LJ ho (fun x hx=>h x (by rw[ho];simp[Op.operands,Call.operands];grind)) fun f hb=>h f (by rw[ho];simp[Op.operands,Call.operands,hb])
 unfold AB;cases ho:o.op with
 |move x=>
  have hx:=h x (by rw[ho];simp[Op.operands]);simp only[hx.1]
 |assign x=>
  have hx:=(h x (by rw[ho];simp[Op.operands])).one;simp only[hx.1];cases o.dst with
  |none=>rfl
  |some d=>
   have vh:=hx.2;generalize s.Ah x=p at vh;cases p<;>first|rfl|simp only[K3 vh]
 |pick x y z=>
  have hx:=(h x (by rw[ho];simp[Op.operands])).one;have hy:=h y (by rw[ho];simp[Op.operands]);have hz:=h z (by rw[ho];simp[Op.operands]);simp only[hx.1,hy.1,hz.1]
 |alloc t=>rfl
 |box t x=>
  have hx:=h x (by rw[ho];simp[Op.operands]);simp only[hx.1];have vh:=hx.2;generalize s.Ap x=p at vh;cases cx.ty t with
  |none=>rfl
  |some ty=>cases o.dst with
   |none=>rfl
   |some d=>cases p with
    |Dp vs=>rfl
    |bx as=>rfl
    |v g as=>
     simp only[Ks (show A3 s s' (as.flatMap LA.roots)from vh),Ei (show A3 s s' (as.flatMap LA.roots)from vh)]
 |build t ps=>
  have hp:∀p∈ps.toList,s'.Ap p.2=s.Ap p.2∧A3 s s' (s.Ap p.2).roots:=fun p hp=>h p.2 (by rw[ho];simp only[Op.operands,List.toList_toArray];grind);simp only[Jo hp]
 |buildSlice t n ps=>
  have hp:∀p∈ps.toList,s'.Ap p.2=s.Ap p.2∧A3 s s' (s.Ap p.2).roots:=fun p hp=>h p.2 (by rw[ho];simp only[Op.operands,List.toList_toArray];grind);simp only[He hp,LQ hp];cases cx.ty t with
  |none=>rfl
  |some ty=>cases o.dst with
   |none=>rfl
   |some d=>
    dsimp only;split
    ·rfl
    ·cases ty.ls with
     |one l=>cases l with
      |sl t' e=>
       dsimp only;split
       ·cases hq:EB s e ps.toList with
        |none=>rfl
        |some q=>exact I8 hp hq _ _ _ _
       ·rfl
      |_=>rfl
     |_=>rfl
 |load t x=>
  have hx:=h x (by rw[ho];simp[Op.operands]);simp only[hx.1,LR hx.2]
 |store t x y=>
  have hx:=(h x (by rw[ho];simp[Op.operands])).one;have hy:=h y (by rw[ho];simp[Op.operands]);simp only[hx.1,hy.1];have zu:=hy.2;generalize s.Ap y=p at zu;cases cx.ty t with
  |none=>
   have vh:=hx.2;generalize s.Ah x=q at vh;exact Ll vh
  |some ty=>cases p with
   |Dp vs=>rfl
   |bx as=>rfl
   |v g as=>
    have zu:A3 s s' (as.flatMap LA.roots):=zu;dsimp only;cases hn:MM (s.Ah x) as with
    |nil=>simp only[GO,I0 hx.2 zu]
    |cons r rs=>
     have uX:A3 s s' (r::rs):=fun r' uS=>zu r' (by rw[←hn]at uS;exact LV uS);simp only[FP uX];cases hf:As cx s (r::rs)with
     |none=>rfl
     |some fs=>
      have yj:=Fi hf;simp only[GO,I0 (hx.2.app yj) (zu.app yj)]
 |makeInterface t x=>
  have hx:=(h x (by rw[ho];simp[Op.operands])).one;grind
 |makeFunc fn xs ys=>
  cases fn with
  |func g=>
   have yI:ys.toList.map s'.Ap=ys.toList.map s.Ap:=List.map_congr_left fun y hy=>(h y (by rw[ho];simp[Op.operands];exact .inr (by simpa using hy))).1
   have uc:∀a∈ys.toList.map s.Ap,A3 s s' a.roots:=fun a ha=>by
    obtain⟨y,hy,rfl⟩:=AAs.1 ha;exact(h y (by rw[ho];simp[Op.operands];exact .inr (by simpa using hy))).2
   obtain⟨e1,e2⟩:=Iv uc;grind
  |_=>rfl
 |nilCheck x=>
  have hx:=h x (by rw[ho];simp[Op.operands]);simp only[hx.1];have vh:=hx.2;generalize s.Ap x=p at vh;cases p with
  |bx as=>rfl
  |v g as=>simp only[EP (Eo vh)]
  |Dp vs=>simp only[EP (Eo vh)]
 |binOp op tx x y ty=>
  have hx:=h x (by rw[ho];simp[Op.operands]);have hy:=h y (by rw[ho];simp[Op.operands]);simp only[hx.1,hy.1]
 |unOp op tx x=>
  have hx:=(h x (by rw[ho];simp[Op.operands])).one;grind
 |convert t1 t2 x=>
  have hx:=(h x (by rw[ho];simp[Op.operands])).one;simp only[hx.1];have vh:=hx.2;generalize s.Ah x=p at vh;cases cx.ty t1 with
  |none=>rfl
  |some ta=>cases cx.ty t2 with
   |none=>rfl
   |some ty=>cases p with
    |sc l z=>cases l<;>first|rfl|(simp only[CB vh])
    |_=>simp only[CB vh]
 |makeSlice t x y=>
  have hx:=(h x (by rw[ho];simp[Op.operands])).one;have hy:=(h y (by rw[ho];simp[Op.operands])).one;simp only[hx.1,hy.1]
 |slice ti x lo hi m=>
  have hx:=(h x (by rw[ho];simp[Op.operands])).one;have vS:∀y,lo=some y→GU s s' y:=fun y e=>h y (by rw[ho,e];simp[Op.operands]);have xL:∀y,hi=some y→GU s s' y:=fun y e=>h y (by rw[ho,e];simp[Op.operands]);cases m with
  |some m=>rfl
  |none=>
   simp only[hx.1];have vh:=hx.2;generalize s.Ah x=p at vh;cases p with
   |sc l b=>cases l<;>simp only[En vS,En xL]
   |ref c=>simp only[En vS,En xL,Bd (vh c.r (by simp[LA.roots]))]
   |_=>rfl
 |fieldAddr t x f=>
  have hx:=h x (by rw[ho];simp[Op.operands]);simp only[hx.1];have vh:=hx.2;generalize s.Ap x=p at vh;cases p with
  |bx as=>rfl
  |v g as=>simp only[EP (Eo vh)]
  |Dp vs=>simp only[EP (Eo vh)]
 |field t x f=>
  have hx:=h x (by rw[ho];simp[Op.operands]);simp only[hx.1]
 |indexAddr ti x i=>
  have hx:=(h x (by rw[ho];simp[Op.operands])).one;have hi:=(h i (by rw[ho];simp[Op.operands])).one;simp only[hx.1,hi.1];have vh:=hx.2;generalize s.Ah x=p at vh;cases p with
  |ref c=>simp only[Bd (vh c.r (by simp[LA.roots]))]
  |EF c lo hi=>simp only[Bd (vh c.r (by simp[LA.roots]))]
  |sc l b=>grind
  |_=>rfl
 |index ti x i=>
  have hx:=(h x (by rw[ho];simp[Op.operands])).one;have hi:=(h i (by rw[ho];simp[Op.operands])).one;grind
 |extract x i=>
  have hx:=h x (by rw[ho];simp[Op.operands]);simp only[hx.1]
 |call c=>grind
 |_=>rfl
theorem AK(a b i:Nat):(Nat.lor a b).testBit i=(a.testBit i||b.testBit i):=Nat.testBit_or a b i
theorem CT(n i:Nat):(2 ^ n).testBit i=decide (n=i):=Nat.testBit_two_pow
theorem Gx(r i:Nat):(JQ r).testBit i=decide (4*r+1=i):=CT _ _
theorem Eb(r i:Nat):(Jw r).testBit i=decide (4*r+3=i):=CT _ _
theorem G0(a:AV)(r:Nat)(h:r∈a.roots):a.mask.testBit (4*r+1)=true∧a.mask.testBit (4*r+3)=true:=by
 unfold AV.mask
 revert h
 generalize a.roots=rs;intro h
 induction rs with
 |nil=>cases h
 |cons x rs ih=>
  rw[List.foldr_cons,AK,AK,AK,AK,Gx,Eb,Gx,Eb];grind
theorem Ih(s:St):∀(xs:List Operand)(m0:Nat)(x:Operand),x∈xs→(∀t,x=.tmp t→(xs.foldr (fun x m=>match x with
  | .tmp t=>Nat.lor (2 ^ (2*t)) (Nat.lor (s.slot t).mask m)
  |_=>m) m0).testBit (2*t)=true∧∀r∈(s.slot t).roots,(xs.foldr (fun x m=>match x with
  | .tmp t=>Nat.lor (2 ^ (2*t)) (Nat.lor (s.slot t).mask m)
  |_=>m) m0).testBit (4*r+1)=true∧(xs.foldr (fun x m=>match x with
  | .tmp t=>Nat.lor (2 ^ (2*t)) (Nat.lor (s.slot t).mask m)
  |_=>m) m0).testBit (4*r+3)=true)
 | [],m0,x,h,t,e=>by cases h
 |y::xs,m0,x,h,t,e=>by
  rw[List.foldr_cons];rcases AAZ.1 h with h|h
  ·subst h;subst e;dsimp only;refine⟨by rw[AK,CT];simp,fun r hr=>⟨by rw[AK,AK,(G0 _ r hr).1];simp,by rw[AK,AK,(G0 _ r hr).2];simp⟩⟩
  ·obtain⟨h1,h2⟩:=Ih s xs m0 x h t e;cases y with
   |tmp u=>
    dsimp only;exact⟨by rw[AK,AK,h1];simp,fun r hr=>⟨by rw[AK,AK,(h2 r hr).1];simp,by rw[AK,AK,(h2 r hr).2];simp⟩⟩
   |_=>grind
theorem Hl(s:St)(i:Nat):∀(xs:List Operand)(m0:Nat),m0.testBit i=true→(xs.foldr (fun x m=>match x with
  | .tmp t=>Nat.lor (2 ^ (2*t)) (Nat.lor (s.slot t).mask m)
  |_=>m) m0).testBit i=true
 | [],m0,h=>h
 |y::xs,m0,h=>by
  rw[List.foldr_cons];have:=Hl s i xs m0 h;cases y with
  |tmp u=>dsimp only;rw[AK,AK,this];simp
  |_=>exact this
theorem Jl(x:Operand)(h:∀t,x≠.tmp t):s'.Ap x=s.Ap x∧(s.Ap x).roots=[]:=by
 have hv:∀v,(ofConst v).roots=[]:=fun v=>by
  cases v with
  |slice A n c=>
   cases A with
   |none=>cases n with
    |zero=>cases c<;>rfl
    |succ n=>rfl
   |some a=>rfl
  |pointer A=>cases A<;>rfl
  |_=>rfl
 cases x with
 |tmp t=>grind
 |const c=>
  cases c with
  |agg cs=>
   refine⟨rfl,?_⟩;show(cs.toList.map ofConst).flatMap LA.roots=[];rw[List.flatMap_map];simp only[hv,DQ]
  |bool b=>exact⟨rfl,by simp[St.Ap,AV.roots,hv]⟩
  |int k n=>exact⟨rfl,by simp[St.Ap,AV.roots,hv]⟩
  |float k n=>exact⟨rfl,by simp[St.Ap,AV.roots,hv]⟩
  |complex k x y=>exact⟨rfl,by simp[St.Ap,AV.roots,hv]⟩
  |string b=>exact⟨rfl,by simp[St.Ap,AV.roots,hv]⟩
  |pointer b=>exact⟨rfl,by simp[St.Ap,AV.roots,hv]⟩
  |slice b n c=>exact⟨rfl,by simp[St.Ap,AV.roots,hv]⟩
  |map r=>exact⟨rfl,by simp[St.Ap,AV.roots,hv]⟩
  |chan r=>exact⟨rfl,by simp[St.Ap,AV.roots,hv]⟩
  |func f x y=>exact⟨rfl,by simp[St.Ap,AV.roots,hv]⟩
  |nilFunc=>exact⟨rfl,by simp[St.Ap,AV.roots,hv]⟩
  |iface t x=>exact⟨rfl,by simp[St.Ap,AV.roots,hv]⟩
  |nilIface=>exact⟨rfl,by simp[St.Ap,AV.roots,hv]⟩
  |tuple vs=>exact⟨rfl,by simp[St.Ap,AV.roots,hv]⟩
 |global g=>exact⟨rfl,rfl⟩
 |func f=>exact⟨rfl,rfl⟩
theorem Kj(r j:Nat):∀ {a b:LA},a.norm=b.norm→IG r j a=IG r j b:=by
 have key:∀a:LA,IG r j a=IG r j a.norm:=fun a=>by
  cases a with
  |arr AA gen t e xs d=>cases d<;>rfl
  |_=>rfl
 grind
theorem Eg(r:Nat):∀(j:Nat) {as bs:List LA},as.map LA.norm=bs.map LA.norm→BO r j as=BO r j bs
 |j,[],[],_=>rfl
 |j,[],b::bs,h=>by cases h
 |j,a::as,[],h=>by cases h
 |j,a::as,b::bs,h=>by simp only[ABK,List.cons.injEq]at h;simp only[BO,Kj r j h.1,Eg r (j+1) h.2]
theorem KX{r j AA n:Nat}{β:Type}{k:List LA→Step β}(h:(s'.root r).norm=(s.root r).norm):s'.DE (.ptr r j AA) n k=s.DE (.ptr r j AA) n k:=by
 have h1:(s'.root r).box=(s.root r).box:=by have:=congrArg Bp.box h;exact this
 have h2:(s'.root r).AA=(s.root r).AA:=by have:=congrArg Bp.AA h;exact this
 have h3:(s'.root r).ls.map LA.norm=(s.root r).ls.map LA.norm:=by have:=congrArg Bp.ls h;exact this
 have h4:(s'.root r).ls.length=(s.root r).ls.length:=by have:=congrArg List.length h3;simpa using this
 have h5:BO r j (((s'.root r).ls.drop j).take n)=BO r j (((s.root r).ls.drop j).take n):=Eg r j (by rw[List.map_take,List.map_take,List.map_drop,List.map_drop,h3]);simp only[St.DE,h1,h2,h4,h5]
theorem M7{ops:Array Oper}{o:Oper}(h:NV (A6 ops o s) s s'):AB cx v o s'=AB cx v o s∧∀j want t,o.guard=some (j,want)→(ops[j]?).bind (·.dst)=some t→s'.slot t=s.slot t:=by
 have wh:∀j want t,o.guard=some (j,want)→(ops[j]?).bind (·.dst)=some t→(BX ops o).testBit (2*t)=true:=by intro j want t hg ht;unfold BX;rw[hg];dsimp only;rw[ht];dsimp only;rw[CT];simp
 by_cases hm:∃t,o.op=.move (.tmp t)∨(∃i,o.op=.extract (.tmp t) i)∨∃T f,o.op=.field T (.tmp t) f
 ·obtain⟨t,ho⟩:=hm;have zU:A6 ops o s=Nat.lor (2 ^ (2*t)) (BX ops o):=by rcases ho with ho|⟨i,ho⟩|⟨T,f,ho⟩<;>(unfold A6;rw[ho])
  rw[zU]at h;have h1:s'.slot t=s.slot t:=h.1 t (by rw[AK,CT];simp);refine⟨?_,fun j want u hg ht=>h.1 u (by rw[AK,wh j want u hg ht];simp)⟩;have h2:s'.Ap (.tmp t)=s.Ap (.tmp t):=h1;unfold AB;rcases ho with ho|⟨i,ho⟩|⟨T,f,ho⟩<;>(rw[ho];grind)
 by_cases hp:∃t g r j AA,(∃T,o.op=.load T (.tmp t)∨∃f,o.op=.fieldAddr T (.tmp t) f)∧s.slot t=.v g [.ptr r j AA]
 ·obtain⟨t,g,r,j,AA,⟨T,ho⟩,hs⟩:=hp;have zU:A6 ops o s=Nat.lor (2 ^ (2*t)) (Nat.lor (JQ r) (BX ops o)):=by rcases ho with ho|⟨f,ho⟩<;>(unfold A6;grind)
  rw[zU]at h;have h1:s'.slot t=s.slot t:=h.1 t (by rw[AK,CT];simp);have h2:(s'.root r).norm=(s.root r).norm:=h.2.2 r (by rw[AK,AK,Gx];simp);refine⟨?_,fun j want u hg ht=>h.1 u (by rw[AK,AK,wh j want u hg ht];simp)⟩;have h3:s.Ap (.tmp t)=.v g [.ptr r j AA]:=hs;have h4:s'.Ap (.tmp t)=.v g [.ptr r j AA]:=h1.trans hs
  have ha:s'.alive (AV.one? (.v g [.ptr r j AA]))=s.alive (AV.one? (.v g [.ptr r j AA])):=by
   cases g with
   |true=>rfl
   |false=>
    have h5:(s'.root r).box=(s.root r).box:=by have:=congrArg Bp.box h2;exact this
    have h6:(s'.root r).AA=(s.root r).AA:=by have:=congrArg Bp.AA h2;exact this
    show((s'.root r).box&&(s'.root r).AA==AA)=((s.root r).box&&(s.root r).AA==AA);rw[h5,h6]
  have hl:∀n (k:List LA→Step (List Wr)),s'.FR (.v g [.ptr r j AA]) n k=s.FR (.v g [.ptr r j AA]) n k:=fun n k=>by
   show s'.DE (AV.one? (.v g [.ptr r j AA])) n k=s.DE (AV.one? (.v g [.ptr r j AA])) n k;cases g with
   |true=>rfl
   |false=>exact KX h2
  unfold AB;rcases ho with ho|⟨f,ho⟩
  ·rw[ho];grind
  ·rw[ho];simp only[h3,h4,ha]
 by_cases hq:∃t T,o.op=.load T (.tmp t)∨∃f,o.op=.fieldAddr T (.tmp t) f
 ·obtain⟨t,T,ho⟩:=hq
  have zU:A6 ops o s=Nat.lor (2 ^ (2*t)) (Nat.lor (s.slot t).mask (BX ops o)):=by
   have xN:∀g r j AA,s.slot t≠.v g [.ptr r j AA]:=fun g r j AA hs=>hp ⟨t,g,r,j,AA,⟨T,ho⟩,hs⟩;rcases ho with ho|⟨f,ho⟩
   ·unfold A6;grind
   ·unfold A6;grind
  rw[zU]at h;have h1:s'.slot t=s.slot t:=h.1 t (by rw[AK,CT];simp);refine⟨H3 fun x hx=>?_,fun j want u hg ht=>h.1 u (by rw[AK,AK,wh j want u hg ht];simp)⟩
  have hx:x=.tmp t:=by
   rcases ho with ho|⟨f,ho⟩
   ·rw[ho]at hx;simpa[Op.operands]using hx
   ·rw[ho]at hx;simpa[Op.operands]using hx
  subst hx;exact⟨h1,fun r hr=>h.2.1 r (by rw[AK,AK,(G0 (s.slot t) r hr).1];simp) (by rw[AK,AK,(G0 (s.slot t) r hr).2];simp)⟩
 have zU:A6 ops o s=o.op.operands.toList.foldr (fun x m=>match x with
  | .tmp t=>Nat.lor (2 ^ (2*t)) (Nat.lor (s.slot t).mask m)
  |_=>m) (BX ops o):=by
  unfold A6;split
  ·grind
  ·grind
  ·grind
  ·grind
  ·grind
  ·rfl
 rw[zU]at h;refine⟨H3 fun x hx=>?_,fun j want t hg ht=>?_⟩
 ·by_cases hq:∃t,x=.tmp t
  ·obtain⟨t,rfl⟩:=hq;obtain⟨h1,h2⟩:=Ih s o.op.operands.toList _ (.tmp t) hx t rfl;exact⟨h.1 t h1,fun r hr=>h.2.1 r (h2 r hr).1 (h2 r hr).2⟩
  ·obtain⟨h1,h2⟩:=Jl (s:=s) (s':=s') x fun t e=>hq ⟨t,e⟩;exact⟨h1,fun r hr=>by grind⟩
 ·exact h.1 t (Hl s _ _ _ (wh j want t hg ht))
end
end Go.Ev
namespace Go.Ev
def CJ(m n:Nat):Prop:=∀i,m.testBit i=true→n.testBit i=false
theorem HN{m n:Nat}(h:(Nat.land m n==0)=true):CJ m n:=by
 intro i hi;have h0:m &&& n=0:=by simpa using h
 have:=congrArg (fun x=>x.testBit i) h0;simp only[Nat.testBit_and,Nat.zero_testBit,hi,Bool.true_and]at this;exact this
theorem CJ.symm{m n:Nat}(h:CJ m n):CJ n m:=fun i hi=>by
 cases hm:m.testBit i with
 |false=>rfl
 |true=>rw[h i hm]at hi;cases hi
theorem B9(s:St)(w:Wr):(s.AF w).sl.length=s.sl.length∧(s.AF w).ro.length=s.ro.length:=by
 cases w<;>exact⟨by simp[St.AF,Ca],by simp[St.AF,Ca]⟩
theorem CG:∀(ws:List Wr)(s:St),(s.app ws).sl.length=s.sl.length∧(s.app ws).ro.length=s.ro.length
 | [],s=>⟨rfl,rfl⟩
 |w::ws,s=>by obtain⟨h1,h2⟩:=CG ws (s.AF w);obtain⟨h3,h4⟩:=B9 s w;exact⟨h1.trans h3,h2.trans h4⟩
theorem I5:∀(ws:List Wr)(s:St),(s.app ws).Bq=s.Bq
 | [],s=>rfl
 |w::ws,s=>(I5 ws (s.AF w)).trans (by cases w<;>rfl)
theorem OZ(t r:Nat):(JQ r).testBit (2*t)=false∧(Jw r).testBit (2*t)=false:=by
 rw[Gx,Eb];exact⟨by rw[AAf];omega,by rw[AAf];omega⟩
theorem HP{s:St}{w:Wr}{t:Nat}(h:w.mask.testBit (2*t)=false):(s.AF w).slot t=s.slot t:=by
 cases w with
 |slot u a=>
  simp only[Wr.mask,CT,AAf]at h;rw[BS,AAM (fun hh=>h (by rw[hh.1]))]
 |root r x=>rfl
 |leaf r j a=>rfl
 |half r j v=>rfl
theorem Bf{s:St}{w:Wr}{r:Nat}(h:w.mask.testBit (4*r+3)=false):(s.AF w).root r=s.root r:=by
 cases w with
 |slot u a=>rfl
 |root q x=>
  simp only[Wr.mask,AK,Gx,Eb,AAh,AAf]at h;rw[Au,AAM (fun hh=>h.2 (by rw[hh.1]))]
 |leaf q j a=>
  simp only[Wr.mask,AK,Gx,Eb,AAh,AAf]at h;show nth dead (Cb s.ro q _) r=_;rw[Ax,AAM (fun hh=>h.2 (by rw[hh.1]))];rfl
 |half q j v=>
  simp only[Wr.mask,Eb,AAf]at h;show nth dead (Cb s.ro q _) r=_;rw[Ax,AAM (fun hh=>h (by rw[hh.1]))];rfl
theorem BT(w:Wr)(ws:List Wr)(i:Nat):(AE (w::ws)).testBit i=(w.mask.testBit i||(AE ws).testBit i):=AK _ _ _
theorem Dd{t:Nat}:∀ {ws:List Wr} {s:St},(AE ws).testBit (2*t)=false→(s.app ws).slot t=s.slot t
 | [],s,h=>rfl
 |w::ws,s,h=>by rw[BT,AAh]at h;exact(Dd h.2).trans (HP h.1)
theorem Dc{r:Nat}:∀ {ws:List Wr} {s:St},(AE ws).testBit (4*r+3)=false→(s.app ws).root r=s.root r
 | [],s,h=>rfl
 |w::ws,s,h=>by rw[BT,AAh]at h;exact(Dc h.2).trans (Bf h.1)
theorem E8{t:Nat}:∀ {ws:List Wr} {s s':St},s'.sl.length=s.sl.length→s'.slot t=s.slot t→(s'.app ws).slot t=(s.app ws).slot t
 | [],s,s',hl,h=>h
 |w::ws,s,s',hl,h=>by
  show((s'.AF w).app ws).slot t=((s.AF w).app ws).slot t;refine E8 ((B9 s' w).1.trans (hl.trans (B9 s w).1.symm)) ?_;cases w with
  |slot u a=>rw[BS,BS,hl,h]
  |root r x=>exact h
  |leaf r j a=>exact h
  |half r j v=>exact h
theorem E7{r:Nat}:∀ {ws:List Wr} {s s':St},s'.ro.length=s.ro.length→s'.root r=s.root r→(s'.app ws).root r=(s.app ws).root r
 | [],s,s',hl,h=>h
 |w::ws,s,s',hl,h=>by
  show((s'.AF w).app ws).root r=((s.AF w).app ws).root r;refine E7 ((B9 s' w).2.trans (hl.trans (B9 s w).2.symm)) ?_;cases w with
  |slot u a=>exact h
  |root q x=>rw[Au,Au,hl,h]
  |leaf q j a=>
   show nth dead (Cb s'.ro q _) r=nth dead (Cb s.ro q _) r;rw[Ax,Ax,hl];split
   ·rename_i hq;obtain⟨rfl,_⟩:=hq;rw[h]
   ·exact h
  |half q j v=>
   show nth dead (Cb s'.ro q _) r=nth dead (Cb s.ro q _) r;rw[Ax,Ax,hl];split
   ·rename_i hq;obtain⟨rfl,_⟩:=hq;unfold St.leaf;rw[h]
   ·exact h
theorem F3{α:Type}(l:List α){n m:Nat}(h:n≠m)(x y:α):Cb (Cb l n x) m y=Cb (Cb l m y) n x:=by rw[Bl,Bl,Bl,Bl];exact List.set_comm _ _ h
theorem BY{s:St}{r j v:Nat}:(s.AF (.half r j v))=s.AF (.leaf r j ((s.leaf r j).Cj v)):=rfl
theorem LD{s:St}{w w':Wr}(h:CJ w.mask w'.mask):(s.AF w).AF w'=(s.AF w').AF w:=by
 have key:∀ {n m:Nat},CJ (2 ^ n) (2 ^ m)→n≠m:=by intro n m h e;have:=h n (by rw[CT];simp);rw[CT,e]at this;simp at this
 have hh:∀ {r q:Nat} {a b:Nat},a.testBit (4*r+3)=true→b.testBit (4*q+3)=true→CJ a b→r≠q:=by intro r q a b ha hb zF e;have:=zF (4*r+3) ha;rw[e,hb]at this;cases this
 have full:∀r,(Nat.lor (JQ r) (Jw r)).testBit (4*r+3)=true:=fun r=>by rw[AK,Eb];simp
 have alone:∀r,(Jw r).testBit (4*r+3)=true:=fun r=>by rw[Eb];simp
 have ll:∀ {s:St} {r j q k:Nat} {a b:LA},r≠q→(s.AF (.leaf r j a)).AF (.leaf q k b)=(s.AF (.leaf q k b)).AF (.leaf r j a):=by intro s r j q k a b tj;have e1:(s.AF (.leaf r j a)).root q=s.root q:=Bf (by simp only[Wr.mask,AK,Gx,Eb,AAh,AAf];omega);have e2:(s.AF (.leaf q k b)).root r=s.root r:=Bf (by simp only[Wr.mask,AK,Gx,Eb,AAh,AAf];omega);simp only[St.AF]at e1 e2 ⊢;rw[e1,e2,F3 _ tj]
 have rl:∀ {s:St} {r q j:Nat} {x:Bp} {b:LA},r≠q→(s.AF (.root r x)).AF (.leaf q j b)=(s.AF (.leaf q j b)).AF (.root r x):=by
  intro s r q j x b tj;have e1:(s.AF (.root r x)).root q=s.root q:=by rw[Au,AAM (fun hh=>tj hh.1)]
  simp only[St.AF]at e1 ⊢;rw[e1,F3 _ tj]
 have lq:∀ {s:St} {r q j k:Nat} {a:LA},r≠q→(s.AF (.leaf r j a)).leaf q k=s.leaf q k:=by
  intro s r q j k a tj;unfold St.leaf;rw[Bf (by simp only[Wr.mask,AK,Gx,Eb,AAh,AAf];omega)]
 have rq:∀ {s:St} {r q k:Nat} {x:Bp},r≠q→(s.AF (.root r x)).leaf q k=s.leaf q k:=by intro s r q k x tj;unfold St.leaf;rw[Au,AAM (fun hh=>tj hh.1)]
 cases w with
 |slot t a=>cases w' with
  |slot u b=>
   have tj:t≠u:=fun e=>key h (by rw[e]);simp only[St.AF];rw[F3 _ tj]
  |root r x=>rfl
  |leaf r j b=>rfl
  |half r j v=>rfl
 |root r x=>cases w' with
  |slot u b=>rfl
  |root q y=>
   have tj:r≠q:=hh (full r) (full q) h;simp only[St.AF];rw[F3 _ tj]
  |leaf q j b=>exact rl (hh (full r) (full q) h)
  |half q j v=>
   have tj:r≠q:=hh (full r) (alone q) h;rw[BY,BY,rq tj,rl tj]
 |leaf r j a=>cases w' with
  |slot u b=>rfl
  |root q y=>exact(rl (hh (full r) (full q) h).symm).symm
  |leaf q k b=>exact ll (hh (full r) (full q) h)
  |half q k v=>
   have tj:r≠q:=hh (full r) (alone q) h;rw[BY,BY,lq tj,ll tj]
 |half r j v=>cases w' with
  |slot u b=>rfl
  |root q y=>
   have tj:r≠q:=hh (alone r) (full q) h;rw[BY,BY,rq tj.symm,rl tj.symm]
  |leaf q k b=>
   have tj:r≠q:=hh (alone r) (full q) h;rw[BY,BY,lq tj.symm,ll tj]
  |half q k u=>
   have tj:r≠q:=hh (alone r) (alone q) h;rw[BY,BY (s:=s) (r:=q),BY,BY,lq tj,lq tj.symm,ll tj]
theorem E5{w:Wr}:∀ {ws:List Wr} {s:St},CJ w.mask (AE ws)→(s.AF w).app ws=(s.app ws).AF w
 | [],s,h=>rfl
 |w'::ws,s,h=>by
  have h1:CJ w.mask w'.mask:=fun i hi=>by have:=h i hi;rw[BT,AAh]at this;exact this.1
  have h2:CJ w.mask (AE ws):=fun i hi=>by have:=h i hi;rw[BT,AAh]at this;exact this.2
  show((s.AF w).AF w').app ws=_;rw[LD h1,E5 h2];rfl
theorem Je{vk:List Wr}:∀ {ws:List Wr} {s:St},CJ (AE ws) (AE vk)→(s.app ws).app vk=(s.app vk).app ws
 | [],s,h=>rfl
 |w::ws,s,h=>by have h1:CJ w.mask (AE vk):=fun i hi=>h i (by rw[BT,hi];rfl);have h2:CJ (AE ws) (AE vk):=fun i hi=>h i (by rw[BT,hi];simp);show((s.AF w).app ws).app vk=_;rw[Je h2,E5 h1];rfl
def BV(s:St)(p:Nat→Prop):Prop:=(∀t,∀n∈(s.slot t).AG,p n)∧∀r,∀n∈(s.root r).AG,p n
theorem BV.mono{s:St}{p q:Nat→Prop}(h:BV s p)(hq:∀n,p n→q n):BV s q:=⟨fun t n hn=>hq n (h.1 t n hn),fun r n hn=>hq n (h.2 r n hn)⟩
theorem BV.zero{s:St}{p:Nat→Prop}(h:BV s p):p 0:=by refine h.2 s.ro.length 0 ?_;have:s.root s.ro.length=dead:=Az _ (AAd _);rw[this];exact AAe
theorem BV.AF{s:St}{p:Nat→Prop}(h:BV s p){w:Wr}(hw:∀n∈w.AG,p n):BV (s.AF w) p:=by
 cases w with
 |slot u a=>
  refine⟨fun t n hn=>?_,h.2⟩;rw[BS]at hn;split at hn
  ·exact hw n hn
  ·exact h.1 t n hn
 |root q x=>
  refine⟨h.1,fun r n hn=>?_⟩;rw[Au]at hn;split at hn
  ·exact hw n hn
  ·exact h.2 r n hn
 |leaf q j a=>
  refine⟨h.1,fun r n hn=>?_⟩;have uK:(s.AF (.leaf q j a)).root r=if q=r∧q<s.ro.length then { s.root q with ls:=Cb (s.root q).ls j a }else s.root r:=Ax _ _ _ _ _
  rw[uK]at hn;split at hn
  ·rcases AAZ.1 hn with hn|hn
   ·subst hn;exact h.2 q _ AAe
   ·obtain⟨b,hb,xB⟩:=AAI.1 hn;have hb:b∈Cb (s.root q).ls j a:=hb;rw[Bl]at hb;rcases ABA hb with hb|hb
    ·exact h.2 q n (AAJ _ (AAI.2 ⟨b,hb,xB⟩))
    ·rw[hb]at xB;exact hw n xB
  ·exact h.2 r n hn
 |half q j v=>
  refine⟨h.1,fun r n hn=>?_⟩;have uK:(s.AF (.half q j v)).root r=if q=r∧q<s.ro.length then { s.root q with ls:=Cb (s.root q).ls j ((s.leaf q j).Cj v) }else s.root r:=Ax _ _ _ _ _
  rw[uK]at hn;split at hn
  ·rcases AAZ.1 hn with hn|hn
   ·subst hn;exact h.2 q _ AAe
   ·obtain⟨b,hb,xB⟩:=AAI.1 hn;have hb:b∈Cb (s.root q).ls j ((s.leaf q j).Cj v):=hb;by_cases hj:j<(s.root q).ls.length
    ·rw[Bl]at hb;rcases ABA hb with hb|hb
     ·exact h.2 q n (AAJ _ (AAI.2 ⟨b,hb,xB⟩))
     ·have tS:n∈(s.leaf q j).AG∨n=v:=by
       rw[hb]at xB;cases hl:s.leaf q j with
       |arr AA gen t e xs d=>
        rw[hl]at xB;cases d with
        |zero=>exact .inl xB
        |succ d=>
         simp only[LA.Cj,LA.AG,AAZ,List.not_mem_nil,or_false]at xB ⊢;rcases xB with h|h
         ·exact .inl (.inl h)
         ·exact .inr h
       |_=>rw[hl]at xB;exact .inl xB
      rcases tS with tS|tS
      ·exact h.2 q n (AAJ _ (AAI.2 ⟨_,G8 hj,tS⟩))
      ·exact hw n (by rw[tS];exact AAe)
    ·rw[Bl,List.set_eq_of_length_le (by omega)]at hb;exact h.2 q n (AAJ _ (AAI.2 ⟨b,hb,xB⟩))
  ·exact h.2 r n hn
theorem BV.app{p:Nat→Prop}:∀ {ws:List Wr} {s:St},BV s p→(∀w∈ws,∀n∈w.AG,p n)→BV (s.app ws) p
 | [],s,h,hw=>h
 |w::ws,s,h,hw=>BV.app (ws:=ws) (s:=s.AF w) (h.AF (hw w (by simp))) fun x hx=>hw x (AAJ _ hx)
theorem BV.Hz{s:St}{p:Nat→Prop}(h:BV s p){v:Nat}(hv:¬p v)(h1:1<v):Ad s v:=by
 refine⟨fun t tS=>hv (h.1 t v tS),fun r j=>.inr fun tS=>?_,h1⟩;by_cases hj:j<(s.root r).ls.length
 ·exact hv (h.2 r v (AAJ _ (AAI.2 ⟨_,G8 hj,tS⟩)))
 ·have:s.leaf r j=.bad:=Az _ (AA1 hj);rw[this]at tS;cases tS
def Bw(ops:Array Oper)(o:Oper)(s:St)(b:Bool):Prop:=match o.guard with
 |none=>b=true
 |some (j,want)=>∃t,(ops[j]?).bind (·.dst)=some t∧((s.slot t=.v false [.undef]∧b=false)∨∃c:Bool,s.slot t=.v false [.sc .bool c]∧b=(c==want))
def K7(cx:Cx)(g:Rg)(bs:List Nat)(i:Nat)(o:Oper)(s:St)(ws:List Wr):Prop:=
 (Bw g.ops o s true∧(AB cx (g.v0+i) o s).leads ws∧JK cx o.dst g.v0 (g.v0+i) (nth 0 bs i) ws=true)∨(Bw g.ops o s false∧ws=Cv o.dst)
def Trace(cx:Cx)(g:Rg)(bs:List Nat):Nat→List Oper→List (Nat×Nat)→St→List (Nat×List Wr)→Prop
 |_,[],_,_,[]=>True
 |i,o::r,lg,s,(rm,ws)::tr=>rm=A6 g.ops o s∧(g.draw=true→indep (nth 0 bs i) rm (AE ws) 0 lg=true)∧K7 cx g bs i o s ws∧Trace cx g bs (i+1) r (lg++[(rm,AE ws)]) (s.app ws) tr
 |_,_,_,_,_=>False
def AL(A:Nat→Bool):Nat→List (Nat×List Wr)→St→St
 |_,[],s=>s
 |i,x::tr,s=>AL A (i+1) tr (bif A i then s.app x.2 else s)
theorem K5{α:Type}(d:α):∀(l:List α)(n:Nat),Cb l n (nth d l n)=l
 | [],n=>rfl
 |x::xs,0=>rfl
 |x::xs,n+1=>by simp[Cb,nth,K5 d xs n]
theorem CS{s:St}{t:Nat}{a:AV}(h:s.slot t=a):s.AF (.slot t a)=s:=by subst h;show { s with sl:=Cb s.sl t (s.slot t) }=s;have:Cb s.sl t (s.slot t)=s.sl:=K5 _ _ _;rw[this]
theorem EZ{R:Type}{cx:Cx}{g:Rg}{bs:List Nat}{k:St→Option R}{x:R}:∀(r:List Oper)(i:Nat) (lg:List (Nat×Nat)) (s:St),EY cx g (number i r) bs lg s k=some x→
  ∃tr,Trace cx g bs i r lg s tr∧tr.length=r.length∧k (AL (fun _=>true) i tr s)=some x
 | [],i,lg,s,h=>⟨[],trivial,rfl,h⟩
 |o::r,i,lg,s,h=>by
  simp only[number,EY]at h
  have exec:Bw g.ops o s true→((AB cx (g.v0+i) o s).run fun ws=>
    if JK cx o.dst g.v0 (g.v0+i) (nth 0 bs i) ws&&(!g.draw||indep (nth 0 bs i) (A6 g.ops o s) (AE ws) 0 lg)then EY cx g (number (i+1) r) bs (lg++[(A6 g.ops o s,AE ws)]) (s.app ws) k else none)=some x→
    ∃tr,Trace cx g bs i (o::r) lg s tr∧tr.length=(o::r).length∧k (AL (fun _=>true) i tr s)=some x:=by
   intro hg h;obtain⟨ws,hl,h⟩:=Step.C3 _ h;split at h
   ·rename_i hc;simp only[AAG,AAa,AAT]at hc;obtain⟨tr,h1,h2,h3⟩:=EZ r (i+1) _ _ h;exact⟨(_,ws)::tr,⟨rfl,fun hd=>hc.2.resolve_left (by simp[hd]),.inl ⟨hg,hl,hc.1⟩,h1⟩,by simp[h2],h3⟩
   ·cases h
  have skip:Bw g.ops o s false→(if(!g.draw||indep (nth 0 bs i) (A6 g.ops o s) (AE (Cv o.dst)) 0 lg)=true then EY cx g (number (i+1) r) bs (lg++[(A6 g.ops o s,AE (Cv o.dst))]) (s.app (Cv o.dst)) k else none)=some x→
    ∃tr,Trace cx g bs i (o::r) lg s tr∧tr.length=(o::r).length∧k (AL (fun _=>true) i tr s)=some x:=by
   intro hg h;split at h
   ·rename_i hc;simp only[AAa,AAT]at hc;obtain⟨tr,h1,h2,h3⟩:=EZ r (i+1) _ _ h;exact⟨(_,Cv o.dst)::tr,⟨rfl,fun hd=>hc.resolve_left (by simp[hd]),.inr ⟨hg,rfl⟩,h1⟩,by simp[h2],h3⟩
   ·cases h
  cases hgd:o.guard with
  |none=>
   rw[hgd]at h;exact exec (by unfold Bw;rw[hgd]) h
  |some p=>
   obtain⟨j,want⟩:=p;rw[hgd]at h;dsimp only at h;cases ht:(g.ops[j]?).bind (·.dst)with
   |none=>rw[ht]at h;cases h
   |some t=>
    rw[ht]at h;dsimp only at h;have gd:∀(c:Bool),s.slot t=.v false [.sc .bool c]→Bw g.ops o s (c==want):=fun c hc=>by unfold Bw;rw[hgd];exact⟨t,ht,.inr ⟨c,hc,rfl⟩⟩
    split at h
    ·rename_i hs;exact skip (by unfold Bw;rw[hgd];exact⟨t,ht,.inl ⟨hs,rfl⟩⟩) h
    ·rename_i c hs;cases want with
     |true=>
      dsimp only at h;cases c with
      |true=>
       have tU:s.AF (.slot t (IQ true))=s:=CS hs;rw[tU]at h;exact exec (gd true hs) h
      |false=>
       have tU:s.AF (.slot t (IQ false))=s:=CS hs;rw[tU]at h;exact skip (gd false hs) h
     |false=>
      dsimp only at h;cases c with
      |true=>
       have tU:s.AF (.slot t (IQ true))=s:=CS hs;rw[tU]at h;exact skip (gd true hs) h
      |false=>
       have tU:s.AF (.slot t (IQ false))=s:=CS hs;rw[tU]at h;exact exec (gd false hs) h
    ·cases h
end Go.Ev
namespace Go.Ev
theorem HW:∀(os:List Oper)(acc:List Nat)(i:Nat),i<acc.length→nth 0 (E0 os acc) i=nth 0 acc i
 | [],acc,i,h=>rfl
 |o::os,acc,i,h=>by
  simp only[E0];rw[HW os _ i (by simp;omega),Ae,Ae,AAu h]
theorem Hk(acc:List Nat)(j:Nat):∀(es:List Edge),(es.foldr (fun e m=>if Region.binds .any e then Nat.lor (2 ^ e.on) (Nat.lor (nth 0 acc e.on) m)else m) 0).testBit j=true→∃e∈es,Region.binds .any e=true∧(e.on=j∨(nth 0 acc e.on).testBit j=true)
 | [],h=>by simp at h
 |e::es,h=>by
  rw[List.foldr_cons]at h;split at h
  ·rename_i hb;rw[AK,AK,CT]at h;simp only[AAa,AAb]at h;rcases h with h|h|h
   ·exact⟨e,by simp,hb,.inl h⟩
   ·exact⟨e,by simp,hb,.inr h⟩
   ·obtain⟨e',h1,h2⟩:=Hk acc j es h;exact⟨e',AAJ _ h1,h2⟩
  ·obtain⟨e',h1,h2⟩:=Hk acc j es h;exact⟨e',AAJ _ h1,h2⟩
theorem HV(j:Nat):∀(os:List Oper)(acc:List Nat)(k:Nat)(o:Oper),os[k]?=some o→(nth 0 (E0 os acc) (acc.length+k)).testBit j=true→∃e∈o.after.toList,Region.binds .any e=true∧(e.on=j∨(nth 0 (E0 os acc) e.on).testBit j=true)
 | [],acc,k,o,h,hb=>by simp at h
 |x::os,acc,k,o,h,hb=>by
  simp only[E0]at hb ⊢;cases k with
  |zero=>
   simp at h;subst h;rw[AAr,HW os _ acc.length (by simp),Ae,AA3 (AAd _)]at hb;simp only[Nat.sub_self,List.getElem?_cons_zero,AA0]at hb;obtain⟨e,h1,h2,h3⟩:=Hk acc j _ hb;refine⟨e,h1,h2,h3.imp id fun h3=>?_⟩;by_cases tX:e.on<acc.length
   ·rw[HW os _ e.on (by simp;omega),Ae,AAu tX,←Ae];exact h3
   ·rw[Az 0 (AA1 tX)]at h3;simp at h3
  |succ k=>
   refine HV j os _ k o (by simpa using h) ?_;rw[AA2,List.length_singleton,show acc.length+1+k=acc.length+(k+1) by omega];exact hb
theorem Co:∀(os:List Oper)(i:Nat),D8 i os=true→∀(k:Nat)(o:Oper),os[k]?=some o→∀e∈o.after.toList,Region.binds .any e=true→e.on<i+k
 | [],i,h,k,o,ho=>by simp at ho
 |x::os,i,h,k,o,ho=>by
  simp only[D8,AAG]at h;cases k with
  |zero=>
   simp at ho;subst ho;intro e he hb;have:=AAU.1 h.1 e he;simpa[hb]using this
  |succ k=>
   intro e he hb;have:=Co os (i+1) h.2 k o (by simpa using ho) e he hb;omega
theorem HZ{ops:Array Oper}(hE:D8 0 ops.toList=true){A:Nat→Prop}(hA:∀i o,A i→ops[i]?=some o→∀e∈o.after.toList,Region.binds .any e=true→A e.on)(hn:∀i,A i→i<ops.size):
  ∀(i:Nat),A i→∀j,(nth 0 (E0 ops.toList []) i).testBit j=true→A j:=by
 intro i
 induction i using Nat.strongRecOn with
 |_ i ih=>
  intro hi j hj;have tX:=hn i hi;have ho:ops.toList[i]?=some ops[i]:=by simp[tX]
  obtain⟨e,h1,h2,h3⟩:=HV j ops.toList [] i ops[i] ho (by simpa using hj);have hon:=Co ops.toList 0 hE i ops[i] ho e h1 h2;have hAe:=hA i ops[i] hi (by simp[tX]) e h1 h2;rcases h3 with h3|h3
  ·rw[←h3];exact hAe
  ·exact ih e.on (by omega) hAe j h3
theorem Iz{ops:Array Oper}(hE:D8 0 ops.toList=true){A:Nat→Prop}(hA:∀i o,A i→ops[i]?=some o→∀e∈o.after.toList,Region.binds .any e=true→A e.on)(hn:∀i,A i→i<ops.size)
  {i:Nat} {o:Oper} (ho:ops[i]?=some o) (hi:∀e∈o.after.toList,Region.binds .any e=true→A e.on) (j:Nat) (hj:(nth 0 (E0 ops.toList []) i).testBit j=true):A j:=by
 have vZ:ops.toList[i]?=some o:=by simpa using ho
 obtain⟨e,h1,h2,h3⟩:=HV j ops.toList [] i o vZ (by simpa using hj);rcases h3 with h3|h3
 ·rw[←h3];exact hi e h1 h2
 ·exact HZ hE hA hn e.on (hi e h1 h2) j h3
section
variable {P:Program}{E:Cw}{s:St}{W:Wd}{a:Act}{cx:Cx}{g:Rg}{bs:List Nat}{Q:Exit→Act→World→Prop}
theorem I2{tm:Array Value}(h:AW E s tm W){ops:Array Oper}{o:Oper}{b:Bool}(hg:Bw ops o s b):Region.wanted o (yielded ops tm)=b:=by
 unfold Bw at hg;unfold Region.wanted;cases hq:o.guard with
 |none=>rw[hq]at hg;exact hg.symm
 |some p=>
  obtain⟨j,want⟩:=p;rw[hq]at hg;dsimp only at hg ⊢;obtain⟨t,ht,hs⟩:=hg;have vr:=h.AP t;unfold yielded;rw[ht];dsimp only[Option.bind_some];rcases hs with⟨hs,rfl⟩|⟨c,hs,rfl⟩
  ·rw[hs]at vr;have vr:tm.getD t Go.undef=Go.undef:=vr;cases hx:tm[t]? with
   |none=>rfl
   |some x=>
    have:x=Go.undef:=by rw[←vr];simp[AAg,hx]
    subst this;rfl
  ·rw[hs]at vr;have vr:tm.getD t Go.undef=.bool c:=vr.1;cases hx:tm[t]? with
   |none=>rw[AAg,hx]at vr;cases vr
   |some x=>
    have:x=.bool c:=by rw[←vr];simp[AAg,hx]
    subst this;cases c<;>cases want<;>rfl
theorem Kr(hc:Dr P cx)(uF:DL P E cx.env)(h:AW E s a.tmps W){i:Nat}{o:Oper}{ws:List Wr}(hv:Ad s (g.v0+i))(hd:∀d,o.dst=some d→d<a.tmps.size)(vD:K7 cx g bs i o s ws)
  {K:Act→World→Prop} (hK:∀a' W',a'.defers=a.defers→AW E (s.app ws) a'.tmps W'→K a' W'.w) (ho:g.ops[i]?=some o):wpOp P g.ops Q i K a W.w:=by
 unfold wpOp;rw[ho];dsimp only;rcases vD with⟨hg,hl,_⟩|⟨hg,rfl⟩
 ·rw[I2 h hg,AAK rfl];exact .inl (MU hc uF h hv hd hl K Q fun a' W' h1 h2=>hK a' W' h1 h2)
 ·rw[I2 h hg,AAM (by simp)];cases ua:o.dst with
  |none=>exact hK a W rfl (by simp only[Cv,ua];exact h)
  |some d=>
   refine hK _ W rfl ?_;simp only[Cv,ua];exact h.slot d (show Ba s W (one .undef) Go.undef from rfl)
def pA(v0:Nat)(A:Nat→Prop)(n:Nat):Prop:=n<v0∨∃j,A j∧n=v0+j
theorem Ia{i:Nat}{o:Oper}{ws:List Wr}(vD:K7 cx g bs i o s ws){A:Nat→Prop}(hA:∀j,(nth 0 bs i).testBit j=true→A j):∀w∈ws,∀n∈w.AG,pA g.v0 (fun j=>A j∨j=i) n:=by
 intro w hw n hn;rcases vD with⟨_,_,uU⟩|⟨_,rfl⟩
 ·have h1:=AAU.1 uU w hw;rw[AAG]at h1;have h2:=AAU.1 h1.2 n hn;simp only[AAa,AAb,AAS,AAG]at h2;rcases h2 with(h2|h2)|⟨h2,h3⟩
  ·exact .inl h2
  ·exact .inr ⟨i,.inr rfl,h2⟩
  ·exact .inr ⟨n-g.v0,.inl (hA _ h3),by omega⟩
 ·cases ua:o.dst with
  |none=>rw[ua]at hw;cases hw
  |some d=>
   rw[ua]at hw;have:w=.slot d (one .undef):=by simpa[Cv]using hw
   subst this;simp[Wr.AG,one,AV.AG,LA.AG]at hn
theorem Mg(hc:Dr P cx)(uF:DL P E cx.env)(h1:1<g.v0)(hb:∀i j,i<g.ops.size→(nth 0 bs i).testBit j=true→j<i):∀(r:List Oper)(i:Nat) (lg:List (Nat×Nat)) (s:St) (tr:List (Nat×List Wr)) (a:Act) (W:Wd),Trace cx g bs i r lg s tr→
  (∀(k:Nat)(o:Oper),r[k]?=some o→g.ops[i+k]?=some o)→AW E s a.tmps W→BV s (pA g.v0 (· < i))→(∀o∈r,∀d,o.dst=some d→d<s.sl.length)→
  (∀a' W',a'.defers=a.defers→AW E (AL (fun _=>true) i tr s) a'.tmps W'→BV (AL (fun _=>true) i tr s) (pA g.v0 (· < i+r.length))→Q .normal a' W'.w)→wpOps P g.ops Q (List.range' i r.length) a W.w
 | [],i,lg,s,[],a,W,ht,hr,tT,tc,hd,hK=>hK a W rfl tT tc
 | [],i,lg,s,_::_,a,W,ht,hr,tT,tc,hd,hK=>ht.elim
 |_::_,i,lg,s,[],a,W,ht,hr,tT,tc,hd,hK=>ht.elim
 |o::r,i,lg,s,(rm,ws)::tr,a,W,ht,hr,tT,tc,hd,hK=>by
  obtain⟨zU,_,vD,ht⟩:=ht;have ho:g.ops[i]?=some o:=by have:=hr 0 o rfl;simpa using this
  have tX:i<g.ops.size:=(AAt.1 ho).1;rw[ABG,List.range'_succ,wpOps_cons];have hnv:Ad s (g.v0+i):=tc.Hz (by rintro (hh|⟨j,hj,e⟩)<;>omega) (by omega);refine Kr hc uF tT hnv (fun d ua=>by rw[←tT.DH];exact hd o (by simp) d ua) vD (fun a' W' hdef zn=>?_) ho;refine Mg hc uF h1 hb r (i+1) _ _ tr a' W' ht (fun k o hk=>by rw[show i+1+k=i+(k+1) by omega];exact hr (k+1) o (by simpa using hk)) zn ?_ ?_ ?_
  ·refine(tc.mono ?_).app (fun w hw n hn=>?_)
   ·rintro n (hn|⟨j,hj,e⟩)
    ·exact .inl hn
    ·exact .inr ⟨j,by omega,e⟩
   ·rcases Ia vD (A:=(· < i)) (fun j hj=>hb i j tX hj) w hw n hn with hn|⟨j,hj,e⟩
    ·exact .inl hn
    ·exact .inr ⟨j,by omega,e⟩
  ·intro o' vZ d ua;rw[(CG ws s).1];exact hd o' (AAJ _ vZ) d ua
  ·intro a2 W2 hdef2 yr hver2;refine hK a2 W2 (hdef2.trans hdef) yr (hver2.mono ?_)
   rintro n (hn|⟨j,hj,e⟩)
   ·exact .inl hn
   ·exact .inr ⟨j,by simp;omega,e⟩
end
end Go.Ev
namespace Go.Ev
theorem GD(b rm wm:Nat):∀(lg:List (Nat×Nat)) (j:Nat),indep b rm wm j lg=true→∀(k:Nat)(r w:Nat),lg[k]?=some (r,w)→b.testBit (j+k)=true∨(CJ w (Nat.lor rm wm)∧CJ r wm)
 | [],j,h,k,r,w,hk=>by simp at hk
 |(r0,w0)::lg,j,h,k,r,w,hk=>by
  simp only[indep,AAG,AAa]at h;cases k with
  |zero=>
   simp at hk;obtain⟨rfl,rfl⟩:=hk;exact h.1.imp id fun hh=>⟨HN hh.1,HN hh.2⟩
  |succ k=>
   have:=GD b rm wm lg (j+1) h.2 k r w (by simpa using hk);grind
section
variable {cx:Cx}{g:Rg}{bs:List Nat}
theorem IJ:∀(r:List Oper)(i:Nat) (lg:List (Nat×Nat)) (s:St) (tr:List (Nat×List Wr)),Trace cx g bs i r lg s tr→∀(k:Nat)(o:Oper)(rm:Nat)(ws:List Wr),r[k]?=some o→tr[k]?=some (rm,ws)→
  rm=A6 g.ops o (AL (fun j=>decide (j<i+k)) i tr s)∧K7 cx g bs (i+k) o (AL (fun j=>decide (j<i+k)) i tr s) ws∧(g.draw=true→indep (nth 0 bs (i+k)) rm (AE ws) 0 (lg++(tr.take k).map fun x=>(x.1,AE x.2))=true)
 | [],i,lg,s,tr,ht,k,o,rm,ws,h1,h2=>by simp at h1
 |o0::r,i,lg,s,[],ht,k,o,rm,ws,h1,h2=>by simp at h2
 |o0::r,i,lg,s,(rm0,ws0)::tr,ht,k,o,rm,ws,h1,h2=>by
  obtain⟨zU,tS,vD,ht⟩:=ht
  have none:∀(tr:List (Nat×List Wr)) (i j:Nat) (s:St),j≤i→AL (fun q=>decide (q<j)) i tr s=s:=by
   intro tr
   induction tr with
   |nil=>intro i j s h;rfl
   |cons x tr ih=>
    intro i j s h;simp only[AL];rw[show decide (i<j)=false by simp;omega];exact ih (i+1) j s (by omega)
  cases k with
  |zero=>
   simp at h1 h2;obtain⟨rfl,rfl⟩:=h2;subst h1;rw[AAr,none _ _ _ _ (AAd _)];grind
  |succ k=>
   obtain⟨q1,q2,q3⟩:=IJ r (i+1) _ _ tr ht k o rm ws (by simpa using h1) (by simpa using h2)
   have e:AL (fun j=>decide (j<i+(k+1))) i ((rm0,ws0)::tr) s=AL (fun j=>decide (j<i+1+k)) (i+1) tr (s.app ws0):=by simp only[AL];rw[show decide (i<i+(k+1))=true from decide_eq_true (by omega),show i+(k+1)=i+1+k by omega];rfl
   grind
theorem HQ(A:Nat→Bool):∀(tr:List (Nat×List Wr)) (i:Nat) (s:St),(AL A i tr s).sl.length=s.sl.length∧(AL A i tr s).ro.length=s.ro.length
 | [],i,s=>⟨rfl,rfl⟩
 |x::tr,i,s=>by
  simp only[AL];obtain⟨h1,h2⟩:=HQ A tr (i+1) (bif A i then s.app x.2 else s);cases hA:A i with
  |true=>rw[hA]at h1 h2;exact⟨h1.trans (CG _ _).1,h2.trans (CG _ _).2⟩
  |false=>grind
theorem GZ{A B:Nat→Bool}{t:Nat}:∀(tr:List (Nat×List Wr)) (i:Nat) (s s':St),s'.sl.length=s.sl.length→s'.slot t=s.slot t→(∀k x,tr[k]?=some x→(AE x.2).testBit (2*t)=true→B (i+k)=A (i+k))→
  (AL B i tr s').slot t=(AL A i tr s).slot t
 | [],i,s,s',hl,h,hA=>h
 |x::tr,i,s,s',hl,h,hA=>by
  simp only[AL];refine GZ tr (i+1) _ _ ?_ ?_ fun k y hk hy=>by rw[show i+1+k=i+(k+1) by omega];exact hA (k+1) y (by grind) hy
  ·cases A i<;>cases B i<;>simp[CG,hl]
  ·by_cases hm:(AE x.2).testBit (2*t)=true
   ·have:=hA 0 x rfl hm;rw[AAr]at this;rw[this];cases A i with
    |true=>exact E8 hl h
    |false=>exact h
   ·have hm:(AE x.2).testBit (2*t)=false:=by simpa using hm
    have e1:∀b:Bool,(bif b then s'.app x.2 else s').slot t=s'.slot t:=fun b=>by cases b;rfl;exact Dd hm
    have e2:∀b:Bool,(bif b then s.app x.2 else s).slot t=s.slot t:=fun b=>by cases b;rfl;exact Dd hm
    rw[e1,e2];exact h
theorem GY{A B:Nat→Bool}{t:Nat}:∀(tr:List (Nat×List Wr)) (i:Nat) (s s':St),s'.ro.length=s.ro.length→s'.root t=s.root t→(∀k x,tr[k]?=some x→(AE x.2).testBit (4*t+3)=true→B (i+k)=A (i+k))→
  (AL B i tr s').root t=(AL A i tr s).root t
 | [],i,s,s',hl,h,hA=>h
 |x::tr,i,s,s',hl,h,hA=>by
  simp only[AL];refine GY tr (i+1) _ _ ?_ ?_ fun k y hk hy=>by rw[show i+1+k=i+(k+1) by omega];exact hA (k+1) y (by grind) hy
  ·cases A i<;>cases B i<;>simp[CG,hl]
  ·by_cases hm:(AE x.2).testBit (4*t+3)=true
   ·have:=hA 0 x rfl hm;rw[AAr]at this;rw[this];cases A i with
    |true=>exact E7 hl h
    |false=>exact h
   ·have hm:(AE x.2).testBit (4*t+3)=false:=by simpa using hm
    have e1:∀b:Bool,(bif b then s'.app x.2 else s').root t=s'.root t:=fun b=>by cases b;rfl;exact Dc hm
    have e2:∀b:Bool,(bif b then s.app x.2 else s).root t=s.root t:=fun b=>by cases b;rfl;exact Dc hm
    rw[e1,e2];exact h
theorem LW(a:LA)(v:Nat):(a.Cj v).norm=a.norm:=by
 cases a with
 |arr AA gen t e xs d=>cases d<;>rfl
 |_=>rfl
theorem H0(x:Bp)(j:Nat)(a:LA):({ x with ls:=Cb x.ls j a }:Bp).norm={ x.norm with ls:=x.norm.ls.set j a.norm }:=by unfold Bp.norm;simp only[Bl,List.map_set]
theorem GH(x:Bp)(j:Nat)(v:Nat):({ x with ls:=Cb x.ls j ((nth .bad x.ls j).Cj v) }:Bp).norm=x.norm:=by
 rw[H0]
 have:x.norm.ls.set j ((nth .bad x.ls j).Cj v).norm=x.norm.ls:=by
  rw[LW];apply List.ext_getElem?;intro i;rw[List.getElem?_set];by_cases e:j=i
  ·subst e;rw[AAK rfl];by_cases hl:j<x.norm.ls.length
   ·rw[AAK hl];have yg:j<x.ls.length:=by simpa[Bp.norm]using hl
    have hn:nth .bad x.ls j=x.ls[j]:=by
     have:∀(l:List LA)(j:Nat)(h:j<l.length),nth .bad l j=l[j]:=by
      intro l
      induction l with
      |nil=>intro j h;simp at h
      |cons y l ih=>
       intro j h;cases j with
       |zero=>rfl
       |succ j=>exact ih j (by simpa using h)
     exact this _ _ yg
    rw[hn,AAF hl];simp[Bp.norm]
   grind
  ·rw[AAM e]
 rw[this]
theorem HO{s:St}{w:Wr}{r:Nat}(h:w.mask.testBit (4*r+1)=false):((s.AF w).root r).norm=(s.root r).norm:=by
 cases w with
 |slot u a=>rfl
 |root q x=>
  simp only[Wr.mask,AK,Gx,Eb,AAh,AAf]at h;rw[Au,AAM (fun hh=>h.1 (by rw[hh.1]))]
 |leaf q j a=>
  simp only[Wr.mask,AK,Gx,Eb,AAh,AAf]at h
  have e:(s.AF (.leaf q j a)).root r=s.root r:=by show nth dead (Cb s.ro q _) r=_;rw[Ax,AAM (fun hh=>h.1 (by rw[hh.1]))];rfl
  rw[e]
 |half q j v=>
  have e:(s.AF (.half q j v)).root r=if q=r∧q<s.ro.length then { s.root q with ls:=Cb (s.root q).ls j ((s.leaf q j).Cj v) }else s.root r:=Ax _ _ _ _ _
  rw[e];split
  ·rename_i hq;obtain⟨rfl,_⟩:=hq;exact GH _ _ _
  ·rfl
theorem Db{r:Nat}:∀ {ws:List Wr} {s:St},(AE ws).testBit (4*r+1)=false→((s.app ws).root r).norm=(s.root r).norm
 | [],s,h=>rfl
 |w::ws,s,h=>by rw[BT,AAh]at h;exact(Db h.2).trans (HO h.1)
theorem E6{r:Nat}:∀ {ws:List Wr} {s s':St},s'.ro.length=s.ro.length→(s'.root r).norm=(s.root r).norm→((s'.app ws).root r).norm=((s.app ws).root r).norm
 | [],s,s',hl,h=>h
 |w::ws,s,s',hl,h=>by
  show(((s'.AF w).app ws).root r).norm=(((s.AF w).app ws).root r).norm;refine E6 ((B9 s' w).2.trans (hl.trans (B9 s w).2.symm)) ?_;cases w with
  |slot u a=>exact h
  |root q x=>
   rw[Au,Au,hl];grind
  |leaf q j a=>
   have e:∀s:St,(s.AF (.leaf q j a)).root r=if q=r∧q<s.ro.length then { s.root q with ls:=Cb (s.root q).ls j a }else s.root r:=fun s=>Ax _ _ _ _ _
   rw[e,e,hl];split
   ·rename_i hq;obtain⟨rfl,_⟩:=hq;rw[H0,H0,h]
   ·exact h
  |half q j v=>
   have e:∀s:St,(s.AF (.half q j v)).root r=if q=r∧q<s.ro.length then { s.root q with ls:=Cb (s.root q).ls j ((s.leaf q j).Cj v) }else s.root r:=fun s=>Ax _ _ _ _ _
   rw[e,e,hl];split
   ·rename_i hq;obtain⟨rfl,_⟩:=hq;exact(GH _ _ _).trans (h.trans (GH _ _ _).symm)
   ·exact h
theorem GW{A B:Nat→Bool}{t:Nat}:∀(tr:List (Nat×List Wr)) (i:Nat) (s s':St),s'.ro.length=s.ro.length→(s'.root t).norm=(s.root t).norm→(∀k x,tr[k]?=some x→(AE x.2).testBit (4*t+1)=true→B (i+k)=A (i+k))→
  ((AL B i tr s').root t).norm=((AL A i tr s).root t).norm
 | [],i,s,s',hl,h,hA=>h
 |x::tr,i,s,s',hl,h,hA=>by
  simp only[AL];refine GW tr (i+1) _ _ ?_ ?_ fun k y hk hy=>by rw[show i+1+k=i+(k+1) by omega];exact hA (k+1) y (by grind) hy
  ·cases A i<;>cases B i<;>simp[CG,hl]
  ·by_cases hm:(AE x.2).testBit (4*t+1)=true
   ·have:=hA 0 x rfl hm;rw[AAr]at this;rw[this];cases A i with
    |true=>exact E6 hl h
    |false=>exact h
   ·have hm:(AE x.2).testBit (4*t+1)=false:=by simpa using hm
    have e1:∀b:Bool,((bif b then s'.app x.2 else s').root t).norm=(s'.root t).norm:=fun b=>by cases b;rfl;exact Db hm
    have e2:∀b:Bool,((bif b then s.app x.2 else s).root t).norm=(s.root t).norm:=fun b=>by cases b;rfl;exact Db hm
    rw[e1,e2];exact h
theorem GX{A:Nat→Bool}{ws:List Wr}:∀(tr:List (Nat×List Wr)) (i:Nat) (s:St),(∀k x,tr[k]?=some x→A (i+k)=true→CJ (AE ws) (AE x.2))→AL A i tr (s.app ws)=(AL A i tr s).app ws
 | [],i,s,h=>rfl
 |x::tr,i,s,h=>by
  simp only[AL];have ih:∀s,AL A (i+1) tr (s.app ws)=(AL A (i+1) tr s).app ws:=fun s=>GX tr (i+1) s fun k y hk hy=>h (k+1) y (by grind) (by grind);cases hA:A i with
  |false=>exact ih s
  |true=>
   dsimp only[cond_true];rw[←ih,Je (h 0 x rfl (by omega))]
theorem D3{A B:Nat→Bool}:∀(tr:List (Nat×List Wr)) (i:Nat) (s:St),(∀k,k<tr.length→A (i+k)=B (i+k))→AL A i tr s=AL B i tr s
 | [],i,s,h=>rfl
 |x::tr,i,s,h=>by
  simp only[AL];have h0:=h 0 (by simp);rw[AAr]at h0;rw[h0];exact D3 tr (i+1) _ fun k hk=>by rw[show i+1+k=i+(k+1) by omega];exact h (k+1) (by simp;omega)
theorem GV{A B:Nat→Bool}{n:Nat}{rm:Nat}{ws:List Wr}:∀(tr:List (Nat×List Wr)) (i:Nat) (s:St),tr[n]?=some (rm,ws)→A (i+n)=false→B (i+n)=true→(∀k,k≠n→B (i+k)=A (i+k))→
  (∀k x,n<k→tr[k]?=some x→A (i+k)=true→CJ (AE ws) (AE x.2))→AL B i tr s=(AL A i tr s).app ws
 | [],i,s,hn,hA,hB,tU,xp=>by simp at hn
 |x::tr,i,s,hn,hA,hB,tU,xp=>by
  simp only[AL];cases n with
  |zero=>
   simp at hn;subst hn;rw[AAr]at hA hB;rw[hA,hB];dsimp only[cond_true,cond_false];rw[D3 (A:=B) (B:=A) tr (i+1) _ fun k hk=>by rw[show i+1+k=i+(k+1) by omega];exact tU (k+1) (by omega)];exact GX tr (i+1) s fun k y hk hy=>xp (k+1) y (by omega) (by grind) (by grind)
  |succ n=>
   have h0:=tU 0 (by omega);rw[AAr]at h0;rw[h0]
   exact GV tr (i+1) _ (by simpa using hn) (by grind) (by grind)
    (fun k hk=>by rw[show i+1+k=i+(k+1) by omega];exact tU (k+1) (by omega)) (fun k y hk hy hA=>xp (k+1) y (by omega) (by grind) (by grind))
end
section
variable {P:Program}{E:Cw}{cx:Cx}{g:Rg}{Q:Exit→Act→World→Prop}
theorem Ho{ops:Array Oper}{o:Oper}{s s':St}{b:Bool}(h:∀j want t,o.guard=some (j,want)→(ops[j]?).bind (·.dst)=some t→s'.slot t=s.slot t)(hg:Bw ops o s b):Bw ops o s' b:=by unfold Bw at hg ⊢;grind
theorem Ng(hc:Dr P cx)(uF:DL P E cx.env)(h1:1<g.v0)(hE:D8 0 g.ops.toList=true)(zd:g.draw=true){s:St}{tr:List (Nat×List Wr)}(ht:Trace cx g (E0 g.ops.toList []) 0 g.ops.toList [] s tr)(hlen:tr.length=g.ops.size)
  (tc:BV s (· < g.v0)) (hd:∀o∈g.ops.toList,∀d,o.dst=some d→d<s.sl.length) {df:List Deferred}
  (hK:∀a' W',a'.defers=df→AW E (AL (fun _=>true) 0 tr s) a'.tmps W'→BV (AL (fun _=>true) 0 tr s) (pA g.v0 (· < g.ops.size))→Q .normal a' W'.w):
  ∀(fuel:Nat)(listed:Array Bool)(a:Act)(W:Wd),listed.size=g.ops.size→listed.toList.count false=fuel→a.defers=df→AW E (AL (fun i=>listed.getD i false) 0 tr s) a.tmps W→
   BV (AL (fun i=>listed.getD i false) 0 tr s) (pA g.v0 fun i=>listed.getD i false=true)→
   (∀i o,listed.getD i false=true→g.ops[i]?=some o→∀e∈o.after.toList,Region.binds .any e=true→listed.getD e.on false=true)→wpAny P .any g.ops Q fuel listed a W.w:=by
 intro fuel
 have uZ:∀(listed:Array Bool),listed.size=g.ops.size→(∀i,i<g.ops.size→listed.getD i false=true)→AL (fun i=>listed.getD i false) 0 tr s=AL (fun _=>true) 0 tr s:=fun listed hs h=>
  D3 tr 0 s fun k hk=>by grind
 have hrdy:∀(listed:Array Bool)(i:Nat),i∈Region.ready .any g.ops listed→listed.size=g.ops.size→i<g.ops.size∧listed.getD i false=false∧∃o,g.ops[i]?=some o∧∀e∈o.after.toList,Region.binds .any e=true→listed.getD e.on false=true:=by
  intro listed i hi hs;obtain⟨hi1,hi2⟩:=List.mem_filter.1 hi;have tX:i<g.ops.size:=AAR.1 hi1;rw[AAG]at hi2;refine⟨tX,?_,g.ops[i],by simp[tX],?_⟩
  ·grind
  ·intro e he hb;have h2:=hi2.2;rw[AAc tX]at h2;simp only[AA9,AA0]at h2;have h3:=Array.all_eq_true'.1 h2 e (by simpa using he);grind
 induction fuel with
 |zero=>
  intro listed a W hs wg hdf tT hv zG
  have xN:∀i,i<g.ops.size→listed.getD i false=true:=by
   intro i hi;have hl:i<listed.size:=by omega
   have tj:false∉listed.toList:=List.count_eq_zero.1 wg;rw[AAg,AAc hl,AA0];cases hq:listed[i]with
   |true=>rfl
   |false=>exact absurd (by rw[←hq];exact Array.getElem_mem_toList hl) tj
  refine⟨?_,?_⟩
  ·rw[List.eq_nil_iff_forall_not_mem];intro i hi;obtain⟨q1,q2,_⟩:=hrdy listed i hi hs;rw[xN i q1]at q2;cases q2
  grind
 |succ fuel ih=>
  intro listed a W hs wg hdf tT hv zG
  have hAn:∀i,listed.getD i false=true→i<g.ops.size:=by
   intro i hi;rw[←hs];rcases AAo i listed.size with h|h
   ·exact h
   ·grind
  refine⟨fun hemp=>?_,fun i hi=>?_⟩
  ·exfalso
   have hex:∃i,i<g.ops.size∧listed.getD i false=false:=by
    have:false∈listed.toList:=by refine AAn fun hn=>?_;rw[List.count_eq_zero.2 hn]at wg;cases wg
    obtain⟨i,hi,he⟩:=List.mem_iff_getElem.1 this;have vF:i<listed.size:=by simpa using hi
    refine⟨i,by omega,?_⟩;rw[AAg,AAc vF,AA0];simpa using he
   have hmin:∀n i,i≤n→i<g.ops.size→listed.getD i false=false→∃j,j∈Region.ready .any g.ops listed:=by
    intro n
    induction n using Nat.strongRecOn with
    |_ n ihn=>
     intro i tS hi hli;by_cases hp:∀e∈(g.ops[i]).after.toList,Region.binds .any e=true→listed.getD e.on false=true
     ·refine⟨i,List.mem_filter.2 ⟨AAR.2 hi,?_⟩⟩;have hl:i<listed.size:=by omega
      rw[AAG];refine⟨?_,?_⟩
      ·simp only[AAg,AAc hl,AA0]at hli ⊢;simp[hli]
      ·rw[AAc hi];simp only[AA9,AA0];refine Array.all_eq_true'.2 fun e he=>?_;cases hb:Region.binds .any e with
       |false=>rfl
       |true=>simpa using hp e (by simpa using he) hb
     ·have:∃e∈(g.ops[i]).after.toList,Region.binds .any e=true∧listed.getD e.on false=false:=by
       refine AAn fun hn=>hp fun e he hb=>?_;cases hq:listed.getD e.on false with
       |true=>rfl
       |false=>exact absurd ⟨e,he,hb,hq⟩ hn
      obtain⟨e,he,hb,hle⟩:=this;have hon:=Co g.ops.toList 0 hE i g.ops[i] (by simp[hi]) e he hb;exact ihn e.on (by omega) e.on (AAd _) (by omega) hle
   obtain⟨i,hi,hli⟩:=hex;obtain⟨j,hj⟩:=hmin i i (AAd _) hi hli;grind
  ·obtain⟨tX,vT,o,ho,yL⟩:=hrdy listed i hi hs;have hol:g.ops.toList[i]?=some o:=by simpa using ho
   obtain⟨⟨rm,ws⟩,htr⟩:∃x,tr[i]?=some x:=⟨tr[i]'(by omega),AAF (by omega)⟩;obtain⟨t1,t2,t3⟩:=IJ g.ops.toList 0 [] s tr ht i o rm ws hol htr;simp only[AAW,AA4]at t1 t2 t3;have t3:=t3 zd;have Eb:∀j,(nth 0 (E0 g.ops.toList []) i).testBit j=true→listed.getD j false=true:=Iz hE zG hAn ho yL
   have yh:∀k x,i<k→tr[k]?=some x→listed.getD k false=true→CJ (AE ws) (Nat.lor x.1 (AE x.2))∧CJ rm (AE x.2):=by intro k x hk hx vA;obtain⟨ok,uU⟩:∃o,g.ops.toList[k]?=some o:=⟨_,AAF (by grind)⟩;obtain⟨rmk,wsk⟩:=x;obtain⟨_,_,k3⟩:=IJ g.ops.toList 0 [] s tr ht k ok rmk wsk uU hx;simp only[AAW,AA4]at k3;have:=GD _ _ _ _ 0 (k3 zd) i rm (AE ws) (by grind);rw[AAW]at this;refine this.resolve_left fun hb=>?_;have:=HZ hE (A:=fun i=>listed.getD i false=true) zG hAn k vA i hb;rw[vT]at this;cases this
   have hearly:∀k x,k<i→tr[k]?=some x→listed.getD k false=false→CJ (AE x.2) (Nat.lor rm (AE ws)):=by
    intro k x hk hx vA;have:=GD _ _ _ _ 0 t3 k x.1 (AE x.2) (by grind);rw[AAW]at this;rcases this with hb|hb
    ·grind
    ·exact hb.1
   have vd:NV rm (AL (fun j=>decide (j<i)) 0 tr s) (AL (fun i=>listed.getD i false) 0 tr s):=by
    have key:∀(b:Nat),rm.testBit b=true→∀k x,tr[k]?=some x→(AE x.2).testBit b=true→listed.getD (0+k) false=decide (0+k<i):=by
     intro b hb k x hx hw;rw[AAW];rcases Nat.lt_trichotomy k i with hk|hk|hk
     ·cases hl:listed.getD k false with
      |true=>simp[hk]
      |false=>
       have:=hearly k x hk hx hl b hw;rw[AK,hb]at this;simp at this
     ·grind
     ·cases hl:listed.getD k false with
      |false=>simp;omega
      |true=>
       have:=(yh k x hk hx hl).2 b hb;grind
    exact⟨fun t hb=>GZ tr 0 s s rfl rfl fun k x hx hw=>key _ hb k x hx hw,fun t _ hb=>GY tr 0 s s rfl rfl fun k x hx hw=>key _ hb k x hx hw,fun t hb=>GW tr 0 s s rfl rfl fun k x hx hw=>key _ hb k x hx hw⟩
   have ze:=M7 (cx:=cx) (v:=g.v0+i) (ops:=g.ops) (o:=o) (s:=AL (fun j=>decide (j<i)) 0 tr s) (s':=AL (fun i=>listed.getD i false) 0 tr s) (by grind)
   have vD:K7 cx g (E0 g.ops.toList []) i o (AL (fun i=>listed.getD i false) 0 tr s) ws:=by
    rcases t2 with⟨g1,g2,g3⟩|⟨g1,g2⟩
    ·exact .inl ⟨Ho ze.2 g1,by grind,g3⟩
    ·exact .inr ⟨Ho ze.2 g1,g2⟩
   have hnv:Ad (AL (fun i=>listed.getD i false) 0 tr s) (g.v0+i):=hv.Hz (by
    rintro (hh|⟨j,hj,e⟩)
    all_goals grind) (by omega)
   have vq:∀k,(listed.setIfInBounds i true).getD k false=(if i=k then true else listed.getD k false):=by
    intro k;simp only[AAg,AAz];by_cases hk:i=k
    ·grind
    ·simp[hk]
   have vJ:AL (fun k=>(listed.setIfInBounds i true).getD k false) 0 tr s=(AL (fun i=>listed.getD i false) 0 tr s).app ws:=by refine GV tr 0 s htr (by grind) (by grind) (fun k hk=>by grind) fun k x hk hx hl=>?_;rw[AAW]at hl;intro b hb;have:=(yh k x hk hx hl).1 b hb;rw[AK,AAh]at this;exact this.2
   refine Kr hc uF tT hnv (fun d ua=>by rw[←tT.DH,(HQ _ tr 0 s).1];exact hd o (AAN hol) d ua) vD (fun a' W' hdef zn=>?_) ho;refine ih (listed.setIfInBounds i true) a' W' (by simp[hs]) ?_ (hdef.trans hdf) (by grind) ?_ ?_
   ·have vF:i<listed.toList.length:=by simp;omega
    have hfalse:listed.toList[i]=false:=by
     have hl:i<listed.size:=by omega
     rw[AAg,AAc hl,AA0]at vT;simpa using vT
    grind
   ·rw[vJ];refine(hv.mono ?_).app (fun w hw n hn=>?_)
    ·rintro n (hn|⟨j,hj,e⟩)
     ·exact .inl hn
     ·exact .inr ⟨j,by show(listed.setIfInBounds i true).getD j false=true;rw[vq];grind,e⟩
    ·rcases Ia vD (A:=fun j=>listed.getD j false=true) Eb w hw n hn with hn|⟨j,hj,e⟩
     ·exact .inl hn
     ·refine .inr ⟨j,?_,e⟩;show(listed.setIfInBounds i true).getD j false=true;rw[vq];grind
   ·intro k o' hk vZ e he hb;rw[vq]at hk ⊢;split
    ·rfl
    ·by_cases hki:i=k
     all_goals grind
end
end Go.Ev
namespace Go.Ev
def Hc(cx:Cx)(a:LA):Prop:=match a with
 | .ref c=>cx.lock c.r=false
 | .EF c _ _=>cx.lock c.r=false
 | .Bn c=>cx.lock c.r=false
 | .ptr r _ _=>cx.FD r=false
 | .JC _ c=>cx.lock c.r=false
 | .EI _ ps _=>∃p∈ps,cx.FD p.1=false
 |_=>False
def FG(cx:Cx)(a a':LA):Prop:=a'=a∨(a'=.bad∧Hc cx a)
inductive C5(cx:Cx):AV→AV→Prop
 |same (v):C5 cx v v
 |v (g as xP) (h:xP.length=as.length) (hl:∀(j:Nat)(a:LA),as[j]?=some a→∃a',xP[j]?=some a'∧FG cx a a'):C5 cx (.v g as) (.v g xP)
 |Dp (vs):C5 cx (.Dp vs) (one .bad)
 |bx (as):C5 cx (.bx as) (one .bad)
theorem FG.trans{cx:Cx}{a b c:LA}(h1:FG cx a b)(h2:FG cx b c):FG cx a c:=by
 rcases h1 with rfl|⟨rfl,hd⟩
 ·exact h2
 ·rcases h2 with rfl|⟨rfl,_⟩<;>exact .inr ⟨rfl,hd⟩
theorem C5.trans{cx:Cx}{a b c:AV}(h1:C5 cx a b)(h2:C5 cx b c):C5 cx a c:=by
 cases h1 with
 |same=>exact h2
 |v g as xP h hl=>
  cases h2 with
  |same=>exact .v g as xP h hl
  |v _ _ as2 h' uz=>
   refine .v g as as2 (h'.trans h) fun j a hj=>?_;obtain⟨a',h3,h4⟩:=hl j a hj;obtain⟨a2,h5,h6⟩:=uz j a' h3;exact⟨a2,h5,h4.trans h6⟩
 |Dp vs=>
  cases h2 with
  |same=>exact .Dp vs
  |v _ _ as2 h' uz=>
   obtain⟨a2,h5,h6⟩:=uz 0 .bad rfl
   have:as2=[.bad]:=by
    match as2,h' with
    | [x],_=>
     simp at h5;subst h5;rcases h6 with rfl|⟨rfl,_⟩<;>rfl
   subst this;exact .Dp vs
 |bx as=>
  cases h2 with
  |same=>exact .bx as
  |v _ _ as2 h' uz=>
   obtain⟨a2,h5,h6⟩:=uz 0 .bad rfl
   have:as2=[.bad]:=by
    match as2,h' with
    | [x],_=>
     simp at h5;subst h5;rcases h6 with rfl|⟨rfl,_⟩<;>rfl
   subst this;exact .bx as
structure Ar(cx:Cx)(s s':St):Prop where
 AP:∀t,cx.FD t=true→C5 cx (s.slot t) (s'.slot t)
 roots:∀r,cx.lock r=true→s'.root r=s.root r
 box:∀r,cx.FD r=true→(s'.root r).box=(s.root r).box∧(s'.root r).AA=(s.root r).AA∧(s'.root r).ls.length=(s.root r).ls.length
 l1:s'.sl.length=s.sl.length
 l2:s'.ro.length=s.ro.length
 Bq:s.Bq≤s'.Bq
theorem Ar.refl(cx:Cx)(s:St):Ar cx s s:=⟨fun t _=>.same _,fun _ _=>rfl,fun _ _=>⟨rfl,rfl,rfl⟩,rfl,rfl,AAd _⟩
theorem Ar.trans{cx:Cx}{s s1 s2:St}(h1:Ar cx s s1)(h2:Ar cx s1 s2):Ar cx s s2 where
 AP t ht:=(h1.AP t ht).trans (h2.AP t ht)
 roots r hr:=(h2.roots r hr).trans (h1.roots r hr)
 box r hr:=let ⟨a,b,c⟩:=h1.box r hr;let ⟨a',b',c'⟩:=h2.box r hr;⟨a'.trans a,b'.trans b,c'.trans c⟩
 l1:=h2.l1.trans h1.l1
 l2:=h2.l2.trans h1.l2
 Bq:=AAw h1.Bq h2.Bq
def Bh(s:St):Prop:=∀r,∀a∈(s.root r).ls,a.Cf=true
structure Inv(N:Nat)(s:St):Prop where
 AG:BV s (· < s.Bq)
 two:2≤s.Bq
 len:s.sl.length=N
 B0:s.ro.length=N
 Ld:Bh s
theorem KV{cx:Cx}{s:St}{dst:Option Nat}{w:Wr}(hd:∀d,dst=some d→cx.FD d=false)(hw:w.ok cx dst=true):Ar cx s (s.AF w) where
 AP t ht:=by
  cases w with
  |slot u a=>
   rw[BS,AAM]
   ·exact .same _
   ·rintro ⟨rfl,_⟩
    simp only[Wr.ok]at hw;cases hq:dst with
    |none=>rw[hq]at hw;cases hw
    |some d=>
     rw[hq]at hw;have:u=d:=by simpa using hw
     subst this;rw[hd u hq]at ht;cases ht
  |root r x=>exact .same _
  |leaf r j a=>exact .same _
  |half r j v=>exact .same _
 roots r hr:=by
  cases w with
  |slot u a=>rfl
  |root q x=>
   simp only[Wr.ok,AAG,AAT]at hw;rw[Au,AAM]
   rintro ⟨rfl,_⟩
   rw[hr]at hw;exact absurd hw.1.1 (by simp)
  |leaf q j a=>
   simp only[Wr.ok,AAG,AAT]at hw;have tj:q≠r:=fun e=>by subst e;rw[hr]at hw;exact absurd hw.1 (by simp)
   refine Bf ?_;simp only[Wr.mask,AK,Gx,Eb,AAh,AAf];omega
  |half q j v=>
   simp only[Wr.ok,AAT]at hw;have tj:q≠r:=fun e=>by subst e;rw[hr]at hw;cases hw
   refine Bf ?_;simp only[Wr.mask,Eb,AAf];omega
 box r hr:=by
  cases w with
  |slot u a=>exact⟨rfl,rfl,rfl⟩
  |root q x=>
   simp only[Wr.ok,AAG]at hw;rw[Au,AAM]
   ·exact⟨rfl,rfl,rfl⟩
   ·rintro ⟨rfl,_⟩
    cases hq:dst with
    |none=>rw[hq]at hw;exact absurd hw.2 (by simp)
    |some d=>
     rw[hq]at hw;have:q=d:=by simpa using hw.2
     subst this;rw[hd q hq]at hr;cases hr
  |leaf q j a=>exact(BH s q j a).box r
  |half q j v=>exact(BH s q j _).box r
 l1:=(B9 s w).1
 l2:=(B9 s w).2
 Bq:=by cases w<;>exact AAd _
theorem Il{cx:Cx}{dst:Option Nat}(hd:∀d,dst=some d→cx.FD d=false):∀ {ws:List Wr} {s:St},(∀w∈ws,w.ok cx dst=true)→Ar cx s (s.app ws)
 | [],s,h=>Ar.refl cx s
 |w::ws,s,h=>(KV hd (h w (by simp))).trans (Il (ws:=ws) (s:=s.AF w) hd fun x hx=>h x (AAJ _ hx))
theorem Mc{cx:Cx}{s:St}{dst:Option Nat}{w:Wr}(h:Bh s)(hw:w.ok cx dst=true):Bh (s.AF w):=by
 intro r a ha;cases w with
 |slot u b=>exact h r a ha
 |root q x=>
  simp only[Wr.ok,AAG]at hw;rw[Au]at ha;split at ha
  ·exact AAU.1 hw.1.2 a ha
  ·exact h r a ha
 |leaf q j b=>
  simp only[Wr.ok,AAG]at hw;have uK:(s.AF (.leaf q j b)).root r=if q=r∧q<s.ro.length then { s.root q with ls:=Cb (s.root q).ls j b }else s.root r:=Ax _ _ _ _ _
  rw[uK]at ha;split at ha
  ·have ha:a∈Cb (s.root q).ls j b:=ha;rw[Bl]at ha;rcases ABA ha with ha|ha
   ·exact h q a ha
   ·rw[ha];exact hw.2
  ·exact h r a ha
 |half q j v=>
  have uK:(s.AF (.half q j v)).root r=if q=r∧q<s.ro.length then { s.root q with ls:=Cb (s.root q).ls j ((s.leaf q j).Cj v) }else s.root r:=Ax _ _ _ _ _
  rw[uK]at ha;split at ha
  ·have ha:a∈Cb (s.root q).ls j ((s.leaf q j).Cj v):=ha;by_cases hj:j<(s.root q).ls.length
   ·rw[Bl]at ha;rcases ABA ha with ha|ha
    ·exact h q a ha
    ·have hb:(s.leaf q j).Cf=true:=h q _ (G8 hj);rw[ha];cases hl:s.leaf q j with
     |arr AA gen t e xs d=>cases d<;>rfl
     |_=>rw[hl]at hb;exact hb
   ·rw[Bl,List.set_eq_of_length_le (by omega)]at ha;exact h q a ha
  ·exact h r a ha
theorem Ky{cx:Cx}{dst:Option Nat}:∀ {ws:List Wr} {s:St},Bh s→(∀w∈ws,w.ok cx dst=true)→Bh (s.app ws)
 | [],s,h,hw=>h
 |w::ws,s,h,hw=>Ky (ws:=ws) (s:=s.AF w) (Mc h (hw w (by simp))) fun x hx=>hw x (AAJ _ hx)
theorem M5{cx:Cx}{g:Rg}{bs:List Nat}{i:Nat}{o:Oper}{s:St}{ws:List Wr}(h:K7 cx g bs i o s ws):∀w∈ws,w.ok cx o.dst=true:=by
 intro w hw;rcases h with⟨_,_,h⟩|⟨_,rfl⟩
 ·have:=AAU.1 h w hw;rw[AAG]at this;exact this.1
 ·cases hd:o.dst with
  |none=>rw[hd]at hw;cases hw
  |some d=>
   rw[hd]at hw;have:w=.slot d (one .undef):=by simpa[Cv]using hw
   subst this;simp[Wr.ok]
theorem Gg{cx:Cx}{g:Rg}{bs:List Nat}:∀(r:List Oper)(i:Nat) (lg:List (Nat×Nat)) (s:St) (tr:List (Nat×List Wr)),Trace cx g bs i r lg s tr→(∀o∈r,∀d,o.dst=some d→cx.FD d=false)→Bh s→
  Ar cx s (AL (fun _=>true) i tr s)∧Bh (AL (fun _=>true) i tr s)
 | [],i,lg,s,[],ht,hd,hr=>⟨Ar.refl cx s,hr⟩
 | [],i,lg,s,_::_,ht,hd,hr=>ht.elim
 |_::_,i,lg,s,[],ht,hd,hr=>ht.elim
 |o::r,i,lg,s,(rm,ws)::tr,ht,hd,hr=>by obtain⟨_,_,vD,ht⟩:=ht;have uU:=M5 vD;obtain⟨h1,h2⟩:=Gg r (i+1) _ (s.app ws) tr ht (fun o ho=>hd o (AAJ _ ho)) (Ky hr uU);exact⟨(Il (hd o (by simp)) uU).trans h1,h2⟩
end Go.Ev
namespace Go.Ev
section
variable {E:Cw}{s:St}{W:Wd}{tm:Array Value}{β:Type}{t:β}
theorem Nx{a:AV}{v:Value}(h:Ba s W a v):AR s W a.one? v:=by
 cases a with
 |Dp vs=>trivial
 |bx as=>trivial
 |v g as=>
  cases g with
  |true=>trivial
  |false=>cases as with
   |nil=>trivial
   |cons b bs=>cases bs with
    |nil=>exact h
    |cons=>trivial
theorem Gd(h:AW E s tm W){r j AA gen:Nat}{t0:TypeId}{e:Ls}{xs:List e.D}(hl:s.leaf r j=.arr AA gen t0 e xs 0):W.om (.lf r j)=[]:=by obtain⟨u,_,hr⟩:=(h.roots r).row hl;exact AD.zero hr
theorem KH(h:AW E s tm W){l:L}{la:LA}{v:Value}(hv:AR s W la v)(hs:s.still l la=true){k:l.D→Step β}(hl:(s.Av l la k).leads t):∃x,(k x).leads t∧l.rd 0 W.w W.fz v x []:=by
 cases l with
 |int kk=>obtain⟨x,hl,hr⟩:=Bm h hv hl;exact⟨x,hl,(L.AZ _ rfl hr).1⟩
 |bool=>obtain⟨x,hl,hr⟩:=Bm h hv hl;exact⟨x,hl,(L.AZ _ rfl hr).1⟩
 |str=>obtain⟨x,hl,hr⟩:=Bm h hv hl;exact⟨x,hl,(L.AZ _ rfl hr).1⟩
 |sl t0 e=>
  unfold St.Av at hl;cases la with
  |sc m x=>
   simp only at hl;split at hl
   ·rename_i y hy;obtain⟨q1,q2⟩:=L.AH hy;subst q1;have q2:x=y:=q2;subst q2;exact⟨x,hl,hv⟩
   ·exact hl.elim
  |DJ=>exact⟨_,hl,by rw[show v=.slice none 0 0 from hv];exact B1⟩
  |ref c=>
   simp only[St.still]at hs;split at hs
   ·rename_i AA gen t1 e1 xs hq;obtain⟨t',e',ys,d',o',hl,hr,ho⟩:=DO h hv hl;split at hl
    ·rename_i y hy;obtain⟨q1,q2⟩:=L.AH hy;cases q1;have q2:ys=y:=q2;subst q2;exact⟨ys,hl,hr.freeze fun b hb=>hb.elim id fun hb=>by have:=ho b hb;rw[Gd h hq]at this;cases this⟩
    ·exact hl.elim
   ·cases hs
  |EF c lo hi=>
   simp only[St.still]at hs;split at hs
   ·rename_i AA gen t1 e1 xs hq;obtain⟨t',e',ys,d',o',hl,hr,ho⟩:=EV h hv hl;split at hl
    ·rename_i y hy;obtain⟨q1,q2⟩:=L.AH hy;cases q1;have q2:sub ys lo hi=y:=q2;subst q2;exact⟨_,hl,hr.freeze fun b hb=>hb.elim id fun hb=>by have:=ho b hb;rw[Gd h hq]at this;cases this⟩
    ·exact hl.elim
   ·cases hs
  |_=>exact hl.elim
def Told(s:St)(W:Wd)(tm:Array Value)(fz:Nat→Prop)(p:VP)(vs:List Lv):Prop:=match p with
 | .slot t l=>t<s.sl.length∧∃x,vs=[⟨l,x⟩]∧l.rd 0 W.w W.fz (tm.getD t Go.undef) x []
 | .own t ty e d k=>t<s.sl.length∧∃xs:List e.D,vs=[⟨.sl ty e,xs⟩]∧(s.root t).box=false∧W.cv t 0=some (tm.getD t Go.undef)∧AD e d W.w W.fz (tm.getD t Go.undef) xs (W.om (.lf t 0))∧(k=true→∃gen t' e' u6 d',s.leaf t 0=.arr 1 gen t' e' u6 d')
 | .box r ls=>(s.root r).box=true∧ls.length=(s.root r).ls.length∧vs.length=(ls.filterMap id).length∧∀(v j:Nat)(y:Value),W.cv r j=some y→match nth .bad (AQ v ls vs) j with
  | .arr AA gen t e xs d=>AA=v∧gen=v∧AD e d W.w W.fz y xs (W.om (.lf r j))
  | .sc l x=>l.rd 0 W.w fz y x []
  | .bad=>True
  |_=>False
theorem H4(h:AW E s tm W){fz:Nat→Prop}(r:Nat)(vO:∀b,W.fz b→fz b):∀(ls:List (Option (L×Nat))) (as:List LA) (j:Nat) {k:List Lv→Step β},(∀i b,as[i]?=some b→s.leaf r (j+i)=b)→(∀a∈as,a.Cf=true)→
  (∀(i:Nat)(l:L),ls[i]?=some (some (l,0))→∀b∈W.om (.lf r (j+i)),fz b)→(Dw s ls as k).leads t→
  ∃vs,(k vs).leads t∧ls.length=as.length∧vs.length=(ls.filterMap id).length∧∀(v i:Nat)(y:Value),W.cv r (j+i)=some y→match nth .bad (AQ v ls vs) i with
   | .arr AA gen t e xs d=>AA=v∧gen=v∧AD e d W.w W.fz y xs (W.om (.lf r (j+i)))
   | .sc l x=>l.rd 0 W.w fz y x []
   | .bad=>True
   |_=>False
 | [],[],j,k,hg,tS,hz,hl=>⟨[],hl,rfl,rfl,fun v i y hy=>by simp[AQ,nth]⟩
 | [],_::_,j,k,hg,tS,hz,hl=>hl.elim
 |none::ls,[],j,k,hg,tS,hz,hl=>hl.elim
 |some _::ls,[],j,k,hg,tS,hz,hl=>hl.elim
 |none::ls,a::as,j,k,hg,tS,hz,hl=>by
  simp only[Dw]at hl
  obtain⟨vs,hl,h1,h2,h3⟩:=H4 h r vO ls as (j+1) (fun i b hi=>by have:=hg (i+1) b (by simpa using hi);rw[show j+1+i=j+(i+1) by omega];exact this) (fun a ha=>tS a (AAJ _ ha))
   (fun i l hi b hb=>hz (i+1) l (by simpa using hi) b (by rw[show j+(i+1)=j+1+i by omega];exact hb)) hl
  refine⟨vs,hl,by simp[h1],by simpa using h2,fun v i y hy=>?_⟩;cases i with
  |zero=>simp[AQ,nth]
  |succ i=>
   have:=h3 v i y (by rw[show j+1+i=j+(i+1) by omega];exact hy);rw[show j+1+i=j+(i+1) by omega]at this;exact this
 |some (l,d)::ls,a::as,j,k,hg,tS,hz,hl=>by
  have tR:s.leaf r j=a:=hg 0 a rfl;obtain⟨vS,_⟩:=h.roots r;have vS:Aa s W (s.leaf r j) (W.cv r j) (W.om (.lf r j)):=vS j;rw[tR]at vS
  have fin:∀(x:l.D),(Dw s ls as fun vs=>k (⟨l,x⟩::vs)).leads t→(∀(v:Nat)(y:Value),W.cv r j=some y→match BU v d ⟨l,x⟩with
     | .arr AA gen t e xs d=>AA=v∧gen=v∧AD e d W.w W.fz y xs (W.om (.lf r j))
     | .sc l x=>l.rd 0 W.w fz y x []
     | .bad=>True
     |_=>False)→
    ∃vs,(k vs).leads t∧(some (l,d)::ls).length=(a::as).length∧vs.length=((some (l,d)::ls).filterMap id).length∧∀(v i:Nat)(y:Value),W.cv r (j+i)=some y→match nth .bad (AQ v (some (l,d)::ls) vs) i with
     | .arr AA gen t e xs d=>AA=v∧gen=v∧AD e d W.w W.fz y xs (W.om (.lf r (j+i)))
     | .sc l x=>l.rd 0 W.w fz y x []
     | .bad=>True
     |_=>False:=by
   intro x hl hx
   obtain⟨vs,hl,h1,h2,h3⟩:=H4 h r vO ls as (j+1) (fun i b hi=>by have:=hg (i+1) b (by simpa using hi);rw[show j+1+i=j+(i+1) by omega];exact this) (fun a ha=>tS a (AAJ _ ha))
    (fun i l hi b hb=>hz (i+1) l (by simpa using hi) b (by rw[show j+(i+1)=j+1+i by omega];exact hb)) hl
   refine⟨⟨l,x⟩::vs,hl,by simp[h1],by simp[h2],fun v i y hy=>?_⟩;cases i with
   |zero=>exact hx v y (by simpa using hy)
   |succ i=>
    have:=h3 v i y (by rw[show j+1+i=j+(i+1) by omega];exact hy);rw[show j+1+i=j+(i+1) by omega]at this;exact this
  have v5:∀(x:l.D),Bz l=false→(∀y,W.cv r j=some y→l.rd 0 W.w W.fz y x [])→∀(v:Nat)(y:Value),W.cv r j=some y→match BU v d ⟨l,x⟩with
     | .arr AA gen t e xs d=>AA=v∧gen=v∧AD e d W.w W.fz y xs (W.om (.lf r j))
     | .sc l x=>l.rd 0 W.w fz y x []
     | .bad=>True
     |_=>False:=by
   intro x yK hx v y hy;have:=(L.AZ l yK (hx y hy) (d':=0) (w':=W.w) (tW:=fz)).1;cases l with
   |sl t e=>simp[Bz]at yK
   |_=>exact this
  cases a with
  |arr AA gen t0 e0 xs d0=>
   simp only[Dw]at hl;split at hl
   ·rename_i hd;simp only[AAa,AAS]at hd;split at hl
    ·rename_i y hy;obtain⟨q1,q2⟩:=L.AH hy;subst q1;have q2:xs=y:=q2;subst q2;refine fin xs hl fun v y hy=>?_;obtain⟨u,hu,hr⟩:=vS;rw[hy]at hu;injection hu with hu;subst hu
     cases d with
     |zero=>
      show(L.sl t0 e0).rd 0 W.w fz y xs [];exact hr.freeze fun b hb=>hb.elim (vO b) fun hb=>hz 0 (.sl t0 e0) rfl b (by simpa using hb)
     |succ d=>
      have:d0=d+1:=by omega
      subst this;exact⟨rfl,rfl,hr⟩
    ·exact hl.elim
   ·exact hl.elim
  |sc m x=>
   have te:∀y,W.cv r j=some y→m.rd 0 W.w W.fz y x []:=vS.2;cases d with
   |zero=>
    have hl:(s.Av l (.sc m x) fun y=>Dw s ls as fun vs=>k (⟨l,y⟩::vs)).leads t:=hl;simp only[St.Av]at hl;split at hl
    ·rename_i y hy;obtain⟨q1,q2⟩:=L.AH hy;subst q1;have q2:x=y:=q2;subst q2;refine fin x hl fun v y hy=>?_;have hr:=L.AJ m (te y hy) (fun _ _=>rfl) vO;cases m<;>exact hr
    ·exact hl.elim
   |succ d=>
    cases vP:l with
    |sl t1 e1=>subst vP;exact hl.elim
    |int kk=>
     subst vP;have hl:(s.Av (.int kk) (.sc m x) fun y=>Dw s ls as fun vs=>k (⟨.int kk,y⟩::vs)).leads t:=hl;simp only[St.Av]at hl;split at hl
     ·rename_i y hy;obtain⟨q1,q2⟩:=L.AH hy;subst q1;have q2:x=y:=q2;subst q2;exact fin x hl (v5 x rfl te)
     ·exact hl.elim
    |bool=>
     subst vP;have hl:(s.Av .bool (.sc m x) fun y=>Dw s ls as fun vs=>k (⟨.bool,y⟩::vs)).leads t:=hl;simp only[St.Av]at hl;split at hl
     ·rename_i y hy;obtain⟨q1,q2⟩:=L.AH hy;subst q1;have q2:x=y:=q2;subst q2;exact fin x hl (v5 x rfl te)
     ·exact hl.elim
    |str=>
     subst vP;have hl:(s.Av .str (.sc m x) fun y=>Dw s ls as fun vs=>k (⟨.str,y⟩::vs)).leads t:=hl;simp only[St.Av]at hl;split at hl
     ·rename_i y hy;obtain⟨q1,q2⟩:=L.AH hy;subst q1;have q2:x=y:=q2;subst q2;exact fin x hl (v5 x rfl te)
     ·exact hl.elim
  |DJ=>
   cases d with
   |zero=>
    cases l with
    |sl t1 e1=>
     refine fin ([]:List e1.D) hl fun v y hy=>?_;show(L.sl t1 e1).rd 0 W.w fz y ([]:List e1.D) [];rw[show y=.slice none 0 0 from vS.2 y hy];exact B1
    |_=>exact hl.elim
   |succ d=>cases l<;>exact hl.elim
  |ref c=>have:=tS (.ref c) (by simp);cases this
  |EF c lo hi=>have:=tS (.EF c lo hi) (by simp);cases this
  |_=>cases d with
   |zero=>exact hl.elim
   |succ d=>cases l<;>exact hl.elim
def OX(ps:List VP)(r j:Nat):Prop:=∃ls l,VP.box r ls∈ps∧ls[j]?=some (some (l,0))
theorem MZ(h:AW E s tm W)(tS:Bh s){fz:Nat→Prop}(vO:∀b,W.fz b→fz b){p:VP}(hz:∀r j,OX [p] r j→∀b∈W.om (.lf r j),fz b){k:List Lv→Step β}(hl:(KB s p k).leads t):
  ∃vs,(k vs).leads t∧Told s W tm fz p vs:=by
 cases p with
 |slot u l=>
  simp only[KB]at hl;split at hl
  ·rename_i hs
   have tX:u<s.sl.length:=by
    rcases AAo u s.sl.length with tX|uh
    ·exact tX
    ·have:s.slot u=.v false [.bad]:=Az _ uh;rw[this]at hl;exact hl.elim
   obtain⟨x,hl,hr⟩:=KH h (Nx (h.AP u)) hs hl;exact⟨_,hl,tX,x,rfl,hr⟩
  ·exact hl.elim
 |own u ty e d k0=>
  simp only[KB]at hl;split at hl
  ·rename_i c vv AA gen t' e' xs d' vr vQ;split at hl
   ·rename_i hc;simp only[AAG,AAS]at hc;obtain⟨⟨⟨⟨⟨hcr,hcj⟩,hp⟩,tc⟩,hd⟩,xy⟩:=hc;have hp:c.p=[]:=by cases hq:c.p<;>simp_all[isNil]
    subst hd;split at hl
    ·rename_i y hy;obtain⟨q1,q2⟩:=L.AH hy;cases q1;have q2:xs=y:=q2;subst q2
     have tR:s.leaf c.r c.j=.arr c.AA gen ty e xs d:=by unfold St.leaf;rw[hcr,hcj,vQ,tc];rfl
     have wM:AR s W (.ref c) (tm.getD u Go.undef):=by have:=h.AP u;rw[vr]at this;exact this
     obtain⟨h',e2,uJ,hn⟩:=wM gen _ _ _ _ tR (.inl hp);rw[hp]at hn;obtain⟨rfl,rfl⟩:=hn;obtain⟨u',tu,te⟩:=(h.roots c.r).row tR;rw[uJ]at tu;injection tu with tu;rw[←tu]at te
     rw[hcr,hcj]at te uJ
     have tX:u<s.sl.length:=by
      rcases AAo u s.sl.length with tX|uh
      ·exact tX
      ·have:s.slot u=.v false [.bad]:=Az _ uh;rw[this]at vr;cases vr
     refine⟨_,hl,tX,xs,rfl,by rw[vQ],uJ,te,fun hk=>?_⟩;rw[hcr,hcj]at tR;rw[hk]at xy;have h1:c.AA=1:=by simpa[tc]using xy
     rw[h1]at tR;exact⟨_,_,_,_,_,tR⟩
    ·exact hl.elim
   ·exact hl.elim
  ·exact hl.elim
 |box r ls=>
  simp only[KB]at hl;split at hl
  ·rename_i hb
   obtain⟨vs,hl,h1,h2,h3⟩:=H4 h (fz:=fz) r vO ls (s.root r).ls 0 (fun i b hi=>by unfold St.leaf;rw[AAW,Ae,hi];rfl) (tS r)
    (fun i l hi b hb=>hz r i ⟨ls,l,by simp,hi⟩ b (by simpa using hb)) hl
   exact⟨vs,hl,hb,h1,h2,fun v j y hy=>by have:=h3 v j y (by simpa using hy);simpa using this⟩
  ·exact hl.elim
theorem KC(h:AW E s tm W)(tS:Bh s){fz:Nat→Prop}(vO:∀b,W.fz b→fz b):∀ {ps:List VP} {k:List Lv→Step β},(∀r j,OX ps r j→∀b∈W.om (.lf r j),fz b)→(Kv s ps k).leads t→
  ∃tV:List (List Lv),(k tV.flatten).leads t∧tV.length=ps.length∧∀(i:Nat)(p:VP)(vs:List Lv),ps[i]?=some p→tV[i]?=some vs→Told s W tm fz p vs
 | [],k,hz,hl=>⟨[],hl,rfl,fun i p vs hp=>by simp at hp⟩
 |p::ps,k,hz,hl=>by
  simp only[Kv]at hl;obtain⟨vs,hl,hv⟩:=MZ h tS vO (fun r j ⟨ls,l,hm,hj⟩=>hz r j ⟨ls,l,by simp at hm;simp[hm],hj⟩) hl;obtain⟨tV,hl,h1,h2⟩:=KC h tS vO (fun r j ⟨ls,l,hm,hj⟩=>hz r j ⟨ls,l,AAJ _ hm,hj⟩) hl;refine⟨vs::tV,by simpa using hl,by simp[h1],fun i q us hq hu=>?_⟩;cases i with
  |zero=>simp at hq hu;subst hq;subst hu;exact hv
  |succ i=>exact h2 i q us (by simpa using hq) (by simpa using hu)
end
end Go.Ev
namespace Go.Ev
def VP.O1:VP→Nat
 | .slot _ _=>1
 | .own _ _ _ _ _=>1
 | .box _ ls=>(ls.filterMap id).length
theorem C9(v:Nat):∀(ls:List (Option (L×Nat))) (vs ws:List Lv),vs.length=(ls.filterMap id).length→AQ v ls (vs++ws)=AQ v ls vs
 | [],vs,ws,h=>by simp[AQ]
 |none::ls,vs,ws,h=>by simp only[AQ];rw[C9 v ls vs ws (by simpa using h)]
 |some (l,d)::ls,[],ws,h=>by simp at h
 |some (l,d)::ls,x::vs,ws,h=>by simp only[AQ,ABH];rw[C9 v ls vs ws (by simpa using h)]
theorem BI(v:Nat):∀(ls:List (Option (L×Nat))) (vs:List Lv),(AQ v ls vs).length=ls.length
 | [],vs=>rfl
 |none::ls,vs=>by simp[AQ,BI v ls vs]
 |some (l,d)::ls,[]=>by simp[AQ,BI v ls []]
 |some (l,d)::ls,x::vs=>by simp[AQ,BI v ls vs]
theorem Nm(v:Nat)(s0:St):∀(ps:List VP)(vs:List Lv)(σ:St),(σ.app (B6 v s0 ps vs)).sl.length=σ.sl.length∧(σ.app (B6 v s0 ps vs)).ro.length=σ.ro.length:=fun ps vs σ=>CG _ σ
def At(v:Nat)(s0 σ:St)(p:VP)(vs:List Lv):Prop:=match p with
 | .slot t _=>∀x,vs=[x]→σ.slot t=one (.sc x.l x.x)
 | .own t _ _ d k=>∀x,vs=[x]→σ.slot t=one (.ref ⟨t,0,FX v k,v,[]⟩)∧σ.root t=⟨false,v,[DU v d k x]⟩
 | .box r ls=>σ.root r=⟨true,(s0.root r).AA,AQ v ls vs⟩
theorem IU{x:Nat}{xs:List Nat}(h:distinct (x::xs)=true):x∉xs∧distinct xs=true:=by simp only[distinct,AAG,AAT]at h;refine⟨fun hm=>?_,h.2⟩;have:=(A8 xs x).2 hm;rw[h.1]at this;cases this
theorem Cr:∀ {xs ys:List Nat},distinct (xs++ys)=true→(∀x∈xs,x∉ys)∧distinct ys=true
 | [],ys,h=>⟨(fun x hx=>by cases hx),h⟩
 |x::xs,ys,h=>by
  obtain⟨h1,h2⟩:=IU (xs:=xs++ys) h;obtain⟨h3,h4⟩:=Cr h2;refine⟨fun y hy=>?_,h4⟩;rcases AAZ.1 hy with rfl|hy
  ·exact fun hm=>h1 (AAO _ hm)
  ·exact h3 y hy
theorem Ga(v:Nat)(s0:St):∀(ps:List VP) (tV:List (List Lv)) (σ:St),tV.length=ps.length→(∀(i:Nat)(p:VP)(vs:List Lv),ps[i]?=some p→tV[i]?=some vs→vs.length=p.O1)→
  distinct (ps.flatMap VP.AP)=true→distinct (ps.flatMap VP.roots)=true→(∀t∈ps.flatMap VP.AP,t<σ.sl.length)→(∀r∈ps.flatMap VP.roots,r<σ.ro.length)→
  (∀t,t∉ps.flatMap VP.AP→(σ.app (B6 v s0 ps tV.flatten)).slot t=σ.slot t)∧(∀r,r∉ps.flatMap VP.roots→(σ.app (B6 v s0 ps tV.flatten)).root r=σ.root r)∧
  ∀(i:Nat)(p:VP)(vs:List Lv),ps[i]?=some p→tV[i]?=some vs→At v s0 (σ.app (B6 v s0 ps tV.flatten)) p vs
 | [],[],σ,hl,hc,d1,d2,b1,b2=>⟨fun _ _=>rfl,fun _ _=>rfl,fun i p vs hp=>by simp at hp⟩
 | [],_::_,σ,hl,hc,d1,d2,b1,b2=>by simp at hl
 |_::_,[],σ,hl,hc,d1,d2,b1,b2=>by simp at hl
 |p::ps,vs::tV,σ,hl,hc,d1,d2,b1,b2=>by
  rw[AAj]at d1 d2;obtain⟨n1,d1'⟩:=Cr d1;obtain⟨n2,d2'⟩:=Cr d2;have yD:=hc 0 p vs rfl rfl;have vC:∀t∈p.AP,t<σ.sl.length:=fun t ht=>b1 t (by rw[AAj];exact AAQ _ ht);have wA:∀t∈p.roots,t<σ.ro.length:=fun t ht=>b2 t (by rw[AAj];exact AAQ _ ht)
  have main:∀(ws:List Wr),B6 v s0 (p::ps) (vs::tV).flatten=ws++B6 v s0 ps tV.flatten→(∀t,t∉p.AP→(σ.app ws).slot t=σ.slot t)→(∀r,r∉p.roots→(σ.app ws).root r=σ.root r)→At v s0 (σ.app ws) p vs→
    (∀t,t∉(p::ps).flatMap VP.AP→(σ.app (B6 v s0 (p::ps) (vs::tV).flatten)).slot t=σ.slot t)∧(∀r,r∉(p::ps).flatMap VP.roots→(σ.app (B6 v s0 (p::ps) (vs::tV).flatten)).root r=σ.root r)∧
    ∀(i:Nat)(q:VP)(us:List Lv),(p::ps)[i]?=some q→(vs::tV)[i]?=some us→At v s0 (σ.app (B6 v s0 (p::ps) (vs::tV).flatten)) q us:=by
   intro ws he hs hr ha
   obtain⟨i1,i2,i3⟩:=Ga v s0 ps tV (σ.app ws) (by simpa using hl) (fun i q us h1 h2=>hc (i+1) q us (by simpa using h1) (by simpa using h2)) d1' d2'
    (fun t ht=>by rw[(CG ws σ).1];exact b1 t (by rw[AAj];exact AAO _ ht)) (fun t ht=>by rw[(CG ws σ).2];exact b2 t (by rw[AAj];exact AAO _ ht))
   rw[he,BC];refine⟨fun t ht=>?_,fun r uS=>?_,fun i q us h1 h2=>?_⟩
   ·rw[AAj]at ht;rw[i1 t (fun hm=>ht (AAO _ hm)),hs t (fun hm=>ht (AAQ _ hm))]
   ·rw[AAj]at uS;rw[i2 r (fun hm=>uS (AAO _ hm)),hr r (fun hm=>uS (AAQ _ hm))]
   ·cases i with
    |zero=>
     simp at h1 h2;subst h1;subst h2;cases p with
     |slot t l=>intro x hx;rw[i1 t (n1 t (by simp[VP.AP]))];exact ha x hx
     |own t ty e d k=>
      intro x hx;rw[i1 t (n1 t (by simp[VP.AP])),i2 t (n2 t (by simp[VP.roots]))];exact ha x hx
     |box r ls=>
      show(_:St).root r=_;rw[i2 r (n2 r (by simp[VP.roots]))];exact ha
    |succ i=>exact i3 i q us (by simpa using h1) (by simpa using h2)
  cases p with
  |slot t l=>
   obtain⟨x,rfl⟩:∃x,vs=[x]:=by
    match vs,yD with
    | [x],_=>exact⟨x,rfl⟩
   refine main [.slot t (one (.sc x.l x.x))] rfl (fun u hu=>?_) (fun r hr=>rfl) ?_
   ·show(σ.AF _).slot u=_;rw[BS,AAM (fun hh=>hu (by simp[VP.AP,hh.1]))]
   ·intro y hy;simp at hy;subst hy;show(σ.AF _).slot t=_;rw[BS,AAK ⟨rfl,vC t (by simp[VP.AP])⟩]
  |own t ty e d k=>
   obtain⟨x,rfl⟩:∃x,vs=[x]:=by
    match vs,yD with
    | [x],_=>exact⟨x,rfl⟩
   refine main [.root t ⟨false,v,[DU v d k x]⟩,.slot t (one (.ref ⟨t,0,FX v k,v,[]⟩))] rfl (fun u hu=>?_) (fun r hr=>?_) ?_
   ·show((σ.AF _).AF _).slot u=_;rw[BS,AAM (fun hh=>hu (by simp[VP.AP,hh.1]))];rfl
   ·show(σ.AF _).root r=_;rw[Au,AAM (fun hh=>hr (by simp[VP.roots,hh.1]))]
   ·intro y hy;simp at hy;subst hy;refine⟨?_,?_⟩
    ·show((σ.AF _).AF _).slot t=_;rw[BS,AAK ⟨rfl,by rw[(B9 _ _).1];exact vC t (by simp[VP.AP])⟩]
    ·show(σ.AF _).root t=_;rw[Au,AAK ⟨rfl,wA t (by simp[VP.roots])⟩]
  |box r ls=>
   refine main [.root r ⟨true,(s0.root r).AA,AQ v ls vs⟩] ?_ (fun u hu=>rfl) (fun q hq=>?_) ?_
   ·have yD:vs.length=(ls.filterMap id).length:=yD;simp only[B6,AAi];rw[C9 v ls vs _ yD,←yD,AA5];rfl
   ·show(σ.AF _).root q=_;rw[Au,AAM (fun hh=>hq (by simp[VP.roots,hh.1]))]
   ·show(σ.AF _).root r=_;rw[Au,AAK ⟨rfl,wA r (by simp[VP.roots])⟩]
end Go.Ev
namespace Go.Ev
theorem Ed{α γ:Type}(f:Nat→α→γ):∀(n:Nat)(xs:List α),(KY f n xs).length=xs.length
 |_,[]=>rfl
 |n,x::xs=>by simp[KY,Ed f (n+1) xs]
theorem Ht{α γ:Type}(f:Nat→α→γ)(d:γ)(d0:α):∀(n:Nat)(xs:List α)(i:Nat),i<xs.length→nth d (KY f n xs) i=f (n+i) (nth d0 xs i)
 |n,[],i,h=>by simp at h
 |n,x::xs,0,h=>rfl
 |n,x::xs,i+1,h=>by simp only[KY,nth];rw[Ht f d d0 (n+1) xs i (by simpa using h),show n+1+i=n+(i+1) by omega]
theorem GB(ms:List Nat)(ps:List VP)(s:St)(t:Nat):(base ms ps s).slot t=if has ms t then one .bad else(s.slot t).clean (fun r=>has ms r||has (ps.flatMap VP.AP) r) fun r=>has ms r||has (ps.flatMap VP.roots) r:=by
 unfold St.slot base;by_cases h:t<s.sl.length
 ·dsimp only;rw[Ht _ _ (.v false [.bad]) 0 s.sl t h,AAW]
 ·dsimp only;rw[Az _ (by rw[Ed];omega),Az _ (by omega)];split<;>rfl
theorem CK(ms:List Nat)(ps:List VP)(s:St)(r:Nat):(base ms ps s).root r=if has ms r then dead else s.root r:=by
 unfold St.root base;by_cases h:r<s.ro.length
 ·dsimp only;rw[Ht _ _ dead 0 s.ro r h,AAW]
 ·dsimp only;rw[Az _ (by rw[Ed];omega),Az _ (by omega)];split<;>rfl
theorem Fh(ms:List Nat)(ps:List VP)(s:St):(base ms ps s).sl.length=s.sl.length∧(base ms ps s).ro.length=s.ro.length:=⟨Ed _ _ _,Ed _ _ _⟩
theorem KT(m1 m2:Nat→Bool)(a:AV):∀n∈(a.clean m1 m2).AG,n∈a.AG:=by
 cases a with
 |Dp vs=>intro n hn;simp[AV.clean,one,AV.AG,LA.AG]at hn
 |bx as=>intro n hn;simp[AV.clean,one,AV.AG,LA.AG]at hn
 |v g as=>
  intro n hn;obtain⟨b,hb,hn⟩:=AAI.1 (show n∈(as.map (LA.clean m1 m2)).flatMap LA.AG from hn);obtain⟨c,hc,rfl⟩:=AAs.1 hb;refine AAI.2 ⟨c,hc,?_⟩;cases c with
  |ref c=>simp only[LA.clean]at hn;split at hn;cases hn;exact hn
  |EF c lo hi=>simp only[LA.clean]at hn;split at hn;cases hn;exact hn
  |Bn c=>simp only[LA.clean]at hn;split at hn;cases hn;exact hn
  |ptr r j AA=>simp only[LA.clean]at hn;split at hn;cases hn;exact hn
  |JC t c=>simp only[LA.clean]at hn;split at hn;cases hn;exact hn
  |EI g ps qs=>simp only[LA.clean]at hn;split at hn;cases hn;exact hn
  |_=>exact hn
theorem LK{cx:Cx}{m1 m2:Nat→Bool}(h1:∀r,m1 r=true→cx.FD r=false)(h2:∀r,m2 r=true→cx.lock r=false)(a:AV):C5 cx a (a.clean m1 m2):=by
 cases a with
 |Dp vs=>exact .Dp vs
 |bx as=>exact .bx as
 |v g as=>
  refine .v g as _ (by simp) fun j b hj=>⟨LA.clean m1 m2 b,by rw[AAX,hj];rfl,?_⟩;cases b with
  |ref c=>simp only[LA.clean];split;exact .inr ⟨rfl,h2 _ (by assumption)⟩;exact .inl rfl
  |EF c lo hi=>simp only[LA.clean];split;exact .inr ⟨rfl,h2 _ (by assumption)⟩;exact .inl rfl
  |Bn c=>simp only[LA.clean];split;exact .inr ⟨rfl,h2 _ (by assumption)⟩;exact .inl rfl
  |ptr r j AA=>simp only[LA.clean];split;exact .inr ⟨rfl,h1 _ (by assumption)⟩;exact .inl rfl
  |JC t c=>simp only[LA.clean];split;exact .inr ⟨rfl,h2 _ (by assumption)⟩;exact .inl rfl
  |EI g ps qs=>
   simp only[LA.clean];split
   ·rename_i h;obtain⟨p,hp,hm⟩:=AA6.1 h;exact .inr ⟨rfl,p,hp,h1 _ hm⟩
   ·exact .inl rfl
  |_=>exact .inl rfl
end Go.Ev
