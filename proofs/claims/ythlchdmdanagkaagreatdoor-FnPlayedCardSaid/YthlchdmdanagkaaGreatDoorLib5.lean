/- Evaluator. Conditions: none. -/
import Derived.Test.YthlchdmdanagkaaGreatDoorLib4
import Derived.Shelf.Strconv.Itoa3
import Derived.Lib.LaidU8
import Derived.Lib.ItoaLen
import Derived.Handed
import Derived.LaidMore
import Derived.LaidLaws
import Derived.MakeChecks
import Derived.Stop.Joined
set_option linter.all false
namespace Go.Ev
open Go.Proofs Go.Shelf
open Go.ChangeShapes Go.RowKit
def L4(x:Int):Option ADZ:=bif decide (-9223372036854775808<=x)&&decide (x<=9223372036854775807)then some (Go.Lib.itoa x)else none
def F1:Sm:=⟨[.val false [.int .i64]],[(false,[(.str,0)])]⟩
def Ks : List (String × Array Value) := [("internal/strconv.uint64pow10", (Go.Lib.pow10Tab.map λz => Value.int .u64 z).toArray)]
theorem OW{P:Program}{ρ:Ren}(L:LaysM.n171 P ρ):JN P Ks (ρ.f 171) ⟨F1,λx=>L4 x⟩:=by
 intro args w fz xu bk om x z hg xv hx hz;have hz:L4 x=some z:=hz
 obtain⟨u,rfl⟩:∃u,args=[u]:=by
  match args,xv.len with
  | [u],_=>exact⟨u,rfl⟩
 obtain⟨vs,rfl⟩:∃vs,xu=[vs]:=by
  match xu,xv.Bb with
  | [vs],_=>exact⟨vs,rfl⟩
 obtain⟨r1,r2,r3⟩:=xv.each 0 (.val false [.int .i64]) u vs rfl rfl rfl
 obtain⟨lv,rfl⟩:∃lv,vs=[lv]:=by
  match vs,congrArg List.length r1 with
  | [lv],_=>exact⟨lv,rfl⟩
 obtain⟨y,hy,hr⟩:=r3 0 (.int .i64,0) lv rfl rfl;have hyu:u=y:=by simpa[A9]using hy
 subst hyu;have hup:=Ay _ _ _ hx
 have hup:([⟨.int .i64,x⟩]:List Lv)=[lv]:=by
  have h2:unpack F1.ins x=[lv]:=by simpa using hup
  exact h2
 injection hup with hup _
 subst hup;have hu:u=.int .i64 x:=hr.1;subst hu;unfold L4 at hz;cases hb:(decide (-9223372036854775808<=(show Int from x))&&decide ((show Int from x)<=9223372036854775807))with
 |false=>rw[show(decide (-9223372036854775808<=(show Int from x))&&decide ((show Int from x)<=9223372036854775807))=false from hb]at hz;cases hz
 |true=>
  rw[show(decide (-9223372036854775808<=(show Int from x))&&decide ((show Int from x)<=9223372036854775807))=true from hb]at hz;simp only[AAN,AAh]at hb;injection hz with hz
  obtain⟨htab,_⟩:=hg _ (ABM.2 rfl);have ye:=Any.strconv_Itoa L x hb.1 hb.2 w htab;refine ye.mono ?_
  rintro e w' ⟨rfl,k,os,rfl⟩
  refine⟨_,fz,om,[.string ⟨(Go.Lib.itoa x).toArray⟩],[[⟨.str,z⟩]],[[]],rfl,?_⟩
  have hheap:∀b,b<w.heap.size->(Go.Sort.grow (w.drewN k) os).heap[b]?=w.heap[b]?:=by intro b hb;show(w.heap++os)[b]?=_;rw[AA3 hb]
  have yt:w.heap.size<=(Go.Sort.grow (w.drewN k) os).heap.size:=by show w.heap.size<=(w.heap++os).size;simp
  exact {
   outs:=rfl
   res:=rfl
   J1:=by
    refine⟨⟨rfl,rfl,λj p lv hj hv=>?_⟩,trivial⟩;cases j with
    |zero=>
     simp at hj hv;subst hj;subst hv;refine⟨_,rfl,?_,?_⟩
     ·rw[<-hz]
     ·show om (.fl (0+0))=[];exact xv.fl _
    |succ j=>simp at hj
   len:=rfl
   each:=λi pm u vs h1 h2 h3=>by
    cases i with
    |zero=>simp[F1]at h1 h3;subst h1;subst h3;rfl
    |succ i=>simp[F1]at h1
   blk:=λ_=>rfl
   nodup:=xv.nodup
   A4:=xv.A4
   own:=λk b hb=>by obtain⟨a1,a2⟩:=xv.own k b hb;exact⟨a1,J,.inr ⟨k,hb⟩⟩
   fz:=λb hb=>⟨by have:=xv.fz b hb;omega,.inl hb⟩
   frame:=λb hb _=>hheap b hb
   size:=yt
   rest:=⟨rfl,rfl,rfl⟩
   kept:=λi ls j p h1 _ _=>by
    cases i with
    |zero=>simp[F1]at h1
    |succ i=>simp[F1]at h1 }
theorem Ly{P:Program}{T:List (String×Array Value)}{W:World}(h:∀x∈T,W.var? P x.1=some x.2):Od P T W (λb=>∃k:Key,b∈(λ_=>[]:Key->It) k):=by
 intro x hx;have h1:=h x hx;refine⟨h1,?_⟩;unfold World.var? at h1;cases hg:P.globalNamed x.1 with
 |none=>rw[hg]at h1;cases h1
 |some g=>
  refine⟨g,rfl,?_,?_⟩
  ·rintro ⟨k,hb⟩;cases hb
  ·rw[hg]at h1;have h1:(match W.heap[g]? with|some (.cells cs _ _)=>some cs|_=>none)=some x.2:=h1;cases ho:W.heap[g]? with
   |none=>rw[ho]at h1;cases h1
   |some o=>exact(AA2.1 ho).1
def NQ (P : Program) : Bool := match P.globalNamed "internal/strconv.uint64pow10" with
 |some g=>match(P.globals[g]?).map (·.type)with
  |some t=>match P.underlying t with
   |some (.array n e)=>(match P.underlying e with
    |some (.int .u64)=>true
    |_=>false)&&P.cellsOf e==1&&P.cellsOf t==n
   |_=>false
  |none=>false
 |none=>false
theorem N6 {P : Program} {laid : List (String × DataW Unit)} (hb : NQ P = true) (hm : ("internal/strconv.uint64pow10", Go.Lib.tabData .u64 Go.Lib.pow10Tab) ∈ laid) (hp : (laid.all λx => x.2.handleName?.isNone) = true) (W : World) (h : laidMetH P laid W) : ∀ x ∈ Ks, W.var? P x.1 = some x.2 := by
 rw[MakeChecks.laidMetH_plain _ _ _ hp]at h;unfold NQ at hb;split at hb
 ·rename_i g hg;split at hb
  ·rename_i t zv;split at hb
   ·rename_i n e ht;simp only[AAN,AAX]at hb;obtain⟨⟨h1,hce⟩,hct⟩:=hb;split at h1
    ·rename_i he;obtain⟨g',t',cs,fuel,p,hg',ht',hvar,hd⟩:=Go.Lib.laidMet.reads h hm;obtain rfl:=Option.some.inj (hg.symm.trans hg');obtain rfl:=Option.some.inj (zv.symm.trans ht');intro x hx;rw[ABM.1 hx]
     show W.var? P "internal/strconv.uint64pow10" = some (Go.Lib.pow10Tab.map λz => Value.int .u64 z).toArray
     rw[hvar,<-Go.Lib.cells_of_tab ht he hce hct hd]
    ·cases h1
   ·cases hb
  ·cases hb
 ·cases hb
theorem NT{H:Type}{enc:TypeId×Value->H}{C:Checked}{os:Os}{f:FuncId}{fn:Func}{s:ChangeSpec}{conds:List PathCond}{laid:List (String×DataW Unit)}{T:List (String×Array Value)}
  (own:ownKnob C.prog.godebug=none) (started:os.Started) (noInit:C.prog.inits.idxOf? f=none) (hfn:C.prog.funcs[f]?=some fn)
  (witness:∃(w:World) (tape:Tape) (i:Input),w.os=os/\(w.forCall tape i).Shaped C.prog/\i.vars=[]/\Input.okWide C.prog (w.forCall tape i) .any w.heap.size f i/\
   ((s.pre enc C.prog fn conds false (w.forCall tape i).memory i.args/\laidMetH C.prog laid (w.forCall tape i).memory)/\sizedMet enc C.prog fn (OpenSpec.ofChange s) false (w.forCall tape i).memory i.args)/\({}:Assume).holds C.prog (lone (Frame.enter C.prog f i.args .normal) [] (w.forCall tape i)))
  (hT:∀W,laidMetH C.prog laid W->∀x∈T,W.var? C.prog x.1=some x.2)
  {sm:Sm} {F:Nat->sm.ins.D->Option sm.outs.D} (yh:∀n,JN C.prog T f ⟨sm,F n⟩) (hps:GC C.prog fn.params.toList=some sm.ps) (hrs:sm.rs=[(false,[(.bool,0)])])
  {tb:TypeId} (hres:fn.resultTypes = #[tb]) (htb:C.prog.underlying tb=some .bool) (hvars:s.vars=[]) (hreads:Hu C.prog fn.params.toList=true) (hlaid:laidOutB C.prog=true)
  (hspec:∀(ds:List (DataW H)),ds.length=fn.params.toList.length->s.fn H ds={results:=[.lit (.bool true)],args:=ds })
  (pure:∀x:sm.ins.D,sm.ins.fit x->∃n z,F n x=some z/\unpack sm.outs z=[⟨.bool,(show Bool from true)⟩]):
  ReturnsInHanded {} C os f .any (λw args=>(s.pre enc C.prog fn conds false w args/\laidMetH C.prog laid w)/\sizedMet enc C.prog fn (OpenSpec.ofChange s) false w args) (s.post enc C.prog fn false true false false):=by
 refine returnsInHanded_of_change_and (X:=λw _=>laidMetH C.prog laid w) (λ_ _ _ hh h=>h.of_heap hh) own started noInit hfn witness ?_;intro W base args ds gs before zw hW _ _ hL _;have zL:=hW;obtain⟨p,q,hA,hV,rfl,zi,zG⟩:=hW;rw[hvars]at hV;obtain⟨rfl,rfl⟩:=trodVars_none hV;obtain⟨a1,a2,xu,a3,a4,a5,a6⟩:=Iu hA (λj t v ht hv=>zw j t v (by simpa using ht) (by simpa using hv)) hps;have hkin:xu.flatten.map (·.l)=sm.ins.kinds:=by rw[a4];exact(Dx _).symm
 obtain⟨x,hx,yd⟩:=Gq sm.ins xu.flatten hkin;obtain⟨n,z,hz,hzu⟩:=pure x (yd a5)
 have xv:Dj sm.ps W (Old W) args.toList xu (λ_=>0) (λ_=>[]):={
  len:=a1
  Bb:=a3
  each:=λi pm u xs h1 h2 h3=>(a6 i pm u xs h1 h2 h3).1
  blk:=λi=>by
   cases hq:sm.ps[i]? with
   |none=>rfl
   |some pm=>
    have xz:=(AAO.1 hq).1;obtain⟨_,g,ls,rfl⟩:=a6 i pm _ _ hq (AAM J) (AAM J);rfl
  none:=λi _ _ j=>rfl
  box:=λi ls _ j _=>rfl
  row:=λi g ls _ j _=>rfl
  fl:=λk=>rfl
  nodup:=λk=>AAW
  A4:=λk k' _ b hb=>by cases hb
  own:=λk b hb=>by cases hb
  fz:=λb hb=>hb }
 have ye:=yh n args.toList W (Old W) xu _ _ x z (Ly (hT W hL)) xv hx hz;have hmk:sm.mk?=false:=by unfold Sm.mk?;rw[hrs]
 have hmk:(Lj.mk sm (F n)).s.mk?=false:=hmk;rw[hmk]at ye;rw[ABJ]at ye;refine ye.mono ?_
 rintro en W' ⟨r,xy,yg,rv,vsR,vsP,rfl,co⟩
 have zt:=co.outs;have hres1:=co.J1;rw[hrs]at hres1;obtain⟨u,vs,rfl,rfl,b1,_,b2⟩:=J2 hres1;have zE:vs.length=1:=by have:=congrArg List.length b1;simpa using this
 obtain⟨lv,rfl⟩:∃lv,vs=[lv]:=by
  match vs,zE with
  | [x],_=>exact⟨x,rfl⟩
 obtain⟨l0,x0⟩:=lv;have zQ:l0=.bool:=by simpa using b1
 subst zQ;obtain⟨y,hy,hr⟩:=b2 0 (.bool,0) ⟨.bool,x0⟩ rfl rfl;have hyu:u=y:=by simpa[A9]using hy
 subst hyu;have hzu:unpack sm.outs z=[⟨.bool,(show Bool from true)⟩]:=hzu;have zt:unpack sm.outs z=_:=zt;rw[hzu]at zt;simp only[AAl,List.flatten_nil,AA4,ABC,AAy,List.cons.injEq]at zt
 have hx0:x0=(show Bool from true):=by
  have:=zt.1;injection this with _ h2
  exact h2.symm
 subst hx0;have hu:u=.bool true:=hr.1;subst hu;have hrr:r=.bool true:=co.res;subst hrr;have hbelow:Below W.heap.size W W':=⟨co.rest.1,co.rest.2.1,co.rest.2.2,co.size,λk hk=>co.frame k hk λ_ hb=>by cases hb⟩;have xz:∀y∈p,y.block<W.heap.size:=λy hy=>zL.lt y ADu;refine⟨_,rfl,ds,[],_,[],p,[],zL,?_,?_,?_,hbelow.frame _,λh=>by cases h⟩
 ·rw[AA4,hspec ds a2,hres];exact trodAll_mk1 (shut_bool htb _)
 ·rw[AA4,hspec ds a2];exact Da hlaid hbelow hreads hA xz
 ·rw[AA4,hspec ds a2,hvars];rfl
end Go.Ev
