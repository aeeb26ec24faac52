/- Evaluator. Conditions: none. -/
import Derived.Test.YtimfhfkcgkplcaaGreatDoorLib4
import Derived.Shelf.Strconv.Itoa3
import Derived.Lib.LaidU8
import Derived.Lib.ItoaLen
import Derived.Handed
import Derived.LaidMore
import Derived.LaidLaws
import Derived.MakeChecks
import Derived.Stop.Joined
set_option linter.all false
namespace Go.Ev
open Go.Proofs Go.Shelf
open Go.ChangeShapes Go.RowKit
def L8(x:Int):Option ADD:=bif decide (-9223372036854775808<=x)&&decide (x<=9223372036854775807)then some (Go.Lib.itoa x)else none
def F3:Sm:=⟨[.val false [.int .i64]],[(false,[(.str,0)])]⟩
def Kv : List (String × Array Value) := [("internal/strconv.uint64pow10", (Go.Lib.pow10Tab.map λz => Value.int .u64 z).toArray)]
theorem Ol{P:Program}{ρ:Ren}(L:LaysM.n171 P ρ):JO P Kv (ρ.f 171) ⟨F3,λx=>L8 x⟩:=by
 intro args w fz uN bk om x z hg uO hx hz;have hz:L8 x=some z:=hz
 obtain⟨u,rfl⟩:∃u,args=[u]:=by
  match args,uO.len with
  | [u],_=>exact⟨u,rfl⟩
 obtain⟨vs,rfl⟩:∃vs,uN=[vs]:=by
  match uN,uO.Bb with
  | [vs],_=>exact⟨vs,rfl⟩
 obtain⟨r1,r2,r3⟩:=uO.each 0 (.val false [.int .i64]) u vs rfl rfl rfl
 obtain⟨lv,rfl⟩:∃lv,vs=[lv]:=by
  match vs,congrArg List.length r1 with
  | [lv],_=>exact⟨lv,rfl⟩
 obtain⟨y,hy,hr⟩:=r3 0 (.int .i64,0) lv rfl rfl;have hyu:u=y:=by simpa[A8]using hy
 subst hyu;have xI:=Ay _ _ _ hx
 have xI:([⟨.int .i64,x⟩]:List Lv)=[lv]:=by
  have h2:unpack F3.ins x=[lv]:=by simpa using xI
  exact h2
 injection xI with xI _
 subst xI;have hu:u=.int .i64 x:=hr.1;subst hu;unfold L8 at hz;cases hb:(decide (-9223372036854775808<=(show Int from x))&&decide ((show Int from x)<=9223372036854775807))with
 |false=>rw[show(decide (-9223372036854775808<=(show Int from x))&&decide ((show Int from x)<=9223372036854775807))=false from hb]at hz;cases hz
 |true=>
  rw[show(decide (-9223372036854775808<=(show Int from x))&&decide ((show Int from x)<=9223372036854775807))=true from hb]at hz;simp only[AAJ,AAe]at hb;injection hz with hz
  obtain⟨htab,_⟩:=hg _ (ABI.2 rfl);have vE:=Any.strconv_Itoa L x hb.1 hb.2 w htab;refine vE.mono ?_
  rintro e w' ⟨rfl,k,os,rfl⟩
  refine⟨_,fz,om,[.string ⟨(Go.Lib.itoa x).toArray⟩],[[⟨.str,z⟩]],[[]],rfl,?_⟩
  have hheap:∀b,b<w.heap.size->(Go.Sort.grow (w.drewN k) os).heap[b]?=w.heap[b]?:=by intro b hb;show(w.heap++os)[b]?=_;rw[AAt hb]
  have vR:w.heap.size<=(Go.Sort.grow (w.drewN k) os).heap.size:=by show w.heap.size<=(w.heap++os).size;simp
  exact {
   outs:=rfl
   res:=rfl
   J1:=by
    refine⟨⟨rfl,rfl,λj p lv hj hv=>?_⟩,trivial⟩;cases j with
    |zero=>
     simp at hj hv;subst hj;subst hv;refine⟨_,rfl,?_,?_⟩
     ·rw[<-hz]
     ·show om (.fl (0+0))=[];exact uO.fl _
    |succ j=>simp at hj
   len:=rfl
   each:=λi pm u vs h1 h2 h3=>by
    cases i with
    |zero=>simp[F3]at h1 h3;subst h1;subst h3;rfl
    |succ i=>simp[F3]at h1
   blk:=λ_=>rfl
   nodup:=uO.nodup
   A7:=uO.A7
   own:=λk b hb=>by obtain⟨a1,a2⟩:=uO.own k b hb;exact⟨a1,J,.inr ⟨k,hb⟩⟩
   fz:=λb hb=>⟨by have:=uO.fz b hb;omega,.inl hb⟩
   frame:=λb hb _=>hheap b hb
   size:=vR
   rest:=⟨rfl,rfl,rfl⟩
   kept:=λi ls j p h1 _ _=>by
    cases i with
    |zero=>simp[F3]at h1
    |succ i=>simp[F3]at h1 }
theorem L2{P:Program}{T:List (String×Array Value)}{W:World}(h:∀x∈T,W.var? P x.1=some x.2):Ov P T W (λb=>∃k:Key,b∈(λ_=>[]:Key->Is) k):=by
 intro x hx;have h1:=h x hx;refine⟨h1,?_⟩;unfold World.var? at h1;cases hg:P.globalNamed x.1 with
 |none=>rw[hg]at h1;cases h1
 |some g=>
  refine⟨g,rfl,?_,?_⟩
  ·rintro ⟨k,hb⟩;cases hb
  ·rw[hg]at h1;have h1:(match W.heap[g]? with|some (.cells cs _ _)=>some cs|_=>none)=some x.2:=h1;cases ho:W.heap[g]? with
   |none=>rw[ho]at h1;cases h1
   |some o=>exact(AAz.1 ho).1
def NW (P : Program) : Bool := match P.globalNamed "internal/strconv.uint64pow10" with
 |some g=>match(P.globals[g]?).map (·.type)with
  |some t=>match P.underlying t with
   |some (.array n e)=>(match P.underlying e with
    |some (.int .u64)=>true
    |_=>false)&&P.cellsOf e==1&&P.cellsOf t==n
   |_=>false
  |none=>false
 |none=>false
theorem OJ {P : Program} {laid : List (String × DataW Unit)} (hb : NW P = true) (hm : ("internal/strconv.uint64pow10", Go.Lib.tabData .u64 Go.Lib.pow10Tab) ∈ laid) (hp : (laid.all λx => x.2.handleName?.isNone) = true) (W : World) (h : laidMetH P laid W) : ∀ x ∈ Kv, W.var? P x.1 = some x.2 := by
 rw[MakeChecks.laidMetH_plain _ _ _ hp]at h;unfold NW at hb;split at hb
 ·rename_i g hg;split at hb
  ·rename_i t wO;split at hb
   ·rename_i n e ht;simp only[AAJ,AAT]at hb;obtain⟨⟨h1,hce⟩,hct⟩:=hb;split at h1
    ·rename_i he;obtain⟨g',t',cs,fuel,p,hg',ht',hvar,hd⟩:=Go.Lib.laidMet.reads h hm;obtain rfl:=Option.some.inj (hg.symm.trans hg');obtain rfl:=Option.some.inj (wO.symm.trans ht');intro x hx;rw[ABI.1 hx]
     show W.var? P "internal/strconv.uint64pow10" = some (Go.Lib.pow10Tab.map λz => Value.int .u64 z).toArray
     rw[hvar,<-Go.Lib.cells_of_tab ht he hce hct hd]
    ·cases h1
   ·cases hb
  ·cases hb
 ·cases hb
theorem NZ{H:Type}{enc:TypeId×Value->H}{C:Checked}{os:Os}{f:FuncId}{fn:Func}{s:ChangeSpec}{conds:List PathCond}{laid:List (String×DataW Unit)}{T:List (String×Array Value)}
  (own:ownKnob C.prog.godebug=none) (started:os.Started) (noInit:C.prog.inits.idxOf? f=none) (xw:C.prog.funcs[f]?=some fn)
  (witness:∃(w:World) (tape:Tape) (i:Input),w.os=os/\(w.forCall tape i).Shaped C.prog/\i.vars=[]/\Input.okWide C.prog (w.forCall tape i) .any w.heap.size f i/\
   ((s.pre enc C.prog fn conds false (w.forCall tape i).memory i.args/\laidMetH C.prog laid (w.forCall tape i).memory)/\sizedMet enc C.prog fn (OpenSpec.ofChange s) false (w.forCall tape i).memory i.args)/\({}:Assume).holds C.prog (lone (Frame.enter C.prog f i.args .normal) [] (w.forCall tape i)))
  (hT:∀W,laidMetH C.prog laid W->∀x∈T,W.var? C.prog x.1=some x.2)
  {sm:Sm} {F:Nat->sm.ins.D->Option sm.outs.D} (vH:∀n,JO C.prog T f ⟨sm,F n⟩) (xV:GD C.prog fn.params.toList=some sm.ps) (hrs:sm.rs=[(false,[(.bool,0)])])
  {tb:TypeId} (zI:fn.resultTypes = #[tb]) (htb:C.prog.underlying tb=some .bool) (xl:s.vars=[]) (yD:Hv C.prog fn.params.toList=true) (yz:laidOutB C.prog=true)
  (wz:∀(ds:List (DataW H)),ds.length=fn.params.toList.length->s.fn H ds={results:=[.lit (.bool true)],args:=ds })
  (pure:∀x:sm.ins.D,sm.ins.fit x->∃n z,F n x=some z/\unpack sm.outs z=[⟨.bool,(show Bool from true)⟩]):
  ReturnsInHanded {} C os f .any (λw args=>(s.pre enc C.prog fn conds false w args/\laidMetH C.prog laid w)/\sizedMet enc C.prog fn (OpenSpec.ofChange s) false w args) (s.post enc C.prog fn false true false false):=by
 refine returnsInHanded_of_change_and (X:=λw _=>laidMetH C.prog laid w) (λ_ _ _ hh h=>h.of_heap hh) own started noInit xw witness ?_;intro W base args ds gs before wW hW _ _ hL _;have vf:=hW;obtain⟨p,q,hA,hV,rfl,wJ,vd⟩:=hW;rw[xl]at hV;obtain⟨rfl,rfl⟩:=trodVars_none hV;obtain⟨a1,a2,uN,a3,a4,a5,a6⟩:=Ir hA (λj t v ht hv=>wW j t v (by simpa using ht) (by simpa using hv)) xV;have hkin:uN.flatten.map (·.l)=sm.ins.kinds:=by rw[a4];exact(Dv _).symm
 obtain⟨x,hx,vD⟩:=Gr sm.ins uN.flatten hkin;obtain⟨n,z,hz,hzu⟩:=pure x (vD a5)
 have uO:Di sm.ps W (Old W) args.toList uN (λ_=>0) (λ_=>[]):={
  len:=a1
  Bb:=a3
  each:=λi pm u xs h1 h2 h3=>(a6 i pm u xs h1 h2 h3).1
  blk:=λi=>by
   cases hq:sm.ps[i]? with
   |none=>rfl
   |some pm=>
    have uR:=(AAK.1 hq).1;obtain⟨_,g,ls,rfl⟩:=a6 i pm _ _ hq (AAI J) (AAI J);rfl
  none:=λi _ _ j=>rfl
  box:=λi ls _ j _=>rfl
  row:=λi g ls _ j _=>rfl
  fl:=λk=>rfl
  nodup:=λk=>AAS
  A7:=λk k' _ b hb=>by cases hb
  own:=λk b hb=>by cases hb
  fz:=λb hb=>hb }
 have vE:=vH n args.toList W (Old W) uN _ _ x z (L2 (hT W hL)) uO hx hz;have xS:sm.mk?=false:=by unfold Sm.mk?;rw[hrs]
 have xS:(Ln.mk sm (F n)).s.mk?=false:=xS;rw[xS]at vE;rw[ABF]at vE;refine vE.mono ?_
 rintro en W' ⟨r,uQ,vG,rv,vsR,vsP,rfl,co⟩
 have wU:=co.outs;have xh:=co.J1;rw[hrs]at xh;obtain⟨u,vs,rfl,rfl,b1,_,b2⟩:=J2 xh;have vX:vs.length=1:=by have:=congrArg List.length b1;simpa using this
 obtain⟨lv,rfl⟩:∃lv,vs=[lv]:=by
  match vs,vX with
  | [x],_=>exact⟨x,rfl⟩
 obtain⟨l0,x0⟩:=lv;have vq:l0=.bool:=by simpa using b1
 subst vq;obtain⟨y,hy,hr⟩:=b2 0 (.bool,0) ⟨.bool,x0⟩ rfl rfl;have hyu:u=y:=by simpa[A8]using hy
 subst hyu;have hzu:unpack sm.outs z=[⟨.bool,(show Bool from true)⟩]:=hzu;have wU:unpack sm.outs z=_:=wU;rw[hzu]at wU;simp only[AAh,List.flatten_nil,AA1,AA8,AAv,List.cons.injEq]at wU
 have yF:x0=(show Bool from true):=by
  have:=wU.1;injection this with _ h2
  exact h2.symm
 subst yF;have hu:u=.bool true:=hr.1;subst hu;have yP:r=.bool true:=co.res;subst yP;have wh:Below W.heap.size W W':=⟨co.rest.1,co.rest.2.1,co.rest.2.2,co.size,λk hk=>co.frame k hk λ_ hb=>by cases hb⟩;have uR:∀y∈p,y.block<W.heap.size:=λy hy=>vf.lt y ADf;refine⟨_,rfl,ds,[],_,[],p,[],vf,?_,?_,?_,wh.frame _,λh=>by cases h⟩
 ·rw[AA1,wz ds a2,zI];exact trodAll_mk1 (shut_bool htb _)
 ·rw[AA1,wz ds a2];exact DY yz wh yD hA uR
 ·rw[AA1,wz ds a2,xl];rfl
end Go.Ev
