/- A plain evaluator for Go's loaded code,and that it is sound;part 5. Conditions: none. -/
import Derived.Test.YtddkakpbnplbjaaDoorLib4
import Derived.Shelf.Strconv.Itoa3
import Derived.Lib.LaidU8
import Derived.Lib.ItoaLen
import Derived.Handed
import Derived.LaidMore
import Derived.LaidLaws
import Derived.MakeChecks
import Derived.Stop.Joined
import Derived.Shelf.Strings.Shaped
import Derived.Shelf.Strings.SplitShaped
import Derived.Shelf.Small.Strs
import Derived.HandedShaped
import Derived.Shelf.Strconv.ErrVarAll
import Derived.Stop.LaidErr
set_option linter.all false
namespace Go.Ev
open Go.Proofs Go.Shelf
open Go.ChangeShapes Go.RowKit
def K3(x:Int):Option (List UInt8):=bif decide (-9223372036854775808≤x)&&decide (x≤9223372036854775807)then some (Go.Lib.itoa x)else none
def FV:Sm:=⟨[.val false [.int .i64]],[(false,[(.str,0)])]⟩
def LI : List (String × Array Value) := [("internal/strconv.uint64pow10", (Go.Lib.pow10Tab.map fun z => Value.int .u64 z).toArray)]
theorem Nb{P:Program}{ρ:Ren}(L:LaysM.n171 P ρ):Dz P LI (ρ.f 171) ⟨FV,fun x=>K3 x⟩:=by
 intro args w fz Vn bk om x z hg Vm hx hz;have hz:K3 x=some z:=hz
 obtain⟨u,rfl⟩:∃u,args=[u]:=by
  match args,Vm.len with
  | [u],_=>exact⟨u,rfl⟩
 obtain⟨vs,rfl⟩:∃vs,Vn=[vs]:=by
  match Vn,Vm.BQ with
  | [vs],_=>exact⟨vs,rfl⟩
 obtain⟨r1,r2,r3⟩:=Vm.each 0 (.val false [.int .i64]) u vs rfl rfl rfl
 obtain⟨lv,rfl⟩:∃lv,vs=[lv]:=by
  match vs,congrArg List.length r1 with
  | [lv],_=>exact⟨lv,rfl⟩
 obtain⟨y,hy,hr⟩:=r3 0 (.int .i64,0) lv rfl rfl;have ag:u=y:=by simpa[Ay]using hy
 subst ag;have Xv:=Ae _ _ _ hx
 have Xv:([⟨.int .i64,x⟩]:List Lv)=[lv]:=by
  have h2:unpack FV.ins x=[lv]:=by simpa using Xv
  exact h2
 injection Xv with Xv _
 subst Xv;have hu:u=.int .i64 x:=hr.1;subst hu;unfold K3 at hz;cases hb:(decide (-9223372036854775808≤(show Int from x))&&decide ((show Int from x)≤9223372036854775807))with
 |false=>rw[show(decide (-9223372036854775808≤(show Int from x))&&decide ((show Int from x)≤9223372036854775807))=false from hb]at hz;cases hz
 |true=>
  rw[show(decide (-9223372036854775808≤(show Int from x))&&decide ((show Int from x)≤9223372036854775807))=true from hb]at hz;simp only[j8,kV]at hb;injection hz with hz
  obtain⟨fZ,_⟩:=hg _ (km.2 rfl);have WB:=Any.strconv_Itoa L x hb.1 hb.2 w fZ;refine WB.mono ?_
  rintro e w' ⟨rfl,k,os,rfl⟩
  refine⟨_,fz,om,[.string ⟨(Go.Lib.itoa x).toArray⟩],[[⟨.str,z⟩]],[[]],rfl,?_⟩
  have cw:∀b,b<w.heap.size→(Go.Sort.grow (w.drewN k) os).heap[b]?=w.heap[b]?:=by intro b hb;show(w.heap++os)[b]?=_;rw[ka hb]
  have WZ:w.heap.size≤(Go.Sort.grow (w.drewN k) os).heap.size:=by show w.heap.size≤(w.heap++os).size;simp
  exact {
   outs:=rfl
   res:=rfl
   IG:=by
    refine⟨⟨rfl,rfl,fun j p lv hj hv=>?_⟩,trivial⟩;cases j with
    |zero=>
     simp at hj hv;subst hj;subst hv;refine⟨_,rfl,?_,?_⟩
     ·rw[←hz]
     ·show om (.fl (0+0))=[];exact Vm.fl _
    |succ j=>simp at hj
   len:=rfl
   each:=fun i pm u vs h1 h2 h3=>by
    cases i with
    |zero=>simp[FV]at h1 h3;subst h1;subst h3;rfl
    |succ i=>simp[FV]at h1
   AT:=fun _=>rfl
   nodup:=Vm.nodup
   Av:=Vm.Av
   own:=fun k b hb=>by obtain⟨a1,a2⟩:=Vm.own k b hb;exact⟨a1,by omega,.inr ⟨k,hb⟩⟩
   fz:=fun b hb=>⟨by have:=Vm.fz b hb;omega,.inl hb⟩
   frame:=fun b hb _=>cw b hb
   size:=WZ
   rest:=⟨rfl,rfl,rfl⟩
   kept:=fun i ls j p h1 _ _=>by
    cases i with
    |zero=>simp[FV]at h1
    |succ i=>simp[FV]at h1 }
theorem J4{P:Program}{T:List (String×Array Value)}{W:World}(h:∀x∈T,W.var? P x.1=some x.2):PK P T W (fun b=>∃k:Key,b∈(fun _=>[]:Key→List Nat) k):=by
 intro x hx;have h1:=h x hx;refine⟨h1,?_⟩;unfold World.var? at h1;cases hg:P.globalNamed x.1 with
 |none=>rw[hg]at h1;cases h1
 |some g=>
  refine⟨g,rfl,?_,?_⟩
  ·rintro ⟨k,hb⟩;cases hb
  ·rw[hg]at h1;have h1:(match W.heap[g]? with|some (.cells cs _ _)=>some cs|_=>none)=some x.2:=h1;cases ho:W.heap[g]? with
   |none=>rw[ho]at h1;cases h1
   |some o=>exact(lD.1 ho).1
def MV (P : Program) : Bool := match P.globalNamed "internal/strconv.uint64pow10" with
 |some g=>match(P.globals[g]?).map (·.type)with
  |some t=>match P.underlying t with
   |some (.array n e)=>(match P.underlying e with
    |some (.int .u64)=>true
    |_=>false)&&P.cellsOf e==1&&P.cellsOf t==n
   |_=>false
  |none=>false
 |none=>false
theorem Lg {P : Program} {laid : List (String × DataW Unit)} (hb : MV P = true) (hm : ("internal/strconv.uint64pow10", Go.Lib.tabData .u64 Go.Lib.pow10Tab) ∈ laid) (hp : (laid.all fun x => x.2.handleName?.isNone) = true) (W : World) (h : laidMetH P laid W) : ∀ x ∈ LI, W.var? P x.1 = some x.2 := by
 rw[MakeChecks.laidMetH_plain _ _ _ hp]at h;unfold MV at hb;split at hb
 ·rename_i g hg;split at hb
  ·rename_i t Xf;split at hb
   ·rename_i n e ht;simp only[j8,kI]at hb;obtain⟨⟨h1,gr⟩,gu⟩:=hb;split at h1
    ·rename_i he;obtain⟨g',t',cs,fuel,p,gz,iL,fe,hd⟩:=Go.Lib.laidMet.reads h hm;obtain rfl:=Option.some.inj (hg.symm.trans gz);obtain rfl:=Option.some.inj (Xf.symm.trans iL);intro x hx;rw[km.1 hx]
     show W.var? P "internal/strconv.uint64pow10" = some (Go.Lib.pow10Tab.map fun z => Value.int .u64 z).toArray
     rw[fe,←Go.Lib.cells_of_tab ht he gr gu hd]
    ·cases h1
   ·cases hb
  ·cases hb
 ·cases hb
theorem N5{H:Type}{enc:TypeId×Value→H}{C:Checked}{os:Os}{f:FuncId}{fn:Func}{s:ChangeSpec}{conds:List PathCond}{laid:List (String×DataW Unit)}{T:List (String×Array Value)}
  (own:ownKnob C.prog.godebug=none) (started:os.Started) (noInit:C.prog.inits.idxOf? f=none) (YH:C.prog.funcs[f]?=some fn)
  (witness:∃(w:World) (tape:Tape) (i:Input),w.os=os∧(w.forCall tape i).Shaped C.prog∧i.vars=[]∧Input.okWide C.prog (w.forCall tape i) .any w.heap.size f i∧
   ((s.pre enc C.prog fn conds false (w.forCall tape i).memory i.args∧laidMetH C.prog laid (w.forCall tape i).memory)∧sizedMet enc C.prog fn (OpenSpec.ofChange s) false (w.forCall tape i).memory i.args)∧({}:Assume).holds C.prog (lone (Frame.enter C.prog f i.args .normal) [] (w.forCall tape i)))
  (hT:∀W,laidMetH C.prog laid W→∀x∈T,W.var? C.prog x.1=some x.2)
  {sm:Sm} {F:Nat→sm.ins.D→Option sm.outs.D} (WQ:∀n,Dz C.prog T f ⟨sm,F n⟩) (XN:Fe C.prog fn.params.toList=some sm.ps) (a7:sm.rs=[(false,[(.bool,0)])])
  {tb:TypeId} (ZD:fn.resultTypes = #[tb]) (de:C.prog.underlying tb=some .bool) (Xr:s.vars=[]) (X2:GV C.prog fn.params.toList=true) (Ye:laidOutB C.prog=true)
  (XF:∀(ds:List (DataW H)),ds.length=fn.params.toList.length→s.fn H ds={results:=[.lit (.bool true)],args:=ds })
  (pure:∀x:sm.ins.D,sm.ins.fit x→∃n z,F n x=some z∧unpack sm.outs z=[⟨.bool,(show Bool from true)⟩]):
  ReturnsInHanded {} C os f .any (fun w args=>(s.pre enc C.prog fn conds false w args∧laidMetH C.prog laid w)∧sizedMet enc C.prog fn (OpenSpec.ofChange s) false w args) (s.post enc C.prog fn false true false false):=by
 refine returnsInHanded_of_change_and (X:=fun w _=>laidMetH C.prog laid w) (fun _ _ _ hh h=>h.of_heap hh) own started noInit YH witness ?_;intro W base args ds gs before XG hW _ _ hL _;have Wl:=hW;obtain⟨p,q,hA,hV,rfl,XA,Wi⟩:=hW;rw[Xr]at hV;obtain⟨rfl,rfl⟩:=trodVars_none hV;obtain⟨a1,a2,Vn,a3,a4,a5,a6⟩:=G4 hA (fun j t v ht hv=>XG j t v (by simpa using ht) (by simpa using hv)) XN;have Zs:Vn.flatten.map (·.l)=sm.ins.kinds:=by rw[a4];exact(DH _).symm
 obtain⟨x,hx,WH⟩:=F5 sm.ins Vn.flatten Zs;obtain⟨n,z,hz,Z8⟩:=pure x (WH a5)
 have Vm:Ca sm.ps W (Old W) args.toList Vn (fun _=>0) (fun _=>[]):={
  len:=a1
  BQ:=a3
  each:=fun i pm u xs h1 h2 h3=>(a6 i pm u xs h1 h2 h3).1
  AT:=fun i=>by
   cases hq:sm.ps[i]? with
   |none=>rfl
   |some pm=>
    have Vs:=(j9.1 hq).1;obtain⟨_,g,ls,rfl⟩:=a6 i pm _ _ hq (j7 (by omega)) (j7 (by omega));rfl
  none:=fun i _ _ j=>rfl
  box:=fun i ls _ j _=>rfl
  row:=fun i g ls _ j _=>rfl
  fl:=fun k=>rfl
  nodup:=fun k=>kE
  Av:=fun k k' _ b hb=>by cases hb
  own:=fun k b hb=>by cases hb
  fz:=fun b hb=>hb }
 have WB:=WQ n args.toList W (Old W) Vn _ _ x z (J4 (hT W hL)) Vm hx hz;have X0:sm.mk?=false:=by unfold Sm.mk?;rw[a7]
 have X0:(MB.mk sm (F n)).s.mk?=false:=X0;rw[X0]at WB;rw[lG]at WB;refine WB.mono ?_
 rintro en W' ⟨r,Vp,WR,rv,vsR,vsP,rfl,co⟩
 have Ww:=co.outs;have Xp:=co.IG;rw[a7]at Xp;obtain⟨u,vs,rfl,rfl,b1,_,b2⟩:=II Xp;have WX:vs.length=1:=by have:=congrArg List.length b1;simpa using this
 obtain⟨lv,rfl⟩:∃lv,vs=[lv]:=by
  match vs,WX with
  | [x],_=>exact⟨x,rfl⟩
 obtain⟨l0,x0⟩:=lv;have XB:l0=.bool:=by simpa using b1
 subst XB;obtain⟨y,hy,hr⟩:=b2 0 (.bool,0) ⟨.bool,x0⟩ rfl rfl;have ag:u=y:=by simpa[Ay]using hy
 subst ag;have Z8:unpack sm.outs z=[⟨.bool,(show Bool from true)⟩]:=Z8;have Ww:unpack sm.outs z=_:=Ww;rw[Z8]at Ww;simp only[kW,List.flatten_nil,kh,lJ,ku,List.cons.injEq]at Ww
 have YT:x0=(show Bool from true):=by
  have:=Ww.1;injection this with _ h2
  exact h2.symm
 subst YT;have hu:u=.bool true:=hr.1;subst hu;have Yw:r=.bool true:=co.res;subst Yw;have W8:Below W.heap.size W W':=⟨co.rest.1,co.rest.2.1,co.rest.2.2,co.size,fun k hk=>co.frame k hk fun _ hb=>by cases hb⟩;have Vs:∀y∈p,y.block<W.heap.size:=fun y hy=>Wl.lt y (by simpa using hy);refine⟨_,rfl,ds,[],_,[],p,[],Wl,?_,?_,?_,W8.frame _,fun h=>by cases h⟩
 ·rw[kh,XF ds a2,ZD];exact trodAll_mk1 (shut_bool de _)
 ·rw[kh,XF ds a2];exact Co Ye W8 X2 hA Vs
 ·rw[kh,XF ds a2,Xr];rfl
end Go.Ev
namespace Go.Ev
open Go.Proofs Go.Shelf
open Go.ChangeShapes Go.RowKit
theorem Ex{g:Sm}{w:World}{fz:Nat→Prop}{args:List Value}{Vn:List (List Lv)}{bk:Nat→Nat}{om:Key→List Nat}(Vm:Ca g.ps w fz args Vn bk om)(XN:∀(i:Nat)(pm:PM),g.ps[i]?=some pm→∃b ls,pm=.val b ls){z:g.outs.D}{w':World}{nb:Nat→List Nat}{rv:List Value}{vsR:List (List Lv)}
  (Wi:∀j,(nb j).Nodup) (eA:∀j j',j≠j'→∀b∈nb j,b∉nb j') (YN:∀j,∀b∈nb j,w.heap.size≤b∧b<w'.heap.size) (XE:EH w' fz nb g.rs rv vsR 0) (hz:unpack g.outs z=vsR.flatten) (hb:Below w.heap.size w w'):
  ∃r Vp WR ic fu vsP,Ending.returned (JZ rv)=.returned r∧El g w fz args bk om z r w' Vp WR ic fu vsP:=by
 refine⟨_,fz,fun k=>match k with | .fl j=>nb j|k=>om k,rv,vsR,g.ps.map fun _=>[],rfl,?_⟩
 have Zn:(g.ps.map fun _=>([]:List Lv)).flatten=[]:=by
  induction g.ps with
  |nil=>rfl
  |cons _ _ ih=>exact ih
 exact {
  outs:=by rw[hz,Zn,kh]
  res:=rfl
  IG:=XE
  len:=by simp
  each:=fun i pm u vs h1 h2 h3=>by
   obtain⟨b,ls,rfl⟩:=XN i pm h1;rw[kN,h1]at h3;injection h3 with h3
   exact h3.symm
  AT:=fun i=>rfl
  nodup:=fun k=>by
   cases k with
   |fl j=>exact Wi j
   |AT i=>exact Vm.nodup _
   |lf i j=>exact Vm.nodup _
  Av:=fun k k' hk b hb Vz=>by
   cases k with
   |fl j=>cases k' with
    |fl j'=>exact eA j j' (fun e=>hk (by rw[e])) b hb Vz
    |AT i=>exact absurd (Vm.own _ b Vz).2 (by have:=(YN j b hb).1;omega)
    |lf i j'=>exact absurd (Vm.own _ b Vz).2 (by have:=(YN j b hb).1;omega)
   |AT i=>cases k' with
    |fl j'=>exact absurd (Vm.own _ b hb).2 (by have:=(YN j' b Vz).1;omega)
    |AT i'=>exact Vm.Av _ _ hk b hb Vz
    |lf i' j'=>exact Vm.Av _ _ hk b hb Vz
   |lf i j=>cases k' with
    |fl j'=>exact absurd (Vm.own _ b hb).2 (by have:=(YN j' b Vz).1;omega)
    |AT i'=>exact Vm.Av _ _ hk b hb Vz
    |lf i' j'=>exact Vm.Av _ _ hk b hb Vz
  own:=fun k b XT=>by
   have hs:=hb.size;have old:∀k,b∈om k→¬fz b∧b<w'.heap.size∧(w.heap.size≤b∨∃k0,b∈om k0):=fun k h=>⟨(Vm.own k b h).1,by have:=(Vm.own k b h).2;omega,.inr ⟨k,h⟩⟩;cases k with
   |fl j=>exact⟨fun h=>by have:=Vm.fz b h;have:=(YN j b XT).1;omega,(YN j b XT).2,.inl (YN j b XT).1⟩
   |AT i=>exact old _ XT
   |lf i j=>exact old _ XT
  fz:=fun b h=>⟨by have:=Vm.fz b h;have:=hb.size;omega,.inl h⟩
  frame:=fun b h _=>hb.block b h
  size:=hb.size
  rest:=⟨hb.os,hb.tape,hb.output⟩
  kept:=fun i ls j p h1 _ _=>by
   obtain⟨b,ZP,e⟩:=XN i _ h1;cases e }
theorem Dv{ps:List PM}{w:World}{fz:Nat→Prop}{args:List Value}{Vn:List (List Lv)}{bk:Nat→Nat}{om:Key→List Nat}(Vm:Ca ps w fz args Vn bk om){i:Nat}{l:L}(h:ps[i]?=some (.val false [l])):∃(u:Value) (x:l.D),args[i]?=some u∧Vn[i]?=some [⟨l,x⟩]∧l.rd 0 w fz u x []:=by
 have Vs:=(j9.1 h).1;have h1:i<args.length:=by rw[Vm.len];exact Vs
 have h2:i<Vn.length:=by rw[Vm.BQ];exact Vs
 obtain⟨r1,_,r3⟩:=Vm.each i _ _ _ h (j7 h1) (j7 h2)
 obtain⟨lv,W7⟩:∃lv,Vn[i]=[lv]:=by
  have hl:=congrArg List.length r1
  match hv:Vn[i],hl with
  | [lv],_=>exact⟨lv,rfl⟩
 rw[W7]at r1 r3;obtain⟨l',x⟩:=lv;simp only[lQ,List.map_nil,List.cons.injEq,and_true]at r1;subst r1;obtain⟨y,hy,hr⟩:=r3 0 (l',0) ⟨l',x⟩ rfl rfl;have ag:args[i]=y:=by simpa[Ay]using hy
 subst ag;exact⟨_,x,j7 h1,by rw[j7 h2,W7],hr⟩
theorem BQ{α:Type}{l:List α}(h:l.length=2){a b:α}(h0:l[0]?=some a)(h1:l[1]?=some b):l=[a,b]:=by
 match l,h with
 | [x,y],_=>simp at h0 h1;subst h0;subst h1;rfl
def IS:List PM:=[.val false [.str],.val false [.str]]
theorem I7{sm:Sm}(hs:sm.ps=IS){w:World}{fz:Nat→Prop}{args:List Value}{Vn:List (List Lv)}{bk:Nat→Nat}{om:Key→List Nat}(Vm:Ca sm.ps w fz args Vn bk om){x:sm.ins.D}(hx:pack sm.ins Vn.flatten=some x):
  ∃s t:List UInt8,args.toArray = #[.string ⟨s.toArray⟩,.string ⟨t.toArray⟩]∧unpack sm.ins x=[⟨.str,s⟩,⟨.str,t⟩]:=by
 have Zr:=Vm;rw[hs]at Zr;obtain⟨u,s,a1,a2,a3⟩:=Dv Zr (i:=0) (l:=.str) rfl;obtain⟨v,t,b1,b2,b3⟩:=Dv Zr (i:=1) (l:=.str) rfl;have e1:=BQ Zr.len a1 b1;have e2:=BQ Zr.BQ a2 b2;subst e1;subst e2;have hu:u=.string ⟨s.toArray⟩:=a3.1;have hv:v=.string ⟨t.toArray⟩:=b3.1;subst hu;subst hv;exact⟨s,t,rfl,Ae _ _ _ hx⟩
def NU(s t:List UInt8):Option (List UInt8×List UInt8×Bool):=bif decide (s.length<4294967281)then some (Go.Lib.cut s t)else none
def K0:Sm:=⟨IS,[(false,[(.str,0)]),(false,[(.str,0)]),(false,[(.bool,0)])]⟩
def IZ:Type:={ cs:Array Value // ∃m,cs[0]?=some (.int .i64 m) }
def Jd (m : IZ) : String × Array Value := ("internal/bytealg.MaxLen", m.1)
theorem Kd(w:World)(n:Nat):Below w.heap.size w (w.drewN n):=⟨rfl,rfl,rfl,kT _,fun _ _=>rfl⟩
theorem OI{P:Program}{ρ:Ren}(H:LaysM.n145 P ρ){T:List (String×Array Value)}{mc:IZ}(hT:Jd mc∈T):Dz P T (ρ.f 145) ⟨K0,fun x=>NU x.1 x.2⟩:=by
 intro args w fz Vn bk om x z hg Vm hx hz;obtain⟨s,t,ha,hu⟩:=I7 rfl Vm hx;have hu:([⟨.str,x.1⟩,⟨.str,x.2⟩]:List Lv)=[⟨.str,s⟩,⟨.str,t⟩]:=hu;simp only[List.cons.injEq,and_true]at hu;obtain⟨h1,h2⟩:=hu;injection h1 with _ h1
 injection h2 with _ h2
 have h1:x.1=s:=h1;have h2:x.2=t:=h2;have hz:NU x.1 x.2=some z:=hz;rw[h1,h2]at hz;unfold NU at hz;by_cases hl:s.length<4294967281
 case neg=>rw[decide_eq_false hl]at hz;cases hz
 rw[decide_eq_true hl,cond_true]at hz;injection hz with hz
 obtain⟨hv,_⟩:=hg _ hT;obtain⟨m,fA⟩:=mc.2;have hm:w.cell? ⟨ρ.g 1,0,none⟩=some (.int .i64 m):=(World.var?_cell H.m1 hv 0).trans fA;rw[ha];have WB:=Any.strings_Cut { H with } ⟨s.toArray⟩ ⟨t.toArray⟩ m w (by simpa[ByteArray.size]using hl) hm;refine WB.mono ?_
 rintro e w' ⟨rfl,n,rfl⟩
 have e1:(Go.Lib.cut s t)=z:=hz
 exact Ex (g:=K0) Vm (fun i pm h=>by
  match i,h with
  |0,h=>injection h with h;exact⟨_,_,h.symm⟩
  |1,h=>injection h with h;exact⟨_,_,h.symm⟩
  |i+2,h=>simp[K0,IS]at h) (nb:=fun _=>[]) (rv:=[_,_,_]) (vsR:=[[⟨.str,(Go.Lib.cut s t).1⟩],[⟨.str,(Go.Lib.cut s t).2.1⟩],[⟨.bool,(Go.Lib.cut s t).2.2⟩]])
  (fun _=>kE) (fun _ _ _ _ hb=>by cases hb) (fun _ _ hb=>by cases hb)
  (by
   have one:∀(l:L)(y:l.D)(u:Value),l.rd 0 (w.drewN n) fz u y []→FK (w.drewN n) fz false [(l,0)] u [⟨l,y⟩] (fun _=>[]):=fun l y u hr=>⟨rfl,rfl,fun j p lv hj hv=>by
    match j,hj,hv with
    |0,hj,hv=>injection hj with hj;injection hv with hv;subst hj;subst hv;exact⟨u,rfl,hr⟩
    |j+1,hj,hv=>simp at hj⟩
   exact⟨one .str _ _ ⟨rfl,rfl⟩,one .str _ _ ⟨rfl,rfl⟩,one .bool _ _ ⟨rfl,rfl⟩,trivial⟩) (by rw[←e1];rfl) (Kd w n)
theorem Mx{w':World}{fz:Nat→Prop}(l:L)(y:l.D)(u:Value)(hr:l.rd 0 w' fz u y []):FK w' fz false [(l,0)] u [⟨l,y⟩] (fun _=>[]):=⟨rfl,rfl,fun j p lv hj hv=>by
 match j,hj,hv with
 |0,hj,hv=>injection hj with hj;injection hv with hv;subst hj;subst hv;exact⟨u,rfl,hr⟩
 |j+1,hj,hv=>simp at hj⟩
def O3(s:List UInt8)(c:Int):Option Int:=some (Go.Lib.indexByte s c.toNat.toUInt8)
def MQ:Sm:=⟨[.val false [.str],.val false [.int .u8]],[(false,[(.int .i64,0)])]⟩
theorem PU{P:Program}{ρ:Ren}(H:Lays.n137 P ρ){T:List (String×Array Value)}:Dz P T (ρ.f 137) ⟨MQ,fun x=>O3 x.1 x.2⟩:=by
 intro args w fz Vn bk om x z hg Vm hx hz;obtain⟨u,s,a1,a2,a3⟩:=Dv Vm (i:=0) (l:=.str) rfl;obtain⟨v,t,b1,b2,b3⟩:=Dv Vm (i:=1) (l:=.int .u8) rfl;have e1:=BQ Vm.len a1 b1;have e2:=BQ Vm.BQ a2 b2;subst e1;subst e2;have hu:u=.string ⟨s.toArray⟩:=a3.1;have hv:v=.int .u8 t:=b3.1;subst hu;subst hv;have Za:([⟨.str,x.1⟩,⟨.int .u8,x.2⟩]:List Lv)=[⟨.str,s⟩,⟨.int .u8,t⟩]:=Ae _ _ _ hx;simp only[List.cons.injEq,and_true]at Za;obtain⟨h1,h2⟩:=Za;injection h1 with _ h1
 injection h2 with _ h2
 have h1:x.1=s:=h1;have h2:x.2=t:=h2;have hz:O3 x.1 x.2=some z:=hz;rw[h1,h2]at hz;injection hz with hz
 refine(Any.strings_IndexByte H ⟨s.toArray⟩ t w).mono ?_
 rintro e w' ⟨rfl,rfl⟩
 exact Ex (g:=MQ) Vm (fun i pm h=>by
  match i,h with
  |0,h=>injection h with h;exact⟨_,_,h.symm⟩
  |1,h=>injection h with h;exact⟨_,_,h.symm⟩
  |i+2,h=>simp[MQ]at h) (nb:=fun _=>[]) (rv:=[_]) (vsR:=[[⟨.int .i64,Go.Lib.indexByte s t.toNat.toUInt8⟩]])
  (fun _=>kE) (fun _ _ _ _ hb=>by cases hb) (fun _ _ hb=>by cases hb) ⟨Mx (.int .i64) _ _ ⟨rfl,rfl⟩,trivial⟩ (by rw[←hz];rfl) (Below.refl _ _)
def splitN(s t:List UInt8):Option (List (List UInt8)):=bif decide (s.length<4294967281)&&decide (1≤t.length)then some (Go.Lib.split s t)else none
def HH(ty:TypeId):Sm:=⟨IS,[(false,[(.sl ty (.one .str),2)])]⟩
theorem M7{P:Program}{ρ:Ren}(H:LaysM.n146 P ρ){T:List (String×Array Value)}{mc:IZ}(hT:Jd mc∈T)(ty:TypeId):Dz P T (ρ.f 146) ⟨HH ty,fun x=>splitN x.1 x.2⟩:=by
 intro args w fz Vn bk om x z hg Vm hx hz;obtain⟨s,t,ha,hu⟩:=I7 rfl Vm hx;have hu:([⟨.str,x.1⟩,⟨.str,x.2⟩]:List Lv)=[⟨.str,s⟩,⟨.str,t⟩]:=hu;simp only[List.cons.injEq,and_true]at hu;obtain⟨h1,h2⟩:=hu;injection h1 with _ h1
 injection h2 with _ h2
 have h1:x.1=s:=h1;have h2:x.2=t:=h2;have hz:splitN x.1 x.2=some z:=hz;rw[h1,h2]at hz;unfold splitN at hz;by_cases hl:s.length<4294967281
 case neg=>rw[decide_eq_false hl]at hz;cases hz
 by_cases Yu:1≤t.length
 case neg=>rw[decide_eq_false Yu,Bool.and_false]at hz;cases hz
 rw[decide_eq_true hl,decide_eq_true Yu]at hz;injection hz with hz
 obtain⟨hv,_⟩:=hg _ hT;obtain⟨m,fA⟩:=mc.2;have hm:w.cell? ⟨ρ.g 1,0,none⟩=some (.int .i64 m):=(World.var?_cell H.m1 hv 0).trans fA;rw[ha];have WB:=Any.strings_Split { H with } H.i9 ⟨s.toArray⟩ ⟨t.toArray⟩ m w (by simpa[ByteArray.size]using hl) hm (by simpa[ByteArray.size]using Yu);have hlen:=Go.Lib.splitB_all ⟨t.toArray⟩ (by simpa[ByteArray.size]using Yu) 0 _ ⟨s.toArray⟩ rfl;have eX:=Go.Lib.splitB_data ⟨t.toArray⟩ 0 (Go.Lib.countB ⟨s.toArray⟩ ⟨t.toArray⟩) ⟨s.toArray⟩
 have gW:(Go.Lib.splitB ⟨t.toArray⟩ 0 (Go.Lib.countB ⟨s.toArray⟩ ⟨t.toArray⟩) ⟨s.toArray⟩).map (·.data.toList)=z:=by rw[eX];exact hz
 refine WB.mono ?_
 rintro e w' ⟨rfl,rfl⟩
 generalize Go.Lib.splitB ⟨t.toArray⟩ 0 (Go.Lib.countB ⟨s.toArray⟩ ⟨t.toArray⟩) ⟨s.toArray⟩=B at hlen gW;subst gW;have cN:(B.map (·.data.toList)).length=B.length:=lF ..;rw[←hlen]
 exact Ex (g:=HH ty) Vm (fun i pm h=>by
  match i,h with
  |0,h=>injection h with h;exact⟨_,_,h.symm⟩
  |1,h=>injection h with h;exact⟨_,_,h.symm⟩
  |i+2,h=>simp[HH,IS]at h) (nb:=fun j=>if j=0 then [w.heap.size]else []) (rv:=[_]) (vsR:=[[⟨.sl ty (.one .str),B.map (·.data.toList)⟩]])
  (fun j=>by split<;>simp) (fun j j' hj b hb Vz=>by grind) (fun j b hb=>by
   have:b=w.heap.size:=by grind
   subst this;exact⟨kT _,by rw[Ar];omega⟩)
  ⟨⟨rfl,rfl,fun j p lv hj hv=>by
    match j,hj,hv with
    |0,hj,hv=>
     injection hj with hj;injection hv with hv;subst hj;subst hv
     refine⟨_,rfl,?_⟩
     have W9:B1 (.one .str) 2 (w.alloc (.cells (B.map Value.string).toArray (ρ.t 9))) fz (fun k=>(B.map Value.string).toArray[0+k]?) (B.map (·.data.toList)) (fun _=>[]):=by
      intro i hi;have cy:i<B.length:=by rw[←cN];exact hi
      refine⟨.string B[i],?_,?_⟩
      ·show(B.map Value.string).toArray[0+(i*1+0)]?=_;simp[cy]
      ·refine⟨?_,rfl⟩;have hO:i<(B.map fun q:ByteArray=>q.data.toList).length:=by rw[lF];exact cy
       show Value.string B[i]=.string ⟨((B.map fun q:ByteArray=>q.data.toList)[i]'hO).toArray⟩;rw[List.getElem_map,lG]
     have Vr:=FD (w:=w.alloc (.cells (B.map Value.string).toArray (ρ.t 9))) (ad:=⟨w.heap.size,0,none⟩) (c:=B.length) (fr:=(0,0)) (T:=ρ.t 9) (heap_alloc_new _ _) rfl (by omega) (by simp[Ls.n]) (Nat.le_of_eq cN) W9;have he:∀k,(List.range k).flatMap (fun _=>([]:List Nat))=[]:=fun k=>by simp
     rw[he]at Vr
     have DL:∀n:Nat,n=B.length→AD (.one .str) 2 (w.alloc (.cells (B.map Value.string).toArray (ρ.t 9))) fz (.slice (some ⟨w.heap.size,0,none⟩) n B.length) (B.map (·.data.toList)) [w.heap.size]→AD (.one .str) 2 (w.alloc (.cells (B.map Value.string).toArray (ρ.t 9))) fz (.slice (some ⟨w.heap.size,0,none⟩) B.length B.length) (B.map (·.data.toList)) [w.heap.size]:=by
      rintro _ rfl h;exact h
     exact DL _ cN Vr
    |j+1,hj,hv=>simp at hj⟩,trivial⟩ rfl ⟨rfl,rfl,rfl,by rw[Ar];omega,fun b hb=>alloc_old _ _ hb⟩
def Lo(l:List UInt8):Int×Bool:=match Go.Lib.atoiAll l with
 | .ok v=>if v<0∨6<l.length∨Go.Lib.itoa v≠l then(0,false)else(v,true)
 |_=>(0,false)
def OU(l:List UInt8):Option (Int×Bool):=bif decide (l.length≤281474976710656)then some (Lo l)else none
def K7:Sm:=⟨[.val false [.str]],[(false,[(.int .i64,0)]),(false,[(.bool,0)])]⟩
theorem Ni{w W:World}{t5:TypeId}(hw:W=w∨∃t,W=Go.Lib.bytesWorld w t5 t):Below w.heap.size w W:=by
 rcases hw with rfl|⟨t,rfl⟩
 ·exact Below.refl _ _
 ·exact Go.Lib.bytesWorld_below _ _ _
theorem N3{w W:World}(hb:Below w.heap.size w W)(k:Nat)(os:Array Obj):Below w.heap.size w (Go.Sort.grow (W.drewN k) os):=by
 refine⟨hb.os,hb.tape,hb.output,?_,fun b h=>?_⟩
 ·show _≤(W.heap++os).size;have:=hb.size;simp;omega
 ·show(W.heap++os)[b]?=_;rw[ka (lB h hb.size)];exact hb.block b h
def NJ (P : Program) (f : FuncId) : Prop := ∀ (s : ByteArray) (tp : TypeId) (p : Value) (tp2 : TypeId) (p2 : Value) (w : World), s.size ≤ 281474976710656 → w.var? P "strconv.ErrSyntax" = some #[.iface tp p] → w.var? P "strconv.ErrRange" = some #[.iface tp2 p2] →
 (∀ w', Below w.heap.size w w' → Go.Lib.TabIs P w' "internal/strconv.uint64pow10" .u64 Go.Lib.pow10Tab) →
 Calls P f #[.string s] w fun e w'=>e=.returned (.tuple #[.int .i64 (Lo s.data.toList).1,.bool (Lo s.data.toList).2])∧Below w.heap.size w w'
theorem L8{P:Program}{n:String}{cs:Array Value}{w w':World}(h:w.var? P n=some cs)(hg:∃g,P.globalNamed n=some g∧g<w.heap.size)(hb:Below w.heap.size w w'):w'.var? P n=some cs:=by obtain⟨g,h1,h2⟩:=hg;unfold World.var? at h ⊢;rw[h1]at h ⊢;rw[←h];show(match w'.heap[g]? with|some (.cells cs _ _)=>some cs|_=>none)=(match w.heap[g]? with|some (.cells cs _ _)=>some cs|_=>none);rw[hb.block g h2]
def CX (q : IZ × (TypeId × Value) × TypeId × Value) : List (String × Array Value) := [Jd q.1, ("strconv.ErrSyntax", #[.iface q.2.1.1 q.2.1.2]), ("strconv.ErrRange", #[.iface q.2.2.1 q.2.2.2]), ("internal/strconv.uint64pow10", (Go.Lib.pow10Tab.map fun z => Value.int .u64 z).toArray)]
theorem PX{P:Program}{f:FuncId}(hw:NJ P f)(q:IZ×(TypeId×Value)×TypeId×Value):Dz P (CX q) f ⟨K7,fun x=>OU x⟩:=by
 intro args w fz Vn bk om x z hg Vm hx hz;obtain⟨u,s,a1,a2,a3⟩:=Dv Vm (i:=0) (l:=.str) rfl
 have e1:args=[u]:=by
  match args,Vm.len,a1 with
  | [v],_,a1=>simp at a1;rw[a1]
 have e2:Vn=[[⟨.str,s⟩]]:=by
  match Vn,Vm.BQ,a2 with
  | [v],_,a2=>simp at a2;rw[a2]
 subst e1;subst e2;have hu:u=.string ⟨s.toArray⟩:=a3.1;subst hu;have Za:unpack K7.ins x=[⟨.str,s⟩]:=Ae _ _ _ hx;have Za:([⟨.str,x⟩]:List Lv)=[⟨.str,s⟩]:=Za;simp only[List.cons.injEq,and_true]at Za;injection Za with _ dp
 have dp:x=s:=dp;have hz:OU x=some z:=hz;rw[dp]at hz;unfold OU at hz;by_cases hl:s.length≤281474976710656
 case neg=>rw[decide_eq_false hl]at hz;cases hz
 rw[decide_eq_true hl,cond_true]at hz;injection hz with hz
 have at3:=hg _ (show Jd q.1∈CX q from kR)
 obtain ⟨v1, _⟩ := hg ("strconv.ErrSyntax", #[.iface q.2.1.1 q.2.1.2]) (by simp [CX])
 obtain ⟨v2, _⟩ := hg ("strconv.ErrRange", #[.iface q.2.2.1 q.2.2.2]) (by simp [CX])
 obtain ⟨v3, g, hJ, _, Vs⟩ := hg ("internal/strconv.uint64pow10", (Go.Lib.pow10Tab.map fun z => Value.int .u64 z).toArray) (by simp [CX])
 have WB:=hw ⟨s.toArray⟩ _ _ _ _ w ((show ∀l:List UInt8,l.length≤281474976710656→(⟨l.toArray⟩:ByteArray).size≤281474976710656 from fun l h=>by simpa[ByteArray.size]using h) s hl) v1 v2 (fun w' hb=>L8 v3 ⟨g,hJ,Vs⟩ hb);refine WB.mono ?_
 rintro e w' ⟨rfl,hb⟩
 have ez:Lo s=z:=hz
 exact Ex (g:=K7) Vm (fun i pm h=>by
  match i,h with
  |0,h=>injection h with h;exact⟨_,_,h.symm⟩
  |i+1,h=>simp[K7]at h) (nb:=fun _=>[]) (rv:=[_,_]) (vsR:=[[⟨.int .i64,(Lo s).1⟩],[⟨.bool,(Lo s).2⟩]])
  (fun _=>kE) (fun _ _ _ _ hb=>by cases hb) (fun _ _ hb=>by cases hb)
  (by
   have one:∀(l:L)(y:l.D)(u:Value),l.rd 0 w' fz u y []→FK w' fz false [(l,0)] u [⟨l,y⟩] (fun _=>[]):=fun l y u hr=>⟨rfl,rfl,fun j p lv hj hv=>by
    match j,hj,hv with
    |0,hj,hv=>injection hj with hj;injection hv with hv;subst hj;subst hv;exact⟨u,rfl,hr⟩
    |j+1,hj,hv=>simp at hj⟩
   exact⟨one (.int .i64) _ _ ⟨rfl,rfl⟩,one .bool _ _ ⟨rfl,rfl⟩,trivial⟩) (by rw[←ez];rfl) hb
class Tq where
 q:IZ×(TypeId×Value)×TypeId×Value
theorem Dz.sub{P:Program}{T T':List (String×Array Value)}{f:FuncId}{g:MB}(h:Dz P T f g)(hs:∀x∈T,x∈T'):Dz P T' f g:=fun args w fz Vn bk om x z hg=>h args w fz Vn bk om x z fun y hy=>hg y (hs y hy)
theorem O4{P:Program}{ρ:Ren}(H:LaysM.n171 P ρ)(q:IZ×(TypeId×Value)×TypeId×Value):Dz P (CX q) (ρ.f 171) ⟨FV,fun x=>K3 x⟩:=(Nb H).sub fun x hx=>by rw[km.1 hx];simp[CX]
theorem PC{P:Program}{ρ:Ren}(H:LaysM.n145 P ρ)(q:IZ×(TypeId×Value)×TypeId×Value):Dz P (CX q) (ρ.f 145) ⟨K0,fun x=>NU x.1 x.2⟩:=OI H (mc:=q.1) kR
theorem Ou{P:Program}{ρ:Ren}(H:LaysM.n146 P ρ)(q:IZ×(TypeId×Value)×TypeId×Value)(ty:TypeId):Dz P (CX q) (ρ.f 146) ⟨HH ty,fun x=>splitN x.1 x.2⟩:=M7 H (mc:=q.1) kR ty
theorem laidMet.behind{P:Program}{w:World}:∀(k:Nat) {l:List (String×DataW Unit)},laidMet P l w→laidMet P (l.drop k) w
 |0,_,h=>h
 |_+1,[],h=>h
 |k+1,_::_,h=>laidMet.behind k (Go.laidMet.tail h)
theorem Ov {P : Program} {ρ : Ren} (H : LaysM.n145 P ρ) {laid : List (String × DataW Unit)} (hb : MV P = true) (hm : ("internal/strconv.uint64pow10", Go.Lib.tabData .u64 Go.Lib.pow10Tab) ∈ laid) (hp : (laid.all fun x => x.2.handleName?.isNone) = true)
  (k1 k2 : Nat) {t1 t2 : List UInt8} {r1 r2 : List (String × DataW Unit)} (cB : laid.drop k1 = ("strconv.ErrSyntax", .iface "*errors.errorString" (.ptr (.agg [.lit (.string t1)]))) :: r1) (cd : laid.drop k2 = ("strconv.ErrRange", .iface "*errors.errorString" (.ptr (.agg [.lit (.string t2)]))) :: r2)
  {g1 g2 : Nat} {ti tp te ts : TypeId} {ms : Array (String × TypeId)} {f : Field} (aB : P.globalNamed "strconv.ErrSyntax" = some g1) (cE : P.globalNamed "strconv.ErrRange" = some g2) (iM : (P.globals[g1]?).map (·.type) = some ti) (iN : (P.globals[g2]?).map (·.type) = some ti) (hi : P.underlying ti = some (.interface ms))
  (Vr : ∀ u, P.typeName? 3 u = some "*errors.errorString" → u = tp) (gN : P.underlying tp = some (.pointer te)) (he : P.underlying te = some (.struct #[f])) (cD : f.type = ts) (gI : f.offset = 0) (hs : P.underlying ts = some .string) (hc : P.cellsOf te = 1) (Xt : P.cellsOf ts = 1)
  (W:World) (h:laidMetH P laid W) (fX:W.ShapedOpen P):∃q,∀x∈CX q,W.var? P x.1=some x.2:=by
 have bS:=Lg hb hm hp W h;rw[MakeChecks.laidMetH_plain _ _ _ hp]at h;have d1:=laidMet.behind k1 h;have d2:=laidMet.behind k2 h;rw[cB]at d1;rw[cd]at d2;obtain⟨a1,_,v1,_⟩:=laid_sentinel d1 aB iM hi Vr gN he cD gI hs hc Xt;obtain⟨a2,_,v2,_⟩:=laid_sentinel d2 cE iN hi Vr gN he cD gI hs hc Xt;obtain⟨m,iA⟩:=H.s1_3 W fX
 have hv : ∃ cs, W.var? P "internal/bytealg.MaxLen" = some cs ∧ cs[0]? = some (.int .i64 m) := by
  unfold World.cell? at iA;unfold World.var?;rw[H.m1];show ∃cs,(match W.heap[ρ.g 1]? with|some (.cells cs _ _)=>some cs|_=>none)=some cs∧_;grind
 obtain⟨cs,Zf,bt⟩:=hv;refine⟨((⟨cs,m,bt⟩:IZ),(tp,.pointer (some a1)),(tp,.pointer (some a2))),fun x hx=>?_⟩;simp only[CX,kS,List.not_mem_nil,or_false]at hx;rcases hx with rfl|rfl|rfl|rfl
 ·exact Zf
 ·exact v1
 ·exact v2
 ·exact bS _ (km.2 rfl)
theorem Fs{H:Type}{enc:TypeId×Value→H}{a:Assume}{C:Checked}{os:Os}{f:FuncId}{fn:Func}{s:ChangeSpec}{conds:List PathCond}{apart fresh handsOn again:Bool}{X:World→Array Value→Prop}
  (hX:∀(w w':World)(args:Array Value),w.heap=w'.heap→X w args→X w' args)
  (own:ownKnob C.prog.godebug=none) (started:os.Started) (noInit:C.prog.inits.idxOf? f=none) (YH:C.prog.funcs[f]?=some fn)
  (witness:∃(w:World) (tape:Tape) (i:Input),w.os=os∧(w.forCall tape i).Shaped C.prog∧i.vars=[]∧Input.okWide C.prog (w.forCall tape i) .any w.heap.size f i∧
   ((s.pre enc C.prog fn conds apart (w.forCall tape i).memory i.args∧X (w.forCall tape i).memory i.args)∧sizedMet enc C.prog fn (OpenSpec.ofChange s) apart (w.forCall tape i).memory i.args)∧a.holds C.prog (lone (Frame.enter C.prog f i.args .normal) [] (w.forCall tape i)))
  (contract:∀(W:World)(base:Nat)(args:Array Value) (ds gs:List (DataW H)) (before:List MemPlace),
   (∀(j:Nat) t v,fn.params[j]?=some t→args[j]?=some v→Value.okWide C.prog W .any base t v)→
   DataW.Whole enc C.prog fn.params.toList s.vars apart W args.toList ds gs before→
   conds.all (PathCond.test C.prog ⟨fn.params.toList,ds,s.plain.varTypes C.prog,gs⟩)=true→
   (DataW.weightsEach C.prog (fn.params.toList++s.plain.varTypes C.prog) (ds++gs)).all (· ≤ reachBytes)=true→X W args→W.ShapedOpen C.prog→
   a.holds C.prog (lone (Frame.enter C.prog f args .normal) [] W)→
   Calls C.prog f args W fun e W'=>∃v,e=.returned v∧s.post enc C.prog fn apart fresh handsOn again W args v W'):
  ReturnsInHanded a C os f .any (fun w args=>(s.pre enc C.prog fn conds apart w args∧X w args)∧sizedMet enc C.prog fn (OpenSpec.ofChange s) apart w args) (s.post enc C.prog fn apart fresh handsOn again):=by
 refine returnsInHanded_of_calls own started noInit witness ?_;intro w tape i _ fX _ WQ Yl YJ;obtain⟨_,_,_,gi,eg,_,_,_,_,XG⟩:=WQ;have e:gi=fn:=Option.some.inj (eg.symm.trans YH);subst e;obtain⟨⟨⟨ds,gs,before,hw,hc⟩,hx⟩,hz⟩:=Yl;have iS:=DataW.Whole.of_heap (w':=w.forCall tape i) (by rfl) hw;refine(contract (w.forCall tape i) w.heap.size i.args ds gs before XG iS hc (hz.weights hw) (hX _ _ _ (by rfl) hx) fX YJ).mono fun e W' ⟨v,he,hp⟩=>?_;subst he;exact ChangeSpec.post_blind hp
theorem N6{H:Type}{enc:TypeId×Value→H}{C:Checked}{os:Os}{f:FuncId}{fn:Func}{s:ChangeSpec}{conds:List PathCond}{laid:List (String×DataW Unit)}{Q:Type}{T:Q→List (String×Array Value)}
  (own:ownKnob C.prog.godebug=none) (started:os.Started) (noInit:C.prog.inits.idxOf? f=none) (YH:C.prog.funcs[f]?=some fn)
  (witness:∃(w:World) (tape:Tape) (i:Input),w.os=os∧(w.forCall tape i).Shaped C.prog∧i.vars=[]∧Input.okWide C.prog (w.forCall tape i) .any w.heap.size f i∧
   ((s.pre enc C.prog fn conds false (w.forCall tape i).memory i.args∧laidMetH C.prog laid (w.forCall tape i).memory)∧sizedMet enc C.prog fn (OpenSpec.ofChange s) false (w.forCall tape i).memory i.args)∧({}:Assume).holds C.prog (lone (Frame.enter C.prog f i.args .normal) [] (w.forCall tape i)))
  (hT:∀W,laidMetH C.prog laid W→W.ShapedOpen C.prog→∃q,∀x∈T q,W.var? C.prog x.1=some x.2)
  {sm:Sm} {F:Nat→sm.ins.D→Option sm.outs.D} (WQ:∀q n,Dz C.prog (T q) f ⟨sm,F n⟩) (XN:Fe C.prog fn.params.toList=some sm.ps) (a7:sm.rs=[(false,[(.bool,0)])])
  {tb:TypeId} (ZD:fn.resultTypes = #[tb]) (de:C.prog.underlying tb=some .bool) (Xr:s.vars=[]) (X2:GV C.prog fn.params.toList=true) (Ye:laidOutB C.prog=true)
  (XF:∀(ds:List (DataW H)),ds.length=fn.params.toList.length→s.fn H ds={results:=[.lit (.bool true)],args:=ds })
  (pure:∀x:sm.ins.D,sm.ins.fit x→∃n z,F n x=some z∧unpack sm.outs z=[⟨.bool,(show Bool from true)⟩]):
  ReturnsInHanded {} C os f .any (fun w args=>(s.pre enc C.prog fn conds false w args∧laidMetH C.prog laid w)∧sizedMet enc C.prog fn (OpenSpec.ofChange s) false w args) (s.post enc C.prog fn false true false false):=by
 refine Fs (X:=fun w _=>laidMetH C.prog laid w) (fun _ _ _ hh h=>h.of_heap hh) own started noInit YH witness ?_;intro W base args ds gs before XG hW _ _ hL hS _;obtain⟨qT,hT⟩:=hT W hL hS;have Wl:=hW;obtain⟨p,q,hA,hV,rfl,XA,Wi⟩:=hW;rw[Xr]at hV;obtain⟨rfl,rfl⟩:=trodVars_none hV;obtain⟨a1,a2,Vn,a3,a4,a5,a6⟩:=G4 hA (fun j t v ht hv=>XG j t v (by simpa using ht) (by simpa using hv)) XN;have Zs:Vn.flatten.map (·.l)=sm.ins.kinds:=by rw[a4];exact(DH _).symm
 obtain⟨x,hx,WH⟩:=F5 sm.ins Vn.flatten Zs;obtain⟨n,z,hz,Z8⟩:=pure x (WH a5)
 have Vm:Ca sm.ps W (Old W) args.toList Vn (fun _=>0) (fun _=>[]):={
  len:=a1
  BQ:=a3
  each:=fun i pm u xs h1 h2 h3=>(a6 i pm u xs h1 h2 h3).1
  AT:=fun i=>by
   cases hq:sm.ps[i]? with
   |none=>rfl
   |some pm=>
    have Vs:=(j9.1 hq).1;obtain⟨_,g,ls,rfl⟩:=a6 i pm _ _ hq (j7 (by omega)) (j7 (by omega));rfl
  none:=fun i _ _ j=>rfl
  box:=fun i ls _ j _=>rfl
  row:=fun i g ls _ j _=>rfl
  fl:=fun k=>rfl
  nodup:=fun k=>kE
  Av:=fun k k' _ b hb=>by cases hb
  own:=fun k b hb=>by cases hb
  fz:=fun b hb=>hb }
 have WB:=WQ qT n args.toList W (Old W) Vn _ _ x z (J4 hT) Vm hx hz;have X0:sm.mk?=false:=by unfold Sm.mk?;rw[a7]
 have X0:(MB.mk sm (F n)).s.mk?=false:=X0;rw[X0]at WB;rw[lG]at WB;refine WB.mono ?_
 rintro en W' ⟨r,Vp,WR,rv,vsR,vsP,rfl,co⟩
 have Ww:=co.outs;have Xp:=co.IG;rw[a7]at Xp;obtain⟨u,vs,rfl,rfl,b1,_,b2⟩:=II Xp;have WX:vs.length=1:=by have:=congrArg List.length b1;simpa using this
 obtain⟨lv,rfl⟩:∃lv,vs=[lv]:=by
  match vs,WX with
  | [x],_=>exact⟨x,rfl⟩
 obtain⟨l0,x0⟩:=lv;have XB:l0=.bool:=by simpa using b1
 subst XB;obtain⟨y,hy,hr⟩:=b2 0 (.bool,0) ⟨.bool,x0⟩ rfl rfl;have ag:u=y:=by simpa[Ay]using hy
 subst ag;have Z8:unpack sm.outs z=[⟨.bool,(show Bool from true)⟩]:=Z8;have Ww:unpack sm.outs z=_:=Ww;rw[Z8]at Ww;simp only[kW,List.flatten_nil,kh,lJ,ku,List.cons.injEq]at Ww
 have YT:x0=(show Bool from true):=by
  have:=Ww.1;injection this with _ h2
  exact h2.symm
 subst YT;have hu:u=.bool true:=hr.1;subst hu;have Yw:r=.bool true:=co.res;subst Yw;have W8:Below W.heap.size W W':=⟨co.rest.1,co.rest.2.1,co.rest.2.2,co.size,fun k hk=>co.frame k hk fun _ hb=>by cases hb⟩;have Vs:∀y∈p,y.block<W.heap.size:=fun y hy=>Wl.lt y (by simpa using hy);refine⟨_,rfl,ds,[],_,[],p,[],Wl,?_,?_,?_,W8.frame _,fun h=>by cases h⟩
 ·rw[kh,XF ds a2,ZD];exact trodAll_mk1 (shut_bool de _)
 ·rw[kh,XF ds a2];exact Co Ye W8 X2 hA Vs
 ·rw[kh,XF ds a2,Xr];rfl
end Go.Ev
