/- A plain evaluator for Go's loaded code,and that it is sound;part 5. Conditions: none. -/
import Derived.Test.YtddkakpbnplbjaaDoorLib4
import Derived.Shelf.Strconv.Itoa3
import Derived.Lib.LaidU8
import Derived.Lib.ItoaLen
import Derived.Handed
import Derived.LaidMore
import Derived.LaidLaws
import Derived.MakeChecks
import Derived.Stop.Joined
import Derived.Shelf.Strings.Shaped
import Derived.Shelf.Strings.SplitShaped
import Derived.HandedShaped
import Derived.Shelf.Strconv.ErrVarAll
import Derived.Stop.LaidErr
set_option linter.all false
namespace Go.Ev
open Go.Proofs Go.Shelf
open Go.ChangeShapes Go.RowKit
def Kq(x:Int):Option (List UInt8):=bif decide (-9223372036854775808≤x)&&decide (x≤9223372036854775807)then some (Go.Lib.itoa x)else none
def FK:Sm:=⟨[.val false [.int .i64]],[(false,[(.str,0)])]⟩
def K3 : List (String × Array Value) := [("internal/strconv.uint64pow10", (Go.Lib.pow10Tab.map fun z => Value.int .u64 z).toArray)]
theorem NM{P:Program}{ρ:Ren}(L:LaysM.n171 P ρ):D9 P K3 (ρ.f 171) ⟨FK,fun x=>Kq x⟩:=by
 intro args w fz TX bk om x z hg TW hx hz;have hz:Kq x=some z:=hz
 obtain⟨u,rfl⟩:∃u,args=[u]:=by
  match args,TW.len with
  | [u],_=>exact⟨u,rfl⟩
 obtain⟨vs,rfl⟩:∃vs,TX=[vs]:=by
  match TX,TW.BW with
  | [vs],_=>exact⟨vs,rfl⟩
 obtain⟨r1,r2,r3⟩:=TW.each 0 (.val false [.int .i64]) u vs rfl rfl rfl
 obtain⟨lv,rfl⟩:∃lv,vs=[lv]:=by
  match vs,congrArg List.length r1 with
  | [lv],_=>exact⟨lv,rfl⟩
 obtain⟨y,hy,hr⟩:=r3 0 (.int .i64,0) lv rfl rfl;have YW:u=y:=by simpa[Av]using hy
 subst YW;have Vg:=Ag _ _ _ hx
 have Vg:([⟨.int .i64,x⟩]:List Lv)=[lv]:=by
  have h2:unpack FK.ins x=[lv]:=by simpa using Vg
  exact h2
 injection Vg with Vg _
 subst Vg;have hu:u=.int .i64 x:=hr.1;subst hu;unfold Kq at hz;cases hb:(decide (-9223372036854775808≤(show Int from x))&&decide ((show Int from x)≤9223372036854775807))with
 |false=>rw[show(decide (-9223372036854775808≤(show Int from x))&&decide ((show Int from x)≤9223372036854775807))=false from hb]at hz;cases hz
 |true=>
  rw[show(decide (-9223372036854775808≤(show Int from x))&&decide ((show Int from x)≤9223372036854775807))=true from hb]at hz;simp only[gL,gm]at hb;injection hz with hz
  obtain⟨cS,_⟩:=hg _ (hJ.2 rfl);have Tx:=Any.strconv_Itoa L x hb.1 hb.2 w cS;refine Tx.mono ?_
  rintro e w' ⟨rfl,k,os,rfl⟩
  refine⟨_,fz,om,[.string ⟨(Go.Lib.itoa x).toArray⟩],[[⟨.str,z⟩]],[[]],rfl,?_⟩
  have Z4:∀b,b<w.heap.size→(Go.Sort.grow (w.drewN k) os).heap[b]?=w.heap[b]?:=by intro b hb;show(w.heap++os)[b]?=_;rw[gu hb]
  have UM:w.heap.size≤(Go.Sort.grow (w.drewN k) os).heap.size:=by show w.heap.size≤(w.heap++os).size;simp
  exact {
   outs:=rfl
   res:=rfl
   H3:=by
    refine⟨⟨rfl,rfl,fun j p lv hj hv=>?_⟩,trivial⟩;cases j with
    |zero=>
     simp at hj hv;subst hj;subst hv;refine⟨_,rfl,?_,?_⟩
     ·rw[←hz]
     ·show om (.fl (0+0))=[];exact TW.fl _
    |succ j=>simp at hj
   len:=rfl
   each:=fun i pm u vs h1 h2 h3=>by
    cases i with
    |zero=>simp[FK]at h1 h3;subst h1;subst h3;rfl
    |succ i=>simp[FK]at h1
   AS:=fun _=>rfl
   nodup:=TW.nodup
   Ar:=TW.Ar
   own:=fun k b hb=>by obtain⟨a1,a2⟩:=TW.own k b hb;exact⟨a1,by omega,.inr ⟨k,hb⟩⟩
   fz:=fun b hb=>⟨by have:=TW.fz b hb;omega,.inl hb⟩
   frame:=fun b hb _=>Z4 b hb
   size:=UM
   rest:=⟨rfl,rfl,rfl⟩
   kept:=fun i ls j p h1 _ _=>by
    cases i with
    |zero=>simp[FK]at h1
    |succ i=>simp[FK]at h1 }
theorem Jr{P:Program}{T:List (String×Array Value)}{W:World}(h:∀x∈T,W.var? P x.1=some x.2):O3 P T W (fun b=>∃k:Key,b∈(fun _=>[]:Key→List Nat) k):=by
 intro x hx;have h1:=h x hx;refine⟨h1,?_⟩;unfold World.var? at h1;cases hg:P.globalNamed x.1 with
 |none=>rw[hg]at h1;cases h1
 |some g=>
  refine⟨g,rfl,?_,?_⟩
  ·rintro ⟨k,hb⟩;cases hb
  ·rw[hg]at h1;have h1:(match W.heap[g]? with|some (.cells cs _ _)=>some cs|_=>none)=some x.2:=h1;cases ho:W.heap[g]? with
   |none=>rw[ho]at h1;cases h1
   |some o=>exact(iE.1 ho).1
def MH (P : Program) : Bool := match P.globalNamed "internal/strconv.uint64pow10" with
 |some g=>match(P.globals[g]?).map (·.type)with
  |some t=>match P.underlying t with
   |some (.array n e)=>(match P.underlying e with
    |some (.int .u64)=>true
    |_=>false)&&P.cellsOf e==1&&P.cellsOf t==n
   |_=>false
  |none=>false
 |none=>false
theorem LS {P : Program} {laid : List (String × DataW Unit)} (hb : MH P = true) (hm : ("internal/strconv.uint64pow10", Go.Lib.tabData .u64 Go.Lib.pow10Tab) ∈ laid) (hp : (laid.all fun x => x.2.handleName?.isNone) = true) (W : World) (h : laidMetH P laid W) : ∀ x ∈ K3, W.var? P x.1 = some x.2 := by
 rw[MakeChecks.laidMetH_plain _ _ _ hp]at h;unfold MH at hb;split at hb
 ·rename_i g hg;split at hb
  ·rename_i t VQ;split at hb
   ·rename_i n e ht;simp only[gL,gV]at hb;obtain⟨⟨h1,di⟩,dj⟩:=hb;split at h1
    ·rename_i he;obtain⟨g',t',cs,fuel,p,dr,eL,cV,hd⟩:=Go.Lib.laidMet.reads h hm;obtain rfl:=Option.some.inj (hg.symm.trans dr);obtain rfl:=Option.some.inj (VQ.symm.trans eL);intro x hx;rw[hJ.1 hx]
     show W.var? P "internal/strconv.uint64pow10" = some (Go.Lib.pow10Tab.map fun z => Value.int .u64 z).toArray
     rw[cV,←Go.Lib.cells_of_tab ht he di dj hd]
    ·cases h1
   ·cases hb
  ·cases hb
 ·cases hb
theorem Nq{H:Type}{enc:TypeId×Value→H}{C:Checked}{os:Os}{f:FuncId}{fn:Func}{s:ChangeSpec}{conds:List PathCond}{laid:List (String×DataW Unit)}{T:List (String×Array Value)}
  (own:ownKnob C.prog.godebug=none) (started:os.Started) (noInit:C.prog.inits.idxOf? f=none) (V2:C.prog.funcs[f]?=some fn)
  (witness:∃(w:World) (tape:Tape) (i:Input),w.os=os∧(w.forCall tape i).Shaped C.prog∧i.vars=[]∧Input.okWide C.prog (w.forCall tape i) .any w.heap.size f i∧
   ((s.pre enc C.prog fn conds false (w.forCall tape i).memory i.args∧laidMetH C.prog laid (w.forCall tape i).memory)∧sizedMet enc C.prog fn (OpenSpec.ofChange s) false (w.forCall tape i).memory i.args)∧({}:Assume).holds C.prog (lone (Frame.enter C.prog f i.args .normal) [] (w.forCall tape i)))
  (hT:∀W,laidMetH C.prog laid W→∀x∈T,W.var? C.prog x.1=some x.2)
  {sm:Sm} {F:Nat→sm.ins.D→Option sm.outs.D} (UD:∀n,D9 C.prog T f ⟨sm,F n⟩) (U7:FU C.prog fn.params.toList=some sm.ps) (Yk:sm.rs=[(false,[(.bool,0)])])
  {tb:TypeId} (W5:fn.resultTypes = #[tb]) (aa:C.prog.underlying tb=some .bool) (Vc:s.vars=[]) (Vn:GO C.prog fn.params.toList=true) (WR:laidOutB C.prog=true)
  (Uz:∀(ds:List (DataW H)),ds.length=fn.params.toList.length→s.fn H ds={results:=[.lit (.bool true)],args:=ds })
  (pure:∀x:sm.ins.D,sm.ins.fit x→∃n z,F n x=some z∧unpack sm.outs z=[⟨.bool,(show Bool from true)⟩]):
  ReturnsInHanded {} C os f .any (fun w args=>(s.pre enc C.prog fn conds false w args∧laidMetH C.prog laid w)∧sizedMet enc C.prog fn (OpenSpec.ofChange s) false w args) (s.post enc C.prog fn false true false false):=by
 refine returnsInHanded_of_change_and (X:=fun w _=>laidMetH C.prog laid w) (fun _ _ _ hh h=>h.of_heap hh) own started noInit V2 witness ?_;intro W base args ds gs before U0 hW _ _ hL _;have UY:=hW;obtain⟨p,q,hA,hV,rfl,Uu,UU⟩:=hW;rw[Vc]at hV;obtain⟨rfl,rfl⟩:=trodVars_none hV;obtain⟨a1,a2,TX,a3,a4,a5,a6⟩:=Gw hA (fun j t v ht hv=>U0 j t v (by simpa using ht) (by simpa using hv)) U7;have Xj:TX.flatten.map (·.l)=sm.ins.kinds:=by rw[a4];exact(DB _).symm
 obtain⟨x,hx,T5⟩:=Fw sm.ins TX.flatten Xj;obtain⟨n,z,hz,Xz⟩:=pure x (T5 a5)
 have TW:CW sm.ps W (Old W) args.toList TX (fun _=>0) (fun _=>[]):={
  len:=a1
  BW:=a3
  each:=fun i pm u xs h1 h2 h3=>(a6 i pm u xs h1 h2 h3).1
  AS:=fun i=>by
   cases hq:sm.ps[i]? with
   |none=>rfl
   |some pm=>
    have Tc:=(gM.1 hq).1;obtain⟨_,g,ls,rfl⟩:=a6 i pm _ _ hq (gK (by omega)) (gK (by omega));rfl
  none:=fun i _ _ j=>rfl
  box:=fun i ls _ j _=>rfl
  row:=fun i g ls _ j _=>rfl
  fl:=fun k=>rfl
  nodup:=fun k=>gR
  Ar:=fun k k' _ b hb=>by cases hb
  own:=fun k b hb=>by cases hb
  fz:=fun b hb=>hb }
 have Tx:=UD n args.toList W (Old W) TX _ _ x z (Jr (hT W hL)) TW hx hz;have Vl:sm.mk?=false:=by unfold Sm.mk?;rw[Yk]
 have Vl:(Ly.mk sm (F n)).s.mk?=false:=Vl;rw[Vl]at Tx;rw[iH]at Tx;refine Tx.mono ?_
 rintro en W' ⟨r,TZ,UE,rv,vsR,vsP,rfl,co⟩
 have Ui:=co.outs;have Va:=co.H3;rw[Yk]at Va;obtain⟨u,vs,rfl,rfl,b1,_,b2⟩:=H5 Va;have UK:vs.length=1:=by have:=congrArg List.length b1;simpa using this
 obtain⟨lv,rfl⟩:∃lv,vs=[lv]:=by
  match vs,UK with
  | [x],_=>exact⟨x,rfl⟩
 obtain⟨l0,x0⟩:=lv;have Uv:l0=.bool:=by simpa using b1
 subst Uv;obtain⟨y,hy,hr⟩:=b2 0 (.bool,0) ⟨.bool,x0⟩ rfl rfl;have YW:u=y:=by simpa[Av]using hy
 subst YW;have Xz:unpack sm.outs z=[⟨.bool,(show Bool from true)⟩]:=Xz;have Ui:unpack sm.outs z=_:=Ui;rw[Xz]at Ui;simp only[gn,List.flatten_nil,hD,iK,hY,List.cons.injEq]at Ui
 have WE:x0=(show Bool from true):=by
  have:=Ui.1;injection this with _ h2
  exact h2.symm
 subst WE;have hu:u=.bool true:=hr.1;subst hu;have Wk:r=.bool true:=co.res;subst Wk;have Us:Below W.heap.size W W':=⟨co.rest.1,co.rest.2.1,co.rest.2.2,co.size,fun k hk=>co.frame k hk fun _ hb=>by cases hb⟩;have Tc:∀y∈p,y.block<W.heap.size:=fun y hy=>UY.lt y (by simpa using hy);refine⟨_,rfl,ds,[],_,[],p,[],UY,?_,?_,?_,Us.frame _,fun h=>by cases h⟩
 ·rw[hD,Uz ds a2,W5];exact trodAll_mk1 (shut_bool aa _)
 ·rw[hD,Uz ds a2];exact Cj WR Us Vn hA Tc
 ·rw[hD,Uz ds a2,Vc];rfl
end Go.Ev
namespace Go.Ev
open Go.Proofs Go.Shelf
open Go.ChangeShapes Go.RowKit
theorem GK{g:Sm}{w:World}{fz:Nat→Prop}{args:List Value}{TX:List (List Lv)}{bk:Nat→Nat}{om:Key→List Nat}(TW:CW g.ps w fz args TX bk om)(U7:∀(i:Nat)(pm:PM),g.ps[i]?=some pm→∃b ls,pm=.val b ls){z:g.outs.D}{w':World}{nb:Nat→List Nat}{rv:List Value}{vsR:List (List Lv)}
  (UU:∀j,(nb j).Nodup) (ay:∀j j',j≠j'→∀b∈nb j,b∉nb j') (V8:∀j,∀b∈nb j,w.heap.size≤b∧b<w'.heap.size) (Uy:EA w' fz nb g.rs rv vsR 0) (hz:unpack g.outs z=vsR.flatten) (hb:Below w.heap.size w w'):
  ∃r TZ UE ec cj vsP,Ending.returned (JM rv)=.returned r∧Ee g w fz args bk om z r w' TZ UE ec cj vsP:=by
 refine⟨_,fz,fun k=>match k with | .fl j=>nb j|k=>om k,rv,vsR,g.ps.map fun _=>[],rfl,?_⟩
 have Xe:(g.ps.map fun _=>([]:List Lv)).flatten=[]:=by
  induction g.ps with
  |nil=>rfl
  |cons _ _ ih=>exact ih
 exact {
  outs:=by rw[hz,Xe,hD]
  res:=rfl
  H3:=Uy
  len:=by simp
  each:=fun i pm u vs h1 h2 h3=>by
   obtain⟨b,ls,rfl⟩:=U7 i pm h1;rw[ga,h1]at h3;injection h3 with h3
   exact h3.symm
  AS:=fun i=>rfl
  nodup:=fun k=>by
   cases k with
   |fl j=>exact UU j
   |AS i=>exact TW.nodup _
   |lf i j=>exact TW.nodup _
  Ar:=fun k k' hk b hb Tk=>by
   cases k with
   |fl j=>cases k' with
    |fl j'=>exact ay j j' (fun e=>hk (by rw[e])) b hb Tk
    |AS i=>exact absurd (TW.own _ b Tk).2 (by have:=(V8 j b hb).1;omega)
    |lf i j'=>exact absurd (TW.own _ b Tk).2 (by have:=(V8 j b hb).1;omega)
   |AS i=>cases k' with
    |fl j'=>exact absurd (TW.own _ b hb).2 (by have:=(V8 j' b Tk).1;omega)
    |AS i'=>exact TW.Ar _ _ hk b hb Tk
    |lf i' j'=>exact TW.Ar _ _ hk b hb Tk
   |lf i j=>cases k' with
    |fl j'=>exact absurd (TW.own _ b hb).2 (by have:=(V8 j' b Tk).1;omega)
    |AS i'=>exact TW.Ar _ _ hk b hb Tk
    |lf i' j'=>exact TW.Ar _ _ hk b hb Tk
  own:=fun k b VD=>by
   have hs:=hb.size;have old:∀k,b∈om k→¬fz b∧b<w'.heap.size∧(w.heap.size≤b∨∃k0,b∈om k0):=fun k h=>⟨(TW.own k b h).1,by have:=(TW.own k b h).2;omega,.inr ⟨k,h⟩⟩;cases k with
   |fl j=>exact⟨fun h=>by have:=TW.fz b h;have:=(V8 j b VD).1;omega,(V8 j b VD).2,.inl (V8 j b VD).1⟩
   |AS i=>exact old _ VD
   |lf i j=>exact old _ VD
  fz:=fun b h=>⟨by have:=TW.fz b h;have:=hb.size;omega,.inl h⟩
  frame:=fun b h _=>hb.block b h
  size:=hb.size
  rest:=⟨hb.os,hb.tape,hb.output⟩
  kept:=fun i ls j p h1 _ _=>by
   obtain⟨b,XH,e⟩:=U7 i _ h1;cases e }
theorem GJ{ps:List PM}{w:World}{fz:Nat→Prop}{args:List Value}{TX:List (List Lv)}{bk:Nat→Nat}{om:Key→List Nat}(TW:CW ps w fz args TX bk om){i:Nat}{l:L}(h:ps[i]?=some (.val false [l])):∃(u:Value) (x:l.D),args[i]?=some u∧TX[i]?=some [⟨l,x⟩]∧l.rd 0 w fz u x []:=by
 have Tc:=(gM.1 h).1;have h1:i<args.length:=by rw[TW.len];exact Tc
 have h2:i<TX.length:=by rw[TW.BW];exact Tc
 obtain⟨r1,_,r3⟩:=TW.each i _ _ _ h (gK h1) (gK h2)
 obtain⟨lv,Ur⟩:∃lv,TX[i]=[lv]:=by
  have hl:=congrArg List.length r1
  match hv:TX[i],hl with
  | [lv],_=>exact⟨lv,rfl⟩
 rw[Ur]at r1 r3;obtain⟨l',x⟩:=lv;simp only[iR,List.map_nil,List.cons.injEq,and_true]at r1;subst r1;obtain⟨y,hy,hr⟩:=r3 0 (l',0) ⟨l',x⟩ rfl rfl;have YW:args[i]=y:=by simpa[Av]using hy
 subst YW;exact⟨_,x,gK h1,by rw[gK h2,Ur],hr⟩
theorem BW{α:Type}{l:List α}(h:l.length=2){a b:α}(h0:l[0]?=some a)(h1:l[1]?=some b):l=[a,b]:=by
 match l,h with
 | [x,y],_=>simp at h0 h1;subst h0;subst h1;rfl
def ID:List PM:=[.val false [.str],.val false [.str]]
theorem Iu{sm:Sm}(hs:sm.ps=ID){w:World}{fz:Nat→Prop}{args:List Value}{TX:List (List Lv)}{bk:Nat→Nat}{om:Key→List Nat}(TW:CW sm.ps w fz args TX bk om){x:sm.ins.D}(hx:pack sm.ins TX.flatten=some x):
  ∃s t:List UInt8,args.toArray = #[.string ⟨s.toArray⟩,.string ⟨t.toArray⟩]∧unpack sm.ins x=[⟨.str,s⟩,⟨.str,t⟩]:=by
 have Xi:=TW;rw[hs]at Xi;obtain⟨u,s,a1,a2,a3⟩:=GJ Xi (i:=0) (l:=.str) rfl;obtain⟨v,t,b1,b2,b3⟩:=GJ Xi (i:=1) (l:=.str) rfl;have e1:=BW Xi.len a1 b1;have e2:=BW Xi.BW a2 b2;subst e1;subst e2;have hu:u=.string ⟨s.toArray⟩:=a3.1;have hv:v=.string ⟨t.toArray⟩:=b3.1;subst hu;subst hv;exact⟨s,t,rfl,Ag _ _ _ hx⟩
def ND(s t:List UInt8):Option (List UInt8×List UInt8×Bool):=bif decide (s.length<4294967281)then some (Go.Lib.cut s t)else none
def Kn:Sm:=⟨ID,[(false,[(.str,0)]),(false,[(.str,0)]),(false,[(.bool,0)])]⟩
def IK:Type:={ cs:Array Value // ∃m,cs[0]?=some (.int .i64 m) }
def JQ (m : IK) : String × Array Value := ("internal/bytealg.MaxLen", m.1)
theorem KQ(w:World)(n:Nat):Below w.heap.size w (w.drewN n):=⟨rfl,rfl,rfl,gk _,fun _ _=>rfl⟩
theorem N2{P:Program}{ρ:Ren}(H:LaysM.n145 P ρ){T:List (String×Array Value)}{mc:IK}(hT:JQ mc∈T):D9 P T (ρ.f 145) ⟨Kn,fun x=>ND x.1 x.2⟩:=by
 intro args w fz TX bk om x z hg TW hx hz;obtain⟨s,t,ha,hu⟩:=Iu rfl TW hx;have hu:([⟨.str,x.1⟩,⟨.str,x.2⟩]:List Lv)=[⟨.str,s⟩,⟨.str,t⟩]:=hu;simp only[List.cons.injEq,and_true]at hu;obtain⟨h1,h2⟩:=hu;injection h1 with _ h1
 injection h2 with _ h2
 have h1:x.1=s:=h1;have h2:x.2=t:=h2;have hz:ND x.1 x.2=some z:=hz;rw[h1,h2]at hz;unfold ND at hz;by_cases hl:s.length<4294967281
 case neg=>rw[decide_eq_false hl]at hz;cases hz
 rw[decide_eq_true hl,cond_true]at hz;injection hz with hz
 obtain⟨hv,_⟩:=hg _ hT;obtain⟨m,bw⟩:=mc.2;have hm:w.cell? ⟨ρ.g 1,0,none⟩=some (.int .i64 m):=(World.var?_cell H.m1 hv 0).trans bw;rw[ha];have Tx:=Any.strings_Cut { H with } ⟨s.toArray⟩ ⟨t.toArray⟩ m w (by simpa[ByteArray.size]using hl) hm;refine Tx.mono ?_
 rintro e w' ⟨rfl,n,rfl⟩
 have e1:(Go.Lib.cut s t)=z:=hz
 exact GK (g:=Kn) TW (fun i pm h=>by
  match i,h with
  |0,h=>injection h with h;exact⟨_,_,h.symm⟩
  |1,h=>injection h with h;exact⟨_,_,h.symm⟩
  |i+2,h=>simp[Kn,ID]at h) (nb:=fun _=>[]) (rv:=[_,_,_]) (vsR:=[[⟨.str,(Go.Lib.cut s t).1⟩],[⟨.str,(Go.Lib.cut s t).2.1⟩],[⟨.bool,(Go.Lib.cut s t).2.2⟩]])
  (fun _=>gR) (fun _ _ _ _ hb=>by cases hb) (fun _ _ hb=>by cases hb)
  (by
   have one:∀(l:L)(y:l.D)(u:Value),l.rd 0 (w.drewN n) fz u y []→FX (w.drewN n) fz false [(l,0)] u [⟨l,y⟩] (fun _=>[]):=fun l y u hr=>⟨rfl,rfl,fun j p lv hj hv=>by
    match j,hj,hv with
    |0,hj,hv=>injection hj with hj;injection hv with hv;subst hj;subst hv;exact⟨u,rfl,hr⟩
    |j+1,hj,hv=>simp at hj⟩
   exact⟨one .str _ _ ⟨rfl,rfl⟩,one .str _ _ ⟨rfl,rfl⟩,one .bool _ _ ⟨rfl,rfl⟩,trivial⟩) (by rw[←e1];rfl) (KQ w n)
def splitN(s t:List UInt8):Option (List (List UInt8)):=bif decide (s.length<4294967281)&&decide (1≤t.length)then some (Go.Lib.split s t)else none
def G7(ty:TypeId):Sm:=⟨ID,[(false,[(.sl ty (.one .str),2)])]⟩
theorem Mr{P:Program}{ρ:Ren}(H:LaysM.n146 P ρ){T:List (String×Array Value)}{mc:IK}(hT:JQ mc∈T)(ty:TypeId):D9 P T (ρ.f 146) ⟨G7 ty,fun x=>splitN x.1 x.2⟩:=by
 intro args w fz TX bk om x z hg TW hx hz;obtain⟨s,t,ha,hu⟩:=Iu rfl TW hx;have hu:([⟨.str,x.1⟩,⟨.str,x.2⟩]:List Lv)=[⟨.str,s⟩,⟨.str,t⟩]:=hu;simp only[List.cons.injEq,and_true]at hu;obtain⟨h1,h2⟩:=hu;injection h1 with _ h1
 injection h2 with _ h2
 have h1:x.1=s:=h1;have h2:x.2=t:=h2;have hz:splitN x.1 x.2=some z:=hz;rw[h1,h2]at hz;unfold splitN at hz;by_cases hl:s.length<4294967281
 case neg=>rw[decide_eq_false hl]at hz;cases hz
 by_cases Wi:1≤t.length
 case neg=>rw[decide_eq_false Wi,Bool.and_false]at hz;cases hz
 rw[decide_eq_true hl,decide_eq_true Wi]at hz;injection hz with hz
 obtain⟨hv,_⟩:=hg _ hT;obtain⟨m,bw⟩:=mc.2;have hm:w.cell? ⟨ρ.g 1,0,none⟩=some (.int .i64 m):=(World.var?_cell H.m1 hv 0).trans bw;rw[ha];have Tx:=Any.strings_Split { H with } H.i9 ⟨s.toArray⟩ ⟨t.toArray⟩ m w (by simpa[ByteArray.size]using hl) hm (by simpa[ByteArray.size]using Wi);have hlen:=Go.Lib.splitB_all ⟨t.toArray⟩ (by simpa[ByteArray.size]using Wi) 0 _ ⟨s.toArray⟩ rfl;have bT:=Go.Lib.splitB_data ⟨t.toArray⟩ 0 (Go.Lib.countB ⟨s.toArray⟩ ⟨t.toArray⟩) ⟨s.toArray⟩
 have dQ:(Go.Lib.splitB ⟨t.toArray⟩ 0 (Go.Lib.countB ⟨s.toArray⟩ ⟨t.toArray⟩) ⟨s.toArray⟩).map (·.data.toList)=z:=by rw[bT];exact hz
 refine Tx.mono ?_
 rintro e w' ⟨rfl,rfl⟩
 generalize Go.Lib.splitB ⟨t.toArray⟩ 0 (Go.Lib.countB ⟨s.toArray⟩ ⟨t.toArray⟩) ⟨s.toArray⟩=B at hlen dQ;subst dQ;have Zf:(B.map (·.data.toList)).length=B.length:=iG ..;rw[←hlen]
 exact GK (g:=G7 ty) TW (fun i pm h=>by
  match i,h with
  |0,h=>injection h with h;exact⟨_,_,h.symm⟩
  |1,h=>injection h with h;exact⟨_,_,h.symm⟩
  |i+2,h=>simp[G7,ID]at h) (nb:=fun j=>if j=0 then [w.heap.size]else []) (rv:=[_]) (vsR:=[[⟨.sl ty (.one .str),B.map (·.data.toList)⟩]])
  (fun j=>by split<;>simp) (fun j j' hj b hb Tk=>by grind) (fun j b hb=>by
   have:b=w.heap.size:=by grind
   subst this;exact⟨gk _,by rw[Ap];omega⟩)
  ⟨⟨rfl,rfl,fun j p lv hj hv=>by
    match j,hj,hv with
    |0,hj,hv=>
     injection hj with hj;injection hv with hv;subst hj;subst hv
     refine⟨_,rfl,?_⟩
     have Ut:Bx (.one .str) 2 (w.alloc (.cells (B.map Value.string).toArray (ρ.t 9))) fz (fun k=>(B.map Value.string).toArray[0+k]?) (B.map (·.data.toList)) (fun _=>[]):=by
      intro i hi;have Z5:i<B.length:=by rw[←Zf];exact hi
      refine⟨.string B[i],?_,?_⟩
      ·show(B.map Value.string).toArray[0+(i*1+0)]?=_;simp[Z5]
      ·refine⟨?_,rfl⟩;have dv:i<(B.map fun q:ByteArray=>q.data.toList).length:=by rw[iG];exact Z5
       show Value.string B[i]=.string ⟨((B.map fun q:ByteArray=>q.data.toList)[i]'dv).toArray⟩;rw[List.getElem_map,iH]
     have Tb:=E5 (w:=w.alloc (.cells (B.map Value.string).toArray (ρ.t 9))) (ad:=⟨w.heap.size,0,none⟩) (c:=B.length) (fr:=(0,0)) (T:=ρ.t 9) (heap_alloc_new _ _) rfl (by omega) (by simp[Ls.n]) (Nat.le_of_eq Zf) Ut;have he:∀k,(List.range k).flatMap (fun _=>([]:List Nat))=[]:=fun k=>by simp
     rw[he]at Tb
     have DF:∀n:Nat,n=B.length→AD (.one .str) 2 (w.alloc (.cells (B.map Value.string).toArray (ρ.t 9))) fz (.slice (some ⟨w.heap.size,0,none⟩) n B.length) (B.map (·.data.toList)) [w.heap.size]→AD (.one .str) 2 (w.alloc (.cells (B.map Value.string).toArray (ρ.t 9))) fz (.slice (some ⟨w.heap.size,0,none⟩) B.length B.length) (B.map (·.data.toList)) [w.heap.size]:=by
      rintro _ rfl h;exact h
     exact DF _ Zf Tb
    |j+1,hj,hv=>simp at hj⟩,trivial⟩ rfl ⟨rfl,rfl,rfl,by rw[Ap];omega,fun b hb=>alloc_old _ _ hb⟩
def Lb(l:List UInt8):Int×Bool:=match Go.Lib.atoiAll l with
 | .ok v=>if v<0∨6<l.length∨Go.Lib.itoa v≠l then(0,false)else(v,true)
 |_=>(0,false)
def OE(l:List UInt8):Option (Int×Bool):=bif decide (l.length≤281474976710656)then some (Lb l)else none
def Ku:Sm:=⟨[.val false [.str]],[(false,[(.int .i64,0)]),(false,[(.bool,0)])]⟩
theorem NS{w W:World}{t5:TypeId}(hw:W=w∨∃t,W=Go.Lib.bytesWorld w t5 t):Below w.heap.size w W:=by
 rcases hw with rfl|⟨t,rfl⟩
 ·exact Below.refl _ _
 ·exact Go.Lib.bytesWorld_below _ _ _
theorem Nn{w W:World}(hb:Below w.heap.size w W)(k:Nat)(os:Array Obj):Below w.heap.size w (Go.Sort.grow (W.drewN k) os):=by
 refine⟨hb.os,hb.tape,hb.output,?_,fun b h=>?_⟩
 ·show _≤(W.heap++os).size;have:=hb.size;simp;omega
 ·show(W.heap++os)[b]?=_;rw[gu (iC h hb.size)];exact hb.block b h
def M1 (P : Program) (f : FuncId) : Prop := ∀ (s : ByteArray) (tp : TypeId) (p : Value) (tp2 : TypeId) (p2 : Value) (w : World), s.size ≤ 281474976710656 → w.var? P "strconv.ErrSyntax" = some #[.iface tp p] → w.var? P "strconv.ErrRange" = some #[.iface tp2 p2] →
 (∀ w', Below w.heap.size w w' → Go.Lib.TabIs P w' "internal/strconv.uint64pow10" .u64 Go.Lib.pow10Tab) →
 Calls P f #[.string s] w fun e w'=>e=.returned (.tuple #[.int .i64 (Lb s.data.toList).1,.bool (Lb s.data.toList).2])∧Below w.heap.size w w'
theorem Lu{P:Program}{n:String}{cs:Array Value}{w w':World}(h:w.var? P n=some cs)(hg:∃g,P.globalNamed n=some g∧g<w.heap.size)(hb:Below w.heap.size w w'):w'.var? P n=some cs:=by obtain⟨g,h1,h2⟩:=hg;unfold World.var? at h ⊢;rw[h1]at h ⊢;rw[←h];show(match w'.heap[g]? with|some (.cells cs _ _)=>some cs|_=>none)=(match w.heap[g]? with|some (.cells cs _ _)=>some cs|_=>none);rw[hb.block g h2]
def CT (q : IK × (TypeId × Value) × TypeId × Value) : List (String × Array Value) := [JQ q.1, ("strconv.ErrSyntax", #[.iface q.2.1.1 q.2.1.2]), ("strconv.ErrRange", #[.iface q.2.2.1 q.2.2.2]), ("internal/strconv.uint64pow10", (Go.Lib.pow10Tab.map fun z => Value.int .u64 z).toArray)]
theorem PC{P:Program}{f:FuncId}(hw:M1 P f)(q:IK×(TypeId×Value)×TypeId×Value):D9 P (CT q) f ⟨Ku,fun x=>OE x⟩:=by
 intro args w fz TX bk om x z hg TW hx hz;obtain⟨u,s,a1,a2,a3⟩:=GJ TW (i:=0) (l:=.str) rfl
 have e1:args=[u]:=by
  match args,TW.len,a1 with
  | [v],_,a1=>simp at a1;rw[a1]
 have e2:TX=[[⟨.str,s⟩]]:=by
  match TX,TW.BW,a2 with
  | [v],_,a2=>simp at a2;rw[a2]
 subst e1;subst e2;have hu:u=.string ⟨s.toArray⟩:=a3.1;subst hu;have X9:unpack Ku.ins x=[⟨.str,s⟩]:=Ag _ _ _ hx;have X9:([⟨.str,x⟩]:List Lv)=[⟨.str,s⟩]:=X9;simp only[List.cons.injEq,and_true]at X9;injection X9 with _ ai
 have ai:x=s:=ai;have hz:OE x=some z:=hz;rw[ai]at hz;unfold OE at hz;by_cases hl:s.length≤281474976710656
 case neg=>rw[decide_eq_false hl]at hz;cases hz
 rw[decide_eq_true hl,cond_true]at hz;injection hz with hz
 have at3:=hg _ (show JQ q.1∈CT q from gi)
 obtain ⟨v1, _⟩ := hg ("strconv.ErrSyntax", #[.iface q.2.1.1 q.2.1.2]) (by simp [CT])
 obtain ⟨v2, _⟩ := hg ("strconv.ErrRange", #[.iface q.2.2.1 q.2.2.2]) (by simp [CT])
 obtain ⟨v3, g, dt, _, Tc⟩ := hg ("internal/strconv.uint64pow10", (Go.Lib.pow10Tab.map fun z => Value.int .u64 z).toArray) (by simp [CT])
 have Tx:=hw ⟨s.toArray⟩ _ _ _ _ w ((show ∀l:List UInt8,l.length≤281474976710656→(⟨l.toArray⟩:ByteArray).size≤281474976710656 from fun l h=>by simpa[ByteArray.size]using h) s hl) v1 v2 (fun w' hb=>Lu v3 ⟨g,dt,Tc⟩ hb);refine Tx.mono ?_
 rintro e w' ⟨rfl,hb⟩
 have ez:Lb s=z:=hz
 exact GK (g:=Ku) TW (fun i pm h=>by
  match i,h with
  |0,h=>injection h with h;exact⟨_,_,h.symm⟩
  |i+1,h=>simp[Ku]at h) (nb:=fun _=>[]) (rv:=[_,_]) (vsR:=[[⟨.int .i64,(Lb s).1⟩],[⟨.bool,(Lb s).2⟩]])
  (fun _=>gR) (fun _ _ _ _ hb=>by cases hb) (fun _ _ hb=>by cases hb)
  (by
   have one:∀(l:L)(y:l.D)(u:Value),l.rd 0 w' fz u y []→FX w' fz false [(l,0)] u [⟨l,y⟩] (fun _=>[]):=fun l y u hr=>⟨rfl,rfl,fun j p lv hj hv=>by
    match j,hj,hv with
    |0,hj,hv=>injection hj with hj;injection hv with hv;subst hj;subst hv;exact⟨u,rfl,hr⟩
    |j+1,hj,hv=>simp at hj⟩
   exact⟨one (.int .i64) _ _ ⟨rfl,rfl⟩,one .bool _ _ ⟨rfl,rfl⟩,trivial⟩) (by rw[←ez];rfl) hb
class Tq where
 q:IK×(TypeId×Value)×TypeId×Value
theorem D9.sub{P:Program}{T T':List (String×Array Value)}{f:FuncId}{g:Ly}(h:D9 P T f g)(hs:∀x∈T,x∈T'):D9 P T' f g:=fun args w fz TX bk om x z hg=>h args w fz TX bk om x z fun y hy=>hg y (hs y hy)
theorem Ok{P:Program}{ρ:Ren}(H:LaysM.n171 P ρ)(q:IK×(TypeId×Value)×TypeId×Value):D9 P (CT q) (ρ.f 171) ⟨FK,fun x=>Kq x⟩:=(NM H).sub fun x hx=>by rw[hJ.1 hx];simp[CT]
theorem Ov{P:Program}{ρ:Ren}(H:LaysM.n145 P ρ)(q:IK×(TypeId×Value)×TypeId×Value):D9 P (CT q) (ρ.f 145) ⟨Kn,fun x=>ND x.1 x.2⟩:=N2 H (mc:=q.1) gi
theorem Ob{P:Program}{ρ:Ren}(H:LaysM.n146 P ρ)(q:IK×(TypeId×Value)×TypeId×Value)(ty:TypeId):D9 P (CT q) (ρ.f 146) ⟨G7 ty,fun x=>splitN x.1 x.2⟩:=Mr H (mc:=q.1) gi ty
theorem laidMet.behind{P:Program}{w:World}:∀(k:Nat) {l:List (String×DataW Unit)},laidMet P l w→laidMet P (l.drop k) w
 |0,_,h=>h
 |_+1,[],h=>h
 |k+1,_::_,h=>laidMet.behind k (Go.laidMet.tail h)
theorem Oc {P : Program} {ρ : Ren} (H : LaysM.n145 P ρ) {laid : List (String × DataW Unit)} (hb : MH P = true) (hm : ("internal/strconv.uint64pow10", Go.Lib.tabData .u64 Go.Lib.pow10Tab) ∈ laid) (hp : (laid.all fun x => x.2.handleName?.isNone) = true)
  (k1 k2 : Nat) {t1 t2 : List UInt8} {r1 r2 : List (String × DataW Unit)} (ZU : laid.drop k1 = ("strconv.ErrSyntax", .iface "*errors.errorString" (.ptr (.agg [.lit (.string t1)]))) :: r1) (Zt : laid.drop k2 = ("strconv.ErrRange", .iface "*errors.errorString" (.ptr (.agg [.lit (.string t2)]))) :: r2)
  {g1 g2 : Nat} {ti tp te ts : TypeId} {ms : Array (String × TypeId)} {f : Field} (X2 : P.globalNamed "strconv.ErrSyntax" = some g1) (ZW : P.globalNamed "strconv.ErrRange" = some g2) (eM : (P.globals[g1]?).map (·.type) = some ti) (eN : (P.globals[g2]?).map (·.type) = some ti) (hi : P.underlying ti = some (.interface ms))
  (Tb : ∀ u, P.typeName? 3 u = some "*errors.errorString" → u = tp) (dH : P.underlying tp = some (.pointer te)) (he : P.underlying te = some (.struct #[f])) (ZV : f.type = ts) (dC : f.offset = 0) (hs : P.underlying ts = some .string) (hc : P.cellsOf te = 1) (Ve : P.cellsOf ts = 1)
  (W:World) (h:laidMetH P laid W) (cQ:W.ShapedOpen P):∃q,∀x∈CT q,W.var? P x.1=some x.2:=by
 have Y4:=LS hb hm hp W h;rw[MakeChecks.laidMetH_plain _ _ _ hp]at h;have d1:=laidMet.behind k1 h;have d2:=laidMet.behind k2 h;rw[ZU]at d1;rw[Zt]at d2;obtain⟨a1,_,v1,_⟩:=laid_sentinel d1 X2 eM hi Tb dH he ZV dC hs hc Ve;obtain⟨a2,_,v2,_⟩:=laid_sentinel d2 ZW eN hi Tb dH he ZV dC hs hc Ve;obtain⟨m,eA⟩:=H.s1_3 W cQ
 have hv : ∃ cs, W.var? P "internal/bytealg.MaxLen" = some cs ∧ cs[0]? = some (.int .i64 m) := by
  unfold World.cell? at eA;unfold World.var?;rw[H.m1];show ∃cs,(match W.heap[ρ.g 1]? with|some (.cells cs _ _)=>some cs|_=>none)=some cs∧_;grind
 obtain⟨cs,XW,ZN⟩:=hv;refine⟨((⟨cs,m,ZN⟩:IK),(tp,.pointer (some a1)),(tp,.pointer (some a2))),fun x hx=>?_⟩;simp only[CT,gj,List.not_mem_nil,or_false]at hx;rcases hx with rfl|rfl|rfl|rfl
 ·exact XW
 ·exact v1
 ·exact v2
 ·exact Y4 _ (hJ.2 rfl)
theorem Fi{H:Type}{enc:TypeId×Value→H}{a:Assume}{C:Checked}{os:Os}{f:FuncId}{fn:Func}{s:ChangeSpec}{conds:List PathCond}{apart fresh handsOn again:Bool}{X:World→Array Value→Prop}
  (hX:∀(w w':World)(args:Array Value),w.heap=w'.heap→X w args→X w' args)
  (own:ownKnob C.prog.godebug=none) (started:os.Started) (noInit:C.prog.inits.idxOf? f=none) (V2:C.prog.funcs[f]?=some fn)
  (witness:∃(w:World) (tape:Tape) (i:Input),w.os=os∧(w.forCall tape i).Shaped C.prog∧i.vars=[]∧Input.okWide C.prog (w.forCall tape i) .any w.heap.size f i∧
   ((s.pre enc C.prog fn conds apart (w.forCall tape i).memory i.args∧X (w.forCall tape i).memory i.args)∧sizedMet enc C.prog fn (OpenSpec.ofChange s) apart (w.forCall tape i).memory i.args)∧a.holds C.prog (lone (Frame.enter C.prog f i.args .normal) [] (w.forCall tape i)))
  (contract:∀(W:World)(base:Nat)(args:Array Value) (ds gs:List (DataW H)) (before:List MemPlace),
   (∀(j:Nat) t v,fn.params[j]?=some t→args[j]?=some v→Value.okWide C.prog W .any base t v)→
   DataW.Whole enc C.prog fn.params.toList s.vars apart W args.toList ds gs before→
   conds.all (PathCond.test C.prog ⟨fn.params.toList,ds,s.plain.varTypes C.prog,gs⟩)=true→
   (DataW.weightsEach C.prog (fn.params.toList++s.plain.varTypes C.prog) (ds++gs)).all (· ≤ reachBytes)=true→X W args→W.ShapedOpen C.prog→
   a.holds C.prog (lone (Frame.enter C.prog f args .normal) [] W)→
   Calls C.prog f args W fun e W'=>∃v,e=.returned v∧s.post enc C.prog fn apart fresh handsOn again W args v W'):
  ReturnsInHanded a C os f .any (fun w args=>(s.pre enc C.prog fn conds apart w args∧X w args)∧sizedMet enc C.prog fn (OpenSpec.ofChange s) apart w args) (s.post enc C.prog fn apart fresh handsOn again):=by
 refine returnsInHanded_of_calls own started noInit witness ?_;intro w tape i _ cQ _ UD WY V4;obtain⟨_,_,_,dX,bb,_,_,_,_,U0⟩:=UD;have e:dX=fn:=Option.some.inj (bb.symm.trans V2);subst e;obtain⟨⟨⟨ds,gs,before,hw,hc⟩,hx⟩,hz⟩:=WY;have eS:=DataW.Whole.of_heap (w':=w.forCall tape i) (by rfl) hw;refine(contract (w.forCall tape i) w.heap.size i.args ds gs before U0 eS hc (hz.weights hw) (hX _ _ _ (by rfl) hx) cQ V4).mono fun e W' ⟨v,he,hp⟩=>?_;subst he;exact ChangeSpec.post_blind hp
theorem Nr{H:Type}{enc:TypeId×Value→H}{C:Checked}{os:Os}{f:FuncId}{fn:Func}{s:ChangeSpec}{conds:List PathCond}{laid:List (String×DataW Unit)}{Q:Type}{T:Q→List (String×Array Value)}
  (own:ownKnob C.prog.godebug=none) (started:os.Started) (noInit:C.prog.inits.idxOf? f=none) (V2:C.prog.funcs[f]?=some fn)
  (witness:∃(w:World) (tape:Tape) (i:Input),w.os=os∧(w.forCall tape i).Shaped C.prog∧i.vars=[]∧Input.okWide C.prog (w.forCall tape i) .any w.heap.size f i∧
   ((s.pre enc C.prog fn conds false (w.forCall tape i).memory i.args∧laidMetH C.prog laid (w.forCall tape i).memory)∧sizedMet enc C.prog fn (OpenSpec.ofChange s) false (w.forCall tape i).memory i.args)∧({}:Assume).holds C.prog (lone (Frame.enter C.prog f i.args .normal) [] (w.forCall tape i)))
  (hT:∀W,laidMetH C.prog laid W→W.ShapedOpen C.prog→∃q,∀x∈T q,W.var? C.prog x.1=some x.2)
  {sm:Sm} {F:Nat→sm.ins.D→Option sm.outs.D} (UD:∀q n,D9 C.prog (T q) f ⟨sm,F n⟩) (U7:FU C.prog fn.params.toList=some sm.ps) (Yk:sm.rs=[(false,[(.bool,0)])])
  {tb:TypeId} (W5:fn.resultTypes = #[tb]) (aa:C.prog.underlying tb=some .bool) (Vc:s.vars=[]) (Vn:GO C.prog fn.params.toList=true) (WR:laidOutB C.prog=true)
  (Uz:∀(ds:List (DataW H)),ds.length=fn.params.toList.length→s.fn H ds={results:=[.lit (.bool true)],args:=ds })
  (pure:∀x:sm.ins.D,sm.ins.fit x→∃n z,F n x=some z∧unpack sm.outs z=[⟨.bool,(show Bool from true)⟩]):
  ReturnsInHanded {} C os f .any (fun w args=>(s.pre enc C.prog fn conds false w args∧laidMetH C.prog laid w)∧sizedMet enc C.prog fn (OpenSpec.ofChange s) false w args) (s.post enc C.prog fn false true false false):=by
 refine Fi (X:=fun w _=>laidMetH C.prog laid w) (fun _ _ _ hh h=>h.of_heap hh) own started noInit V2 witness ?_;intro W base args ds gs before U0 hW _ _ hL hS _;obtain⟨qT,hT⟩:=hT W hL hS;have UY:=hW;obtain⟨p,q,hA,hV,rfl,Uu,UU⟩:=hW;rw[Vc]at hV;obtain⟨rfl,rfl⟩:=trodVars_none hV;obtain⟨a1,a2,TX,a3,a4,a5,a6⟩:=Gw hA (fun j t v ht hv=>U0 j t v (by simpa using ht) (by simpa using hv)) U7;have Xj:TX.flatten.map (·.l)=sm.ins.kinds:=by rw[a4];exact(DB _).symm
 obtain⟨x,hx,T5⟩:=Fw sm.ins TX.flatten Xj;obtain⟨n,z,hz,Xz⟩:=pure x (T5 a5)
 have TW:CW sm.ps W (Old W) args.toList TX (fun _=>0) (fun _=>[]):={
  len:=a1
  BW:=a3
  each:=fun i pm u xs h1 h2 h3=>(a6 i pm u xs h1 h2 h3).1
  AS:=fun i=>by
   cases hq:sm.ps[i]? with
   |none=>rfl
   |some pm=>
    have Tc:=(gM.1 hq).1;obtain⟨_,g,ls,rfl⟩:=a6 i pm _ _ hq (gK (by omega)) (gK (by omega));rfl
  none:=fun i _ _ j=>rfl
  box:=fun i ls _ j _=>rfl
  row:=fun i g ls _ j _=>rfl
  fl:=fun k=>rfl
  nodup:=fun k=>gR
  Ar:=fun k k' _ b hb=>by cases hb
  own:=fun k b hb=>by cases hb
  fz:=fun b hb=>hb }
 have Tx:=UD qT n args.toList W (Old W) TX _ _ x z (Jr hT) TW hx hz;have Vl:sm.mk?=false:=by unfold Sm.mk?;rw[Yk]
 have Vl:(Ly.mk sm (F n)).s.mk?=false:=Vl;rw[Vl]at Tx;rw[iH]at Tx;refine Tx.mono ?_
 rintro en W' ⟨r,TZ,UE,rv,vsR,vsP,rfl,co⟩
 have Ui:=co.outs;have Va:=co.H3;rw[Yk]at Va;obtain⟨u,vs,rfl,rfl,b1,_,b2⟩:=H5 Va;have UK:vs.length=1:=by have:=congrArg List.length b1;simpa using this
 obtain⟨lv,rfl⟩:∃lv,vs=[lv]:=by
  match vs,UK with
  | [x],_=>exact⟨x,rfl⟩
 obtain⟨l0,x0⟩:=lv;have Uv:l0=.bool:=by simpa using b1
 subst Uv;obtain⟨y,hy,hr⟩:=b2 0 (.bool,0) ⟨.bool,x0⟩ rfl rfl;have YW:u=y:=by simpa[Av]using hy
 subst YW;have Xz:unpack sm.outs z=[⟨.bool,(show Bool from true)⟩]:=Xz;have Ui:unpack sm.outs z=_:=Ui;rw[Xz]at Ui;simp only[gn,List.flatten_nil,hD,iK,hY,List.cons.injEq]at Ui
 have WE:x0=(show Bool from true):=by
  have:=Ui.1;injection this with _ h2
  exact h2.symm
 subst WE;have hu:u=.bool true:=hr.1;subst hu;have Wk:r=.bool true:=co.res;subst Wk;have Us:Below W.heap.size W W':=⟨co.rest.1,co.rest.2.1,co.rest.2.2,co.size,fun k hk=>co.frame k hk fun _ hb=>by cases hb⟩;have Tc:∀y∈p,y.block<W.heap.size:=fun y hy=>UY.lt y (by simpa using hy);refine⟨_,rfl,ds,[],_,[],p,[],UY,?_,?_,?_,Us.frame _,fun h=>by cases h⟩
 ·rw[hD,Uz ds a2,W5];exact trodAll_mk1 (shut_bool aa _)
 ·rw[hD,Uz ds a2];exact Cj WR Us Vn hA Tc
 ·rw[hD,Uz ds a2,Vc];rfl
end Go.Ev
