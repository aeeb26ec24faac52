/- Tables of types;summaries of the functions. Conditions: none. -/
import Derived.Test.YtccgnkaemdnniaaGreatLib4
import Derived.Test.YtccgnkaemdnniaaGreatFnSafeNat
import Derived.Test.YtccgnkaemdnniaaGreatProg
import Derived.KernelRfl
set_option linter.all false
namespace Go.Proofs.YtccgnkaemdnniaaGreat.Ev
open Go Go.Ev Go.Proofs
set_option maxRecDepth 100000
abbrev I:L:=.int .i64
abbrev TT:List (String×Array Value):=[]
def k0:Ls:=(.cons .str (.one (.int .u64)))
def k1:Ls:=(.cons I (.one I))
def k2:Ls:=(.cons .str (.one (.int .u8)))
def k3:Ls:=(.cons I (.cons I (.one I)))
def k4:Ls:=(.cons I (.cons I (.cons .bool (.one (.int .u8)))))
def k5:Ls:=(.cons I (.cons I (.cons I (.one I))))
def k6:Ls:=(.cons I (.cons I (.cons I (.cons .bool (.one I)))))
def k7:Ls:=(.cons I (.cons I (.one (.sl 3 (.one I)))))
def k8:Ls:=(.cons I (.cons I (.one (.sl 88 k3))))
def k9:Ls:=(.cons (.sl 5 (.one (.int .u8))) (.cons I (.one I)))
def k10:Ls:=(.cons I (.cons I (.cons (.sl 129 k1) (.cons (.sl 102 k3) (.one I)))))
def k11:Ls:=(.cons I (.cons I (.cons (.sl 3 (.one I)) (.cons (.sl 41 k6) (.one (.sl 3 (.one I)))))))
def sA:Ls:=(.cons I (.one (.sl 54 k10)))
def sB:Ls:=(.cons I (.cons I (.cons (.sl 3 (.one I)) (.cons (.sl 41 k6) (.cons (.sl 24 (.one (.sl 3 (.one I)))) (.one (.sl 3 (.one I))))))))
def sC:Ls:=(.cons I (.cons I (.cons (.sl 3 (.one I)) (.cons (.sl 84 k8) (.cons I (.cons (.sl 54 k10) (.cons (.sl 41 k6) (.cons (.sl 80 k5) (.cons (.sl 3 (.one I)) (.cons (.sl 3 (.one I)) (.one I)))))))))))
def tbl:List (Nat×Ty):=[
 (3,⟨false,(.one I),[],false⟩),
 (4,⟨false,(.one .bool),[],false⟩),
 (5,⟨false,(.one (.int .u8)),[],false⟩),
 (9,⟨false,(.one .str),[],false⟩),
 (22,⟨false,(.one (.sl 5 (.one (.int .u8)))),[],false⟩),
 (24,⟨false,(.one (.sl 3 (.one I))),[],false⟩),
 (26,⟨true,k7,[(0,3),(1,3),(2,24)],false⟩),
 (27,⟨false,(.one (.sl 84 k8)),[],false⟩),
 (29,⟨true,(.one (.sl 84 k8)),[(0,27)],false⟩),
 (30,⟨false,(.one (.sl 54 k10)),[],false⟩),
 (32,⟨true,sA,[(0,3),(1,30)],false⟩),
 (33,⟨false,(.one (.sl 41 k6)),[],false⟩),
 (34,⟨false,(.one (.sl 80 k5)),[],false⟩),
 (36,⟨true,sC,[(0,26),(3,29),(4,32),(6,33),(7,34),(8,24),(9,24),(10,3)],false⟩),
 (41,⟨true,k6,[(0,3),(1,3),(2,3),(3,4),(4,3)],true⟩),
 (45,⟨false,(.one (.sl 129 k1)),[],false⟩),
 (52,⟨false,(.one (.sl 102 k3)),[],false⟩),
 (54,⟨true,k10,[(0,3),(1,3),(2,45),(3,52),(4,3)],false⟩),
 (80,⟨true,k5,[(0,3),(1,3),(2,3),(3,3)],true⟩),
 (82,⟨false,(.one (.sl 88 k3)),[],false⟩),
 (84,⟨true,k8,[(0,3),(1,3),(2,82)],false⟩),
 (88,⟨true,k3,[(0,3),(1,3),(2,3)],true⟩),
 (102,⟨true,k3,[(0,3),(1,3),(2,3)],true⟩),
 (110,⟨true,k9,[(0,22),(1,3),(2,3)],false⟩),
 (129,⟨true,k1,[(0,3),(1,3)],true⟩),
 (155,⟨false,(.one (.sl 9 (.one .str))),[],false⟩),
 (168,⟨false,(.one (.sl 4 (.one .bool))),[],false⟩),
 (174,⟨false,(.one (.sl 24 (.one (.sl 3 (.one I))))),[],false⟩),
 (204,⟨true,sB,[(0,26),(3,33),(4,174),(5,24)],false⟩)]
theorem oX:tbl.all (fun p=>Oe Tryz.prog p.1 p.2)=true:=by kernel_rfl
theorem follows:Tryz.prog.follows .mixedOrders=true:=by kernel_rfl
def Vk:An:=⟨fun _=>none,fun _=>none,fun _=>none,fun _=>[]⟩
abbrev FO(f:FuncId)(g:Mv):Prop:=K8 Tryz.prog TT f g∧Ms Tryz.prog f
theorem nl:JY Tryz.prog TT (find []):=OY
theorem cn{f:FuncId}{g:Mv}{l:List (FuncId×Mv)}(h:FO f g)(hl:JY Tryz.prog TT (find l)):JY Tryz.prog TT (find ((f,g)::l)):=OM h.1 h.2 hl
theorem sD {l : Env} {an : An} {n : Nat} {sm : Sm} {fn : Func} {f : FuncId} {c : Code} {F : sm.ins.D → Option sm.outs.D} (hf : Tryz.prog.funcs[f]? = some fn) (hb : fn.body = some c) (hl : Ko Tryz.prog TT l) (hF : ∀ x, L5 (find tbl) l an n fn sm x = F x) (h1 : decide (sm.ps.length ≤ fn.ntmps) = true := by kernel_rfl) (h2 : (fn.name == "runtime.NumGoroutine") = false := by kernel_rfl) : FO f ⟨sm, F⟩ := ⟨OE hf hb h1 oX hl follows hF, fn, c, hf, hb, h2⟩
theorem mk {l : List (FuncId × Mv)} {an : An} {n : Nat} {sm : Sm} {fn : Func} {f : FuncId} {c : Code} {F : sm.ins.D → Option sm.outs.D} (hf : Tryz.prog.funcs[f]? = some fn) (hb : fn.body = some c) (hl : JY Tryz.prog TT (find l)) (hF : ∀ x, L5 (find tbl) (plain l) an n fn sm x = F x) (h1 : decide (sm.ps.length ≤ fn.ntmps) = true := by kernel_rfl) (h2 : (fn.name == "runtime.NumGoroutine") = false := by kernel_rfl) : FO f ⟨sm, F⟩ := sD hf hb (OD hl) hF h1 h2
def s8(n:Nat):Mv:=⟨⟨[.val false [(.sl 5 (.one (.int .u8)))]],[(false,[(.bool,0)])]⟩,fun x=>N.b7 x⟩
theorem sF(n:Nat):FO 8 (s8 n):=mk (an:=Vk) (n:=n) Tryz.func8 rfl nl fun x=>by kernel_rfl
def sW(n:Nat):Mv:=⟨⟨[.val false [(.sl 5 (.one (.int .u8)))]],[(false,[((.sl 5 (.one (.int .u8))),0),(I,0),(I,0)])]⟩,fun x=>N.Xs n x⟩
theorem pF(n:Nat):FO 38 (sW n):=mk (an:=⟨fun _=>none,
 fun b=>match b with
  |0=>some ([.slot 3 I,.slot 4 I],false)
  |_=>none,
 fun _=>none,
 fun _=>[]⟩) (n:=n) Tryz.func38 rfl nl fun x=>by kernel_rfl
def sY(n:Nat):Mv:=⟨⟨[.val false [(.sl 5 (.one (.int .u8)))],.val false [I]],[(false,[(I,0)])]⟩,fun x=>N.W0 x.1 x.2⟩
theorem pH(n:Nat):FO 40 (sY n):=mk (an:=Vk) (n:=n) Tryz.func40 rfl nl fun x=>by kernel_rfl
def qN(n:Nat):Mv:=⟨⟨[.box [((.sl 5 (.one (.int .u8))),0),(I,0),(I,0)]],[(false,[(I,0)])]⟩,fun x=>N.Sg x.1 x.2.1 x.2.2⟩
theorem nE(n:Nat):FO 127 (qN n):=mk (an:=⟨fun _=>none,
 fun _=>none,
 fun b=>match b with
  |12=>some ([.slot 3 I,.box 0 [some ((.sl 5 (.one (.int .u8))),0),some (I,0),some (I,0)]],false)
  |_=>none,
 fun _=>[]⟩) (n:=n) Tryz.func127 rfl nl fun x=>by kernel_rfl
def rh(n:Nat):Mv:=⟨⟨[.box [((.sl 5 (.one (.int .u8))),0),(I,0),(I,0)],.val false [I]],[(false,[(I,0)])]⟩,fun x=>N.PN x.1 x.2.1 x.2.2.1 x.2.2.2⟩
theorem dE(n:Nat):FO 77 (rh n):=mk (an:=Vk) (n:=n) Tryz.func77 rfl (cn (nE n) nl) fun x=>by kernel_rfl
def mc(n:Nat):Mv:=⟨⟨[.box [((.sl 5 (.one (.int .u8))),0),(I,0),(I,0)],.val false [(.sl 9 (.one .str))]],[(false,[(.str,0)])]⟩,fun x=>N.Wh x.1 x.2.1 x.2.2.1 x.2.2.2⟩
theorem l9(n:Nat):FO 143 (mc n):=mk (an:=Vk) (n:=n) Tryz.func143 rfl (cn (dE n) nl) fun x=>by kernel_rfl
def qo(n:Nat):Mv:=⟨⟨[.val false [.str],.val false [(.int .u8)]],[(false,[((.sl 9 (.one .str)),2)])]⟩,fun x=>N.WB n x.1 x.2⟩
theorem nZ(n:Nat):FO 173 (qo n):=mk (an:=⟨fun _=>none,
 fun b=>match b with
  |0=>some ([.own 5 9 (.one .str) 2 false,.slot 6 I,.slot 7 I],false)
  |_=>none,
 fun b=>match b with
  |7=>some ([.own 5 9 (.one .str) 2 false,.slot 6 I],false)
  |_=>none,
 fun _=>[]⟩) (n:=n) Tryz.func173 rfl nl fun x=>by kernel_rfl
def tP(n:Nat):Mv:=⟨⟨[.val false [I],.val false [I],.val false [I]],[(false,[(.bool,0)])]⟩,fun x=>N.PE x.1 x.2.1 x.2.2⟩
theorem XS(n:Nat):FO 88 (tP n):=mk (an:=Vk) (n:=n) Tryz.func88 rfl nl fun x=>by kernel_rfl
def qt(n:Nat):Mv:=⟨⟨[.val false [(.int .u8)]],[(false,[(I,0)])]⟩,fun x=>N.Wz n x⟩
theorem na(n:Nat):FO 174 (qt n):=mk (an:=⟨fun _=>none,
 fun b=>match b with
  |0=>some ([.slot 3 I],true)
  |_=>none,
 fun _=>none,
 fun _=>[]⟩) (n:=n) Tryz.func174 rfl nl fun x=>by kernel_rfl
def mb(n:Nat):Mv:=⟨⟨[.val false [.str]],[(true,[(I,0),(I,0),((.sl 3 (.one I)),2)]),(false,[(I,0)])]⟩,fun x=>N.QM n x⟩
theorem l8(n:Nat):FO 142 (mb n):=mk (an:=⟨fun _=>none,
 fun b=>match b with
  |0=>some ([.slot 6 I,.box 2 [some (I,0),some (I,0),some ((.sl 3 (.one I)),2)],.box 5 [some (I,0),some (I,0),some ((.sl 3 (.one I)),2)]],true)
  |2=>some ([.slot 8 I,.box 2 [some (I,0),some (I,0),some ((.sl 3 (.one I)),2)],.box 5 [some (I,0),some (I,0),some ((.sl 3 (.one I)),2)]],true)
  |_=>none,
 fun _=>none,
 fun _=>[]⟩) (n:=n) Tryz.func142 rfl (cn (XS n) (cn (nZ n) (cn (na n) nl))) fun x=>by kernel_rfl
def rU(n:Nat):Mv:=⟨⟨[.box [((.sl 5 (.one (.int .u8))),0),(I,0),(I,0)],.val false [I]],[(false,[(.bool,0)])]⟩,fun x=>N.Si x.1 x.2.1 x.2.2.1 x.2.2.2⟩
theorem lF(n:Nat):FO 61 (rU n):=mk (an:=Vk) (n:=n) Tryz.func61 rfl (cn (dE n) nl) fun x=>by kernel_rfl
def ri(n:Nat):Mv:=⟨⟨[.box [((.sl 5 (.one (.int .u8))),0),(I,0),(I,0)],.val false [(.sl 3 (.one I))]],[(false,[(I,0)])]⟩,fun x=>N.P6 x.1 x.2.1 x.2.2.1 x.2.2.2⟩
theorem jG(n:Nat):FO 78 (ri n):=mk (an:=Vk) (n:=n) Tryz.func78 rfl (cn (dE n) nl) fun x=>by kernel_rfl
def kR(n:Nat):Mv:=⟨⟨[.box [((.sl 5 (.one (.int .u8))),0),(I,0),(I,0)]],[(true,[(I,0),(I,0),((.sl 3 (.one I)),2)])]⟩,fun x=>N.UW n x.1 x.2.1 x.2.2⟩
def ld:An:=⟨fun _=>none,
 fun b=>match b with
  |0=>some ([.slot 6 I,.box 0 [some ((.sl 5 (.one (.int .u8))),0),some (I,0),some (I,0)],.box 5 [some (I,0),some (I,0),some ((.sl 3 (.one I)),2)]],false)
  |_=>none,
 fun _=>none,
 fun _=>[]⟩
theorem mu(n:Nat)(x:(kR n).s.ins.D):L5 (find tbl) (plain [(61,rU n),(77,rh n),(78,ri n),(142,mb n),(143,mc n)]) ld n Tryz.f144 (kR n).s x=N.UW n x.1 x.2.1 x.2.2:=by kernel_rfl
theorem nJ(n:Nat):FO 144 (kR n):=mk (an:=ld) (n:=n) (sm:=(kR n).s) Tryz.func144 rfl (cn (lF n) (cn (dE n) (cn (jG n) (cn (l8 n) (cn (l9 n) nl))))) (mu n)
def tJ(n:Nat):Mv:=⟨⟨[.val true [I,I,(.sl 3 (.one I))]],[(false,[(.bool,0)])]⟩,fun x=>N.Qg n x.1 x.2.1 x.2.2⟩
theorem kF(n:Nat):FO 82 (tJ n):=mk (an:=⟨fun _=>none,
 fun b=>match b with
  |0=>some ([.slot 3 I],true)
  |_=>none,
 fun _=>none,
 fun _=>[]⟩) (n:=n) Tryz.func82 rfl (cn (XS n) nl) fun x=>by kernel_rfl
def qC(n:Nat):Mv:=⟨⟨[.val true [I,I,(.sl 3 (.one I))],.val false [I]],[(false,[((.sl 3 (.one I)),2)])]⟩,fun x=>N.Rq n x.1 x.2.1 x.2.2.1 x.2.2.2⟩
theorem j8(n:Nat):FO 112 (qC n):=mk (an:=⟨fun _=>none,
 fun b=>match b with
  |0=>some ([.own 5 3 (.one I) 2 false,.slot 6 I],false)
  |_=>none,
 fun b=>match b with
  |7=>some ([.own 5 3 (.one I) 2 false],false)
  |_=>none,
 fun _=>[]⟩) (n:=n) Tryz.func112 rfl (cn (kF n) nl) fun x=>by kernel_rfl
def oS(n:Nat):Mv:=⟨⟨[.box [((.sl 5 (.one (.int .u8))),0),(I,0),(I,0)],.val true [I,I,(.sl 3 (.one I))]],[(true,[((.sl 84 k8),2)])]⟩,fun x=>N.V9 n x.1 x.2.1 x.2.2.1 x.2.2.2.1 x.2.2.2.2.1 x.2.2.2.2.2⟩
theorem nL(n:Nat):FO 146 (oS n):=mk (an:=⟨fun _=>none,
 fun b=>match b with
  |0=>some ([.slot 7 I,.box 0 [some ((.sl 5 (.one (.int .u8))),0),some (I,0),some (I,0)],.box 5 [some ((.sl 84 k8),2)]],false)
  |2=>some ([.slot 9 I,.box 0 [some ((.sl 5 (.one (.int .u8))),0),some (I,0),some (I,0)],.box 8 [some (I,0),some (I,0),some ((.sl 88 k3),2)]],false)
  |_=>none,
 fun b=>match b with
  |13=>some ([.box 0 [some ((.sl 5 (.one (.int .u8))),0),some (I,0),some (I,0)],.box 8 [some (I,0),some (I,0),some ((.sl 88 k3),2)]],false)
  |_=>none,
 fun _=>[]⟩) (n:=n) Tryz.func146 rfl (cn (jG n) (cn (j8 n) nl)) fun x=>by kernel_rfl
def qQ(n:Nat):Mv:=⟨⟨[.val false [(.sl 88 k3)]],[(false,[(.bool,0)])]⟩,fun x=>N.VL n x⟩
theorem nF(n:Nat):FO 134 (qQ n):=mk (an:=⟨fun _=>none,
 fun b=>match b with
  |0=>some ([.slot 3 I],true)
  |_=>none,
 fun _=>none,
 fun _=>[]⟩) (n:=n) Tryz.func134 rfl (cn (XS n) nl) fun x=>by kernel_rfl
def tK(n:Nat):Mv:=⟨⟨[.val true [(.sl 84 k8)]],[(false,[(.bool,0)])]⟩,fun x=>N.QG n x⟩
theorem fR(n:Nat):FO 83 (tK n):=mk (an:=⟨fun _=>none,
 fun b=>match b with
  |0=>some ([.slot 3 I],true)
  |2=>some ([.slot 5 I],true)
  |_=>none,
 fun _=>none,
 fun _=>[]⟩) (n:=n) Tryz.func83 rfl (cn (XS n) (cn (nF n) nl)) fun x=>by kernel_rfl
def qE(n:Nat):Mv:=⟨⟨[.val true [I,I,(.sl 3 (.one I))]],[(true,[(I,0),(I,0),((.sl 3 (.one I)),2)])]⟩,fun x=>N.VW x.1 x.2.1 x.2.2⟩
theorem l6(n:Nat):FO 116 (qE n):=mk (an:=Vk) (n:=n) Tryz.func116 rfl nl fun x=>by kernel_rfl
def qF(n:Nat):Mv:=⟨⟨[.val true [(.sl 84 k8)]],[(true,[((.sl 84 k8),2)])]⟩,fun x=>N.Pe n x⟩
theorem YO(n:Nat):FO 117 (qF n):=mk (an:=⟨fun _=>none,
 fun b=>match b with
  |0=>some ([.slot 4 I,.box 3 [some ((.sl 84 k8),2)]],false)
  |_=>none,
 fun _=>none,
 fun _=>[]⟩) (n:=n) Tryz.func117 rfl nl fun x=>by kernel_rfl
def qA(n:Nat):Mv:=⟨⟨[.val true [I,I,(.sl 88 k3)],.val false [I]],[(true,[(I,0),(I,0),(I,0)])]⟩,fun x=>N.Qj n x.1 x.2.1 x.2.2.1 x.2.2.2⟩
theorem hY(n:Nat):FO 109 (qA n):=mk (an:=⟨fun _=>none,
 fun b=>match b with
  |0=>some ([.slot 5 I,.box 4 [some (I,0),some (I,0),some (I,0)]],true)
  |_=>none,
 fun _=>none,
 fun _=>[]⟩) (n:=n) Tryz.func109 rfl nl fun x=>by kernel_rfl
def p9(n:Nat):Mv:=⟨⟨[.val true [(.sl 84 k8)],.val false [I]],[(false,[(I,0)])]⟩,fun x=>N.WZ n x.1 x.2⟩
theorem ly(n:Nat):FO 108 (p9 n):=mk (an:=⟨fun _=>none,
 fun b=>match b with
  |0=>some ([.slot 5 I,.slot 6 I],false)
  |_=>none,
 fun _=>none,
 fun _=>[]⟩) (n:=n) Tryz.func108 rfl (cn (fR n) (cn (hY n) nl)) fun x=>by kernel_rfl
def oR(n:Nat):Mv:=⟨⟨[.val true [I,I,(.sl 3 (.one I))],.val true [(.sl 84 k8)]],[(true,[(I,0),(I,0),((.sl 3 (.one I)),2),((.sl 84 k8),2),(I,0),((.sl 54 k10),2),((.sl 41 k6),2),((.sl 80 k5),2),((.sl 3 (.one I)),2),((.sl 3 (.one I)),2),(I,0)]),(false,[(.bool,0)])]⟩,fun x=>N.U6 n x.1 x.2.1 x.2.2.1 x.2.2.2⟩
theorem nK(n:Nat):FO 145 (oR n):=mk (an:=⟨fun _=>none,
 fun b=>match b with
  |0=>some ([.slot 7 I,.box 4 [some (I,0),some (I,0),some ((.sl 3 (.one I)),2),some ((.sl 84 k8),2),some (I,0),some ((.sl 54 k10),2),some ((.sl 41 k6),2),some ((.sl 80 k5),2),some ((.sl 3 (.one I)),2),some ((.sl 3 (.one I)),2),some (I,0)]],true)
  |2=>some ([.slot 8 I,.box 4 [some (I,0),some (I,0),some ((.sl 3 (.one I)),2),some ((.sl 84 k8),2),some (I,0),some ((.sl 54 k10),2),some ((.sl 41 k6),2),some ((.sl 80 k5),2),some ((.sl 3 (.one I)),2),some ((.sl 3 (.one I)),2),some (I,0)]],true)
  |4=>some ([.slot 9 I,.box 6 [some (I,0),some (I,0),some ((.sl 3 (.one I)),2),some ((.sl 84 k8),2),some (I,0),some ((.sl 54 k10),2),some ((.sl 41 k6),2),some ((.sl 80 k5),2),some ((.sl 3 (.one I)),2),some ((.sl 3 (.one I)),2),some (I,0)]],false)
  |6=>some ([.slot 11 I,.box 6 [some (I,0),some (I,0),some ((.sl 3 (.one I)),2),some ((.sl 84 k8),2),some (I,0),some ((.sl 54 k10),2),some ((.sl 41 k6),2),some ((.sl 80 k5),2),some ((.sl 3 (.one I)),2),some ((.sl 3 (.one I)),2),some (I,0)]],false)
  |_=>none,
 fun _=>none,
 fun _=>[]⟩) (n:=n) Tryz.func145 rfl (cn (kF n) (cn (fR n) (cn (XS n) (cn (ly n) (cn (j8 n) (cn (l6 n) (cn (YO n) nl))))))) fun x=>by kernel_rfl
def og(n:Nat):Mv:=⟨⟨[.box [((.sl 5 (.one (.int .u8))),0),(I,0),(I,0)]],[(true,[(I,0),(I,0),((.sl 3 (.one I)),2),((.sl 84 k8),2),(I,0),((.sl 54 k10),2),((.sl 41 k6),2),((.sl 80 k5),2),((.sl 3 (.one I)),2),((.sl 3 (.one I)),2),(I,0)])]⟩,fun x=>N.TO n x.1 x.2.1 x.2.2⟩
def mn:An:=⟨fun _=>none,
 fun _=>none,
 fun b=>match b with
  |9=>some ([.box 0 [some ((.sl 5 (.one (.int .u8))),0),some (I,0),some (I,0)],.box 3 [some (I,0),some (I,0),some ((.sl 3 (.one I)),2)]],false)
  |_=>none,
 fun b=>match b with
  |4=>[3]
  |_=>[]⟩
theorem o4(n:Nat)(x:(og n).s.ins.D):L5 (find tbl) (plain [(61,rU n),(142,mb n),(143,mc n),(144,kR n),(145,oR n),(146,oS n)]) mn n Tryz.f90 (og n).s x=N.TO n x.1 x.2.1 x.2.2:=by kernel_rfl
theorem pf(n:Nat):FO 90 (og n):=mk (an:=mn) (n:=n) (sm:=(og n).s) Tryz.func90 rfl (cn (lF n) (cn (l8 n) (cn (l9 n) (cn (nJ n) (cn (nK n) (cn (nL n) nl)))))) (o4 n)
def s7(n:Nat):Mv:=⟨⟨[.box [((.sl 5 (.one (.int .u8))),0),(I,0),(I,0)],.val true [I,I,(.sl 3 (.one I))]],[(false,[(I,0)])]⟩,fun x=>N.V6 n x.1 x.2.1 x.2.2.1 x.2.2.2.1 x.2.2.2.2.1 x.2.2.2.2.2⟩
theorem pT(n:Nat):FO 63 (s7 n):=mk (an:=⟨fun b=>match b with
  |2=>some [.slot 14 .bool,.box 0 [some ((.sl 5 (.one (.int .u8))),0),some (I,0),some (I,0)]]
  |_=>none,
 fun _=>none,
 fun _=>none,
 fun _=>[]⟩) (n:=n) Tryz.func63 rfl (cn (lF n) (cn (dE n) (cn (j8 n) nl))) fun x=>by kernel_rfl
def s6(n:Nat):Mv:=⟨⟨[.box [((.sl 5 (.one (.int .u8))),0),(I,0),(I,0)]],[(false,[((.sl 129 k1),2)])]⟩,fun x=>N.Wy n x.1 x.2.1 x.2.2⟩
theorem pS(n:Nat):FO 60 (s6 n):=mk (an:=⟨fun _=>none,
 fun b=>match b with
  |0=>some ([.own 3 129 k1 2 false,.slot 4 I,.box 0 [some ((.sl 5 (.one (.int .u8))),0),some (I,0),some (I,0)]],false)
  |_=>none,
 fun b=>match b with
  |7=>some ([.own 3 129 k1 2 false,.box 0 [some ((.sl 5 (.one (.int .u8))),0),some (I,0),some (I,0)]],false)
  |_=>none,
 fun _=>[]⟩) (n:=n) Tryz.func60 rfl (cn (lF n) (cn (jG n) nl)) fun x=>by kernel_rfl
def qI(n:Nat):Mv:=⟨⟨[.val true [I,I,(.sl 129 k1),(.sl 102 k3),I]],[(true,[(I,0),(I,0),((.sl 129 k1),2),((.sl 102 k3),2),(I,0)])]⟩,fun x=>N.Pn x.1 x.2.1 x.2.2.1 x.2.2.2.1 x.2.2.2.2⟩
theorem kB(n:Nat):FO 120 (qI n):=mk (an:=Vk) (n:=n) Tryz.func120 rfl nl fun x=>by kernel_rfl
def qG(n:Nat):Mv:=⟨⟨[.val true [I,(.sl 54 k10)]],[(true,[(I,0),((.sl 54 k10),2)])]⟩,fun x=>N.RC n x.1 x.2⟩
theorem fP(n:Nat):FO 118 (qG n):=mk (an:=⟨fun _=>none,
 fun b=>match b with
  |0=>some ([.slot 4 I,.box 3 [some (I,0),some ((.sl 54 k10),2)]],false)
  |_=>none,
 fun _=>none,
 fun _=>[]⟩) (n:=n) Tryz.func118 rfl (cn (kB n) nl) fun x=>by kernel_rfl
def s9(n:Nat):Mv:=⟨⟨[.val true [I,I,(.sl 3 (.one I)),(.sl 84 k8),I,(.sl 54 k10),(.sl 41 k6),(.sl 80 k5),(.sl 3 (.one I)),(.sl 3 (.one I)),I]],[(true,[(I,0),(I,0),((.sl 3 (.one I)),2),((.sl 84 k8),2),(I,0),((.sl 54 k10),2),((.sl 41 k6),2),((.sl 80 k5),2),((.sl 3 (.one I)),2),((.sl 3 (.one I)),2),(I,0)])]⟩,fun x=>N.Rt n x.1 x.2.1 x.2.2.1 x.2.2.2.1 x.2.2.2.2.1 x.2.2.2.2.2.1 x.2.2.2.2.2.2.1 x.2.2.2.2.2.2.2.1 x.2.2.2.2.2.2.2.2.1 x.2.2.2.2.2.2.2.2.2.1 x.2.2.2.2.2.2.2.2.2.2⟩
theorem lG(n:Nat):FO 67 (s9 n):=mk (an:=Vk) (n:=n) Tryz.func67 rfl (cn (l6 n) (cn (YO n) (cn (fP n) nl))) fun x=>by kernel_rfl
def qh(n:Nat):Mv:=⟨⟨[.val false [(.sl 129 k1)]],[(false,[(.bool,0)])]⟩,fun x=>N.Qh n x⟩
theorem mB(n:Nat):FO 159 (qh n):=mk (an:=⟨fun _=>none,
 fun b=>match b with
  |0=>some ([.slot 3 I],true)
  |_=>none,
 fun _=>none,
 fun _=>[]⟩) (n:=n) Tryz.func159 rfl (cn (XS n) nl) fun x=>by kernel_rfl
def qn(n:Nat):Mv:=⟨⟨[.val false [(.sl 102 k3)],.val false [I]],[(false,[(I,0)])]⟩,fun x=>N.Wx n x.1 x.2⟩
theorem nY(n:Nat):FO 172 (qn n):=mk (an:=⟨fun _=>none,
 fun b=>match b with
  |0=>some ([.slot 5 I,.slot 6 I],false)
  |_=>none,
 fun b=>match b with
  |7=>some ([.slot 5 I],false)
  |_=>none,
 fun _=>[]⟩) (n:=n) Tryz.func172 rfl nl fun x=>by kernel_rfl
def qR(n:Nat):Mv:=⟨⟨[.val true [I,I,(.sl 129 k1),(.sl 102 k3),I]],[(false,[(.bool,0)])]⟩,fun x=>N.VH n x.1 x.2.1 x.2.2.1 x.2.2.2.1 x.2.2.2.2⟩
theorem nG(n:Nat):FO 135 (qR n):=mk (an:=⟨fun _=>none,
 fun b=>match b with
  |0=>some ([.slot 3 I,.slot 4 I],false)
  |2=>some ([.slot 3 I,.slot 5 I],true)
  |4=>some ([.slot 7 I],true)
  |_=>none,
 fun _=>none,
 fun _=>[]⟩) (n:=n) Tryz.func135 rfl (cn (XS n) (cn (mB n) (cn (nY n) nl))) fun x=>by kernel_rfl
def tL(n:Nat):Mv:=⟨⟨[.val true [I,(.sl 54 k10)]],[(false,[(.bool,0)])]⟩,fun x=>N.QW n x.1 x.2⟩
theorem kG(n:Nat):FO 84 (tL n):=mk (an:=⟨fun _=>none,
 fun b=>match b with
  |0=>some ([.slot 3 I],true)
  |_=>none,
 fun _=>none,
 fun _=>[]⟩) (n:=n) Tryz.func84 rfl (cn (XS n) (cn (nG n) nl)) fun x=>by kernel_rfl
def qS(n:Nat):Mv:=⟨⟨[.val true [I,I,(.sl 3 (.one I))],.val false [I]],[(false,[(.bool,0)])]⟩,fun x=>N.VY x.1 x.2.1 x.2.2.1 x.2.2.2⟩
theorem nH(n:Nat):FO 136 (qS n):=mk (an:=Vk) (n:=n) Tryz.func136 rfl (cn (XS n) nl) fun x=>by kernel_rfl
def tM(n:Nat):Mv:=⟨⟨[.val true [I,I,(.sl 3 (.one I))],.val false [(.sl 41 k6)]],[(false,[(.bool,0)])]⟩,fun x=>N.Sb n x.1 x.2.1 x.2.2.1 x.2.2.2⟩
theorem lH(n:Nat):FO 85 (tM n):=mk (an:=⟨fun _=>none,
 fun b=>match b with
  |0=>some ([.slot 5 I],true)
  |2=>some ([.slot 7 I],true)
  |_=>none,
 fun _=>none,
 fun _=>[]⟩) (n:=n) Tryz.func85 rfl (cn (kF n) (cn (XS n) (cn (nH n) nl))) fun x=>by kernel_rfl
def tN(n:Nat):Mv:=⟨⟨[.val false [(.sl 80 k5)]],[(false,[(.bool,0)])]⟩,fun x=>N.UT n x⟩
theorem oO(n:Nat):FO 86 (tN n):=mk (an:=⟨fun _=>none,
 fun b=>match b with
  |0=>some ([.slot 3 I],true)
  |2=>some ([.slot 6 I],true)
  |_=>none,
 fun _=>none,
 fun _=>[]⟩) (n:=n) Tryz.func86 rfl (cn (XS n) nl) fun x=>by kernel_rfl
def tO(n:Nat):Mv:=⟨⟨[.val false [(.sl 3 (.one I))]],[(false,[(.bool,0)])]⟩,fun x=>N.Sf n x⟩
theorem pd(n:Nat):FO 87 (tO n):=mk (an:=⟨fun _=>none,
 fun b=>match b with
  |0=>some ([.slot 3 I],true)
  |_=>none,
 fun _=>none,
 fun _=>[]⟩) (n:=n) Tryz.func87 rfl (cn (XS n) nl) fun x=>by kernel_rfl
def qT(n:Nat):Mv:=⟨⟨[.val true [I,(.sl 54 k10)],.val false [I]],[(false,[(I,0)])]⟩,fun x=>N.Qi n x.1 x.2.1 x.2.2⟩
theorem dm(n:Nat):FO 137 (qT n):=mk (an:=⟨fun _=>none,
 fun b=>match b with
  |0=>some ([.slot 5 I],true)
  |_=>none,
 fun _=>none,
 fun _=>[]⟩) (n:=n) Tryz.func137 rfl nl fun x=>by kernel_rfl
def qU(n:Nat):Mv:=⟨⟨[.val true [(.sl 84 k8)],.val false [I]],[(false,[(I,0)])]⟩,fun x=>N.QQ n x.1 x.2⟩
theorem fQ(n:Nat):FO 138 (qU n):=mk (an:=⟨fun _=>none,
 fun b=>match b with
  |0=>some ([.slot 5 I],true)
  |_=>none,
 fun _=>none,
 fun _=>[]⟩) (n:=n) Tryz.func138 rfl nl fun x=>by kernel_rfl
def oQ(n:Nat):Mv:=⟨⟨[.val false [(.sl 3 (.one I))],.val false [I]],[(false,[(.bool,0)])]⟩,fun x=>N.QT n x.1 x.2⟩
theorem iB(n:Nat):FO 139 (oQ n):=mk (an:=⟨fun _=>none,
 fun b=>match b with
  |0=>some ([.slot 5 I],true)
  |_=>none,
 fun _=>none,
 fun _=>[]⟩) (n:=n) Tryz.func139 rfl nl fun x=>by kernel_rfl
def qL(n:Nat):Mv:=⟨⟨[.val false [(.sl 102 k3)]],[(false,[((.sl 3 (.one I)),2)])]⟩,fun x=>N.Tw n x⟩
theorem kC(n:Nat):FO 123 (qL n):=mk (an:=⟨fun _=>none,
 fun b=>match b with
  |0=>some ([.own 3 3 (.one I) 2 false,.slot 4 I],false)
  |_=>none,
 fun b=>match b with
  |7=>some ([.own 3 3 (.one I) 2 false],false)
  |_=>none,
 fun _=>[]⟩) (n:=n) Tryz.func123 rfl (cn (iB n) nl) fun x=>by kernel_rfl
def qV(n:Nat):Mv:=⟨⟨[.val false [(.sl 41 k6)],.val false [I]],[(false,[(I,0)])]⟩,fun x=>N.SH n x.1 x.2⟩
theorem kD(n:Nat):FO 140 (qV n):=mk (an:=⟨fun _=>none,
 fun b=>match b with
  |0=>some ([.slot 5 I],true)
  |_=>none,
 fun _=>none,
 fun _=>[]⟩) (n:=n) Tryz.func140 rfl nl fun x=>by kernel_rfl
def qW(n:Nat):Mv:=⟨⟨[.val true [I,I,(.sl 3 (.one I)),(.sl 84 k8),I,(.sl 54 k10),(.sl 41 k6),(.sl 80 k5),(.sl 3 (.one I)),(.sl 3 (.one I)),I],.val true [I,I,I,I]],[(false,[(I,0)])]⟩,fun x=>N.RE n x.1 x.2.1 x.2.2.1 x.2.2.2.1 x.2.2.2.2.1 x.2.2.2.2.2.1 x.2.2.2.2.2.2.1 x.2.2.2.2.2.2.2.1 x.2.2.2.2.2.2.2.2.1 x.2.2.2.2.2.2.2.2.2.1 x.2.2.2.2.2.2.2.2.2.2.1 x.2.2.2.2.2.2.2.2.2.2.2.1 x.2.2.2.2.2.2.2.2.2.2.2.2.1 x.2.2.2.2.2.2.2.2.2.2.2.2.2.1 x.2.2.2.2.2.2.2.2.2.2.2.2.2.2⟩
theorem l7(n:Nat):FO 141 (qW n):=mk (an:=Vk) (n:=n) Tryz.func141 rfl (cn (dm n) (cn (fQ n) nl)) fun x=>by kernel_rfl
def tQ(n:Nat):Mv:=⟨⟨[.val true [I,I,(.sl 3 (.one I)),(.sl 84 k8),I,(.sl 54 k10),(.sl 41 k6),(.sl 80 k5),(.sl 3 (.one I)),(.sl 3 (.one I)),I],.val true [I,I,I,I]],[(false,[(.bool,0)])]⟩,fun x=>N.S3 n x.1 x.2.1 x.2.2.1 x.2.2.2.1 x.2.2.2.2.1 x.2.2.2.2.2.1 x.2.2.2.2.2.2.1 x.2.2.2.2.2.2.2.1 x.2.2.2.2.2.2.2.2.1 x.2.2.2.2.2.2.2.2.2.1 x.2.2.2.2.2.2.2.2.2.2.1 x.2.2.2.2.2.2.2.2.2.2.2.1 x.2.2.2.2.2.2.2.2.2.2.2.2.1 x.2.2.2.2.2.2.2.2.2.2.2.2.2.1 x.2.2.2.2.2.2.2.2.2.2.2.2.2.2⟩
theorem pe(n:Nat):FO 89 (tQ n):=mk (an:=Vk) (n:=n) Tryz.func89 rfl (cn (kC n) (cn (dm n) (cn (fQ n) (cn (iB n) (cn (kD n) (cn (l7 n) nl)))))) fun x=>by kernel_rfl
def sV(n:Nat):Mv:=⟨⟨[.val true [I,I,(.sl 3 (.one I)),(.sl 84 k8),I,(.sl 54 k10),(.sl 41 k6),(.sl 80 k5),(.sl 3 (.one I)),(.sl 3 (.one I)),I]],[(false,[(.bool,0)])]⟩,fun x=>N.Rr n x.1 x.2.1 x.2.2.1 x.2.2.2.1 x.2.2.2.2.1 x.2.2.2.2.2.1 x.2.2.2.2.2.2.1 x.2.2.2.2.2.2.2.1 x.2.2.2.2.2.2.2.2.1 x.2.2.2.2.2.2.2.2.2.1 x.2.2.2.2.2.2.2.2.2.2⟩
theorem lE(n:Nat):FO 37 (sV n):=mk (an:=⟨fun _=>none,
 fun b=>match b with
  |0=>some ([.slot 3 I],true)
  |_=>none,
 fun _=>none,
 fun _=>[]⟩) (n:=n) Tryz.func37 rfl (cn (kF n) (cn (fR n) (cn (kG n) (cn (lH n) (cn (oO n) (cn (pd n) (cn (XS n) (cn (pe n) nl)))))))) fun x=>by kernel_rfl
def qH(n:Nat):Mv:=⟨⟨[.val true [I,I,(.sl 3 (.one I))],.val false [I]],[(false,[(.bool,0)])]⟩,fun x=>N.Sh n x.1 x.2.1 x.2.2.1 x.2.2.2⟩
theorem kA(n:Nat):FO 119 (qH n):=mk (an:=Vk) (n:=n) Tryz.func119 rfl (cn (kF n) (cn (XS n) nl)) fun x=>by kernel_rfl
def tA(n:Nat):Mv:=⟨⟨[.val true [I,I,(.sl 3 (.one I))],.val false [I]],[(false,[(I,0)])]⟩,fun x=>N.Wu n x.1 x.2.1 x.2.2.1 x.2.2.2⟩
theorem pU(n:Nat):FO 68 (tA n):=mk (an:=Vk) (n:=n) Tryz.func68 rfl (cn (kA n) nl) fun x=>by kernel_rfl
def tB(n:Nat):Mv:=⟨⟨[.val true [I,(.sl 54 k10)]],[(true,[(I,0),((.sl 54 k10),2)])]⟩,fun x=>N.We n x.1 x.2⟩
theorem pV(n:Nat):FO 69 (tB n):=mk (an:=⟨fun _=>none,
 fun b=>match b with
  |0=>some ([.slot 4 I,.box 3 [some (I,0),some ((.sl 54 k10),2)]],false)
  |_=>none,
 fun b=>match b with
  |7=>some ([.box 3 [some (I,0),some ((.sl 54 k10),2)]],false)
  |_=>none,
 fun _=>[]⟩) (n:=n) Tryz.func69 rfl (cn (kG n) (cn (fP n) (cn (kB n) nl))) fun x=>by kernel_rfl
def qi(n:Nat):Mv:=⟨⟨[.val true [I,I,(.sl 88 k3)],.val false [(.sl 129 k1)]],[(false,[((.sl 102 k3),2)]),(false,[(I,0)])]⟩,fun x=>N.Ua n x.1 x.2.1 x.2.2.1 x.2.2.2⟩
theorem nV(n:Nat):FO 160 (qi n):=mk (an:=⟨fun _=>none,
 fun b=>match b with
  |0=>some ([.own 6 102 k3 2 false,.slot 7 I,.slot 8 I],false)
  |_=>none,
 fun b=>match b with
  |7=>some ([.own 6 102 k3 2 false,.slot 7 I],false)
  |27=>some ([.slot 10 I],false)
  |_=>none,
 fun _=>[]⟩) (n:=n) Tryz.func160 rfl (cn (hY n) nl) fun x=>by kernel_rfl
def qJ(n:Nat):Mv:=⟨⟨[.val true [(.sl 84 k8)],.val false [(.sl 129 k1)]],[(false,[((.sl 102 k3),2)]),(false,[(.bool,0)])]⟩,fun x=>N.Sc n x.1 x.2⟩
theorem nB(n:Nat):FO 121 (qJ n):=mk (an:=⟨fun _=>none,
 fun b=>match b with
  |0=>some ([.own 4 102 k3 2 false,.slot 5 .bool,.own 9 102 k3 2 false,.own 6 102 k3 2 false,.own 7 129 k1 2 false,.own 8 4 (.one .bool) 2 false],true)
  |2=>some ([.slot 10 I,.slot 11 I],false)
  |4=>some ([.slot 12 I,.slot 13 I,.slot 14 I],false)
  |6=>some ([.slot 19 I,.own 7 129 k1 2 false],false)
  |8=>some ([.slot 20 I,.own 7 129 k1 2 false],false)
  |_=>none,
 fun b=>match b with
  |19=>some ([.slot 12 I,.slot 13 I],false)
  |31=>some ([.own 7 129 k1 2 false],false)
  |_=>none,
 fun _=>[]⟩) (n:=n) Tryz.func121 rfl (cn (fR n) (cn (mB n) (cn (nV n) nl))) fun x=>by kernel_rfl
def qO(n:Nat):Mv:=⟨⟨[.val true [(.sl 84 k8)],.val false [I],.val false [I],.val false [I]],[(false,[(I,0)]),(true,[(I,0),(I,0),(I,0)]),(false,[(I,0)])]⟩,fun x=>N.Sk n x.1 x.2.1 x.2.2.1 x.2.2.2⟩
theorem hZ(n:Nat):FO 129 (qO n):=mk (an:=Vk) (n:=n) Tryz.func129 rfl (cn (fR n) (cn (XS n) (cn (hY n) (cn (fQ n) nl)))) fun x=>by kernel_rfl
def qk(n:Nat):Mv:=⟨⟨[.val false [(.sl 88 k3)],.val true [I,I,I]],[(false,[((.sl 88 k3),2)])]⟩,fun x=>N.Tx n x.1 x.2.1 x.2.2.1 x.2.2.2⟩
theorem nW(n:Nat):FO 163 (qk n):=mk (an:=⟨fun _=>none,
 fun b=>match b with
  |0=>some ([.own 5 88 k3 2 false,.slot 6 .bool,.slot 7 I],false)
  |_=>none,
 fun b=>match b with
  |7=>some ([.own 5 88 k3 2 false,.slot 6 .bool],false)
  |21=>some ([.own 5 88 k3 2 false,.slot 6 .bool],false)
  |36=>some ([.own 5 88 k3 2 false],false)
  |_=>none,
 fun _=>[]⟩) (n:=n) Tryz.func163 rfl nl fun x=>by kernel_rfl
def qP(n:Nat):Mv:=⟨⟨[.val true [(.sl 84 k8)],.val false [I],.val true [I,I,I]],[(true,[((.sl 84 k8),2)])]⟩,fun x=>N.Rv n x.1 x.2.1 x.2.2.1 x.2.2.2.1 x.2.2.2.2⟩
theorem iA(n:Nat):FO 130 (qP n):=mk (an:=Vk) (n:=n) Tryz.func130 rfl (cn (YO n) (cn (nW n) nl)) fun x=>by kernel_rfl
def rC(n:Nat):Mv:=⟨⟨[.val true [(.sl 84 k8)],.val false [I],.val false [I],.val false [I]],[(true,[((.sl 84 k8),2)]),(false,[(I,0)])]⟩,fun x=>N.Yk n x.1 x.2.1 x.2.2.1 x.2.2.2⟩
theorem ns(n:Nat):FO 184 (rC n):=mk (an:=Vk) (n:=n) Tryz.func184 rfl (cn (YO n) (cn (hZ n) (cn (iA n) nl))) fun x=>by kernel_rfl
def rD(n:Nat):Mv:=⟨⟨[.val true [(.sl 84 k8)],.val false [I],.val false [I],.val false [I]],[(true,[((.sl 84 k8),2)]),(false,[(I,0)])]⟩,fun x=>N.Vz n x.1 x.2.1 x.2.2.1 x.2.2.2⟩
theorem nt(n:Nat):FO 185 (rD n):=mk (an:=Vk) (n:=n) Tryz.func185 rfl (cn (YO n) (cn (hZ n) (cn (iA n) nl))) fun x=>by kernel_rfl
def rE(n:Nat):Mv:=⟨⟨[.val true [(.sl 84 k8)],.val false [I],.val false [I],.val false [I]],[(true,[((.sl 84 k8),2)]),(false,[(I,0)])]⟩,fun x=>N.V1 n x.1 x.2.1 x.2.2.1 x.2.2.2⟩
theorem nu(n:Nat):FO 186 (rE n):=mk (an:=Vk) (n:=n) Tryz.func186 rfl (cn (YO n) (cn (hZ n) (cn (iA n) nl))) fun x=>by kernel_rfl
def qj(n:Nat):Mv:=⟨⟨[.val true [(.sl 84 k8)],.val false [(.sl 102 k3)],.val false [I]],[(true,[((.sl 84 k8),2)]),(false,[(.bool,0)])]⟩,fun x=>N.Rl n x.1 x.2.1 x.2.2⟩
theorem kE(n:Nat):FO 161 (qj n):=mk (an:=⟨fun _=>none,
 fun b=>match b with
  |0=>some ([.slot 9 I,.box 6 [some ((.sl 84 k8),2)],.box 8 [some ((.sl 84 k8),2)]],true)
  |_=>none,
 fun b=>match b with
  |24=>some ([.slot 11 I,.box 8 [some ((.sl 84 k8),2)]],false)
  |_=>none,
 fun _=>[]⟩) (n:=n) Tryz.func161 rfl (cn (YO n) (cn (ns n) (cn (nt n) (cn (nu n) nl)))) fun x=>by kernel_rfl
def qK(n:Nat):Mv:=⟨⟨[.val true [(.sl 84 k8)],.val false [(.sl 102 k3)]],[(true,[((.sl 84 k8),2)]),(false,[(.bool,0)])]⟩,fun x=>N.Vx n x.1 x.2⟩
theorem nC(n:Nat):FO 122 (qK n):=mk (an:=Vk) (n:=n) Tryz.func122 rfl (cn (kE n) nl) fun x=>by kernel_rfl
def tC(n:Nat):Mv:=⟨⟨[.val true [(.sl 84 k8)],.val true [I,(.sl 54 k10)],.val false [I],.val false [(.sl 129 k1)]],[(true,[((.sl 84 k8),2)]),(true,[(I,0),((.sl 54 k10),2)]),(false,[(I,0)])]⟩,fun x=>N.Sa n x.1 x.2.1 x.2.2.1 x.2.2.2.1 x.2.2.2.2⟩
theorem pW(n:Nat):FO 70 (tC n):=mk (an:=Vk) (n:=n) Tryz.func70 rfl (cn (fR n) (cn (kG n) (cn (XS n) (cn (YO n) (cn (fP n) (cn (nB n) (cn (nC n) nl))))))) fun x=>by kernel_rfl
def tD(n:Nat):Mv:=⟨⟨[.val true [I,I,(.sl 129 k1),(.sl 102 k3),I]],[(false,[((.sl 80 k5),2)])]⟩,fun x=>N.V2 n x.1 x.2.1 x.2.2.1 x.2.2.2.1 x.2.2.2.2⟩
theorem pX(n:Nat):FO 71 (tD n):=mk (an:=⟨fun _=>none,
 fun b=>match b with
  |0=>some ([.own 3 80 k5 2 false,.slot 5 I],false)
  |_=>none,
 fun _=>none,
 fun _=>[]⟩) (n:=n) Tryz.func71 rfl (cn (kC n) nl) fun x=>by kernel_rfl
def sP(n:Nat):Mv:=⟨⟨[.val true [I,I,(.sl 3 (.one I)),(.sl 84 k8),I,(.sl 54 k10),(.sl 41 k6),(.sl 80 k5),(.sl 3 (.one I)),(.sl 3 (.one I)),I],.val false [I],.val false [(.sl 129 k1)]],[(true,[(I,0),(I,0),((.sl 3 (.one I)),2),((.sl 84 k8),2),(I,0),((.sl 54 k10),2),((.sl 41 k6),2),((.sl 80 k5),2),((.sl 3 (.one I)),2),((.sl 3 (.one I)),2),(I,0)]),(false,[(I,0)])]⟩,fun x=>N.Yl n x.1 x.2.1 x.2.2.1 x.2.2.2.1 x.2.2.2.2.1 x.2.2.2.2.2.1 x.2.2.2.2.2.2.1 x.2.2.2.2.2.2.2.1 x.2.2.2.2.2.2.2.2.1 x.2.2.2.2.2.2.2.2.2.1 x.2.2.2.2.2.2.2.2.2.2.1 x.2.2.2.2.2.2.2.2.2.2.2.1 x.2.2.2.2.2.2.2.2.2.2.2.2⟩
theorem o8(n:Nat):FO 24 (sP n):=mk (an:=⟨fun _=>none,
 fun _=>none,
 fun b=>match b with
  |18=>some ([.box 9 [some (I,0),some ((.sl 54 k10),0)]],false)
  |_=>none,
 fun _=>[]⟩) (n:=n) Tryz.func24 rfl (cn (lE n) (cn (lG n) (cn (pU n) (cn (pV n) (cn (pW n) (cn (pX n) nl)))))) fun x=>by kernel_rfl
def qu(n:Nat):Mv:=⟨⟨[.val true [(.sl 84 k8)],.val false [(.sl 102 k3)]],[(true,[((.sl 84 k8),2)]),(false,[(.bool,0)])]⟩,fun x=>N.Tc n x.1 x.2⟩
theorem nc(n:Nat):FO 175 (qu n):=mk (an:=Vk) (n:=n) Tryz.func175 rfl (cn (kE n) nl) fun x=>by kernel_rfl
def qX(n:Nat):Mv:=⟨⟨[.val true [(.sl 84 k8)],.val true [I,(.sl 54 k10)],.val false [I]],[(true,[((.sl 84 k8),2)]),(true,[(I,0),((.sl 54 k10),2)]),(false,[(.bool,0)])]⟩,fun x=>N.VG n x.1 x.2.1 x.2.2.1 x.2.2.2⟩
theorem nM(n:Nat):FO 147 (qX n):=mk (an:=Vk) (n:=n) Tryz.func147 rfl (cn (fR n) (cn (kG n) (cn (YO n) (cn (fP n) (cn (dm n) (cn (nc n) nl)))))) fun x=>by kernel_rfl
def s91(n:Nat):Mv:=⟨⟨[.val true [I,I,(.sl 3 (.one I)),(.sl 84 k8),I,(.sl 54 k10),(.sl 41 k6),(.sl 80 k5),(.sl 3 (.one I)),(.sl 3 (.one I)),I],.val false [I]],[(true,[(I,0),(I,0),((.sl 3 (.one I)),2),((.sl 84 k8),2),(I,0),((.sl 54 k10),2),((.sl 41 k6),2),((.sl 80 k5),2),((.sl 3 (.one I)),2),((.sl 3 (.one I)),2),(I,0)]),(false,[(.bool,0)])]⟩,fun x=>N.Yi n x.1 x.2.1 x.2.2.1 x.2.2.2.1 x.2.2.2.2.1 x.2.2.2.2.2.1 x.2.2.2.2.2.2.1 x.2.2.2.2.2.2.2.1 x.2.2.2.2.2.2.2.2.1 x.2.2.2.2.2.2.2.2.2.1 x.2.2.2.2.2.2.2.2.2.2.1 x.2.2.2.2.2.2.2.2.2.2.2⟩
theorem ph(n:Nat):FO 91 (s91 n):=mk (an:=⟨fun _=>none,
 fun b=>match b with
  |0=>some ([.slot 8 I,.own 9 80 k5 2 false,.slot 10 I,.box 4 [some (I,0),some (I,0),some ((.sl 3 (.one I)),2),some ((.sl 84 k8),2),some (I,0),some ((.sl 54 k10),2),some ((.sl 41 k6),2),some ((.sl 80 k5),2),some ((.sl 3 (.one I)),2),some ((.sl 3 (.one I)),2),some (I,0)],.box 6 [some (I,0),some (I,0),some ((.sl 3 (.one I)),2),some ((.sl 84 k8),2),some (I,0),some ((.sl 54 k10),2),some ((.sl 41 k6),2),some ((.sl 80 k5),2),some ((.sl 3 (.one I)),2),some ((.sl 3 (.one I)),2),some (I,0)]],true)
  |_=>none,
 fun b=>match b with
  |7=>some ([.slot 8 I,.own 9 80 k5 2 false,.box 4 [some (I,0),some (I,0),some ((.sl 3 (.one I)),2),some ((.sl 84 k8),2),some (I,0),some ((.sl 54 k10),2),some ((.sl 41 k6),2),some ((.sl 80 k5),2),some ((.sl 3 (.one I)),2),some ((.sl 3 (.one I)),2),some (I,0)],.box 6 [some (I,0),some (I,0),some ((.sl 3 (.one I)),2),some ((.sl 84 k8),2),some (I,0),some ((.sl 54 k10),2),some ((.sl 41 k6),2),some ((.sl 80 k5),2),some ((.sl 3 (.one I)),2),some ((.sl 3 (.one I)),2),some (I,0)]],true)
  |_=>none,
 fun _=>[]⟩) (n:=n) Tryz.func91 rfl (cn (lE n) (cn (lG n) (cn (kC n) (cn (dm n) (cn (nM n) nl))))) fun x=>by kernel_rfl
def tI(n:Nat):Mv:=⟨⟨[.val true [(.sl 84 k8)],.val false [I],.val false [I],.val false [I]],[(true,[((.sl 84 k8),2)]),(false,[(I,0)])]⟩,fun x=>N.Xp n x.1 x.2.1 x.2.2.1 x.2.2.2⟩
theorem pc(n:Nat):FO 80 (tI n):=mk (an:=Vk) (n:=n) Tryz.func80 rfl (cn (YO n) (cn (hZ n) (cn (iA n) nl))) fun x=>by kernel_rfl
def sT(n:Nat):Mv:=⟨⟨[.val true [I,I,(.sl 3 (.one I)),(.sl 84 k8),I,(.sl 54 k10),(.sl 41 k6),(.sl 80 k5),(.sl 3 (.one I)),(.sl 3 (.one I)),I],.val false [I],.val false [I],.val false [I]],[(true,[(I,0),(I,0),((.sl 3 (.one I)),2),((.sl 84 k8),2),(I,0),((.sl 54 k10),2),((.sl 41 k6),2),((.sl 80 k5),2),((.sl 3 (.one I)),2),((.sl 3 (.one I)),2),(I,0)]),(false,[(I,0)])]⟩,fun x=>N.V0 n x.1 x.2.1 x.2.2.1 x.2.2.2.1 x.2.2.2.2.1 x.2.2.2.2.2.1 x.2.2.2.2.2.2.1 x.2.2.2.2.2.2.2.1 x.2.2.2.2.2.2.2.2.1 x.2.2.2.2.2.2.2.2.2.1 x.2.2.2.2.2.2.2.2.2.2.1 x.2.2.2.2.2.2.2.2.2.2.2.1 x.2.2.2.2.2.2.2.2.2.2.2.2.1 x.2.2.2.2.2.2.2.2.2.2.2.2.2⟩
theorem pD(n:Nat):FO 33 (sT n):=mk (an:=Vk) (n:=n) Tryz.func33 rfl (cn (lE n) (cn (lG n) (cn (pc n) nl))) fun x=>by kernel_rfl
def qv(n:Nat):Mv:=⟨⟨[.val false [(.sl 41 k6)],.val false [(.sl 80 k5)]],[(false,[((.sl 3 (.one I)),2)])]⟩,fun x=>N.V4 n x.1 x.2⟩
theorem ng(n:Nat):FO 176 (qv n):=mk (an:=⟨fun _=>none,
 fun b=>match b with
  |0=>some ([.own 5 3 (.one I) 2 false,.slot 6 I],false)
  |2=>some ([.slot 7 .bool,.slot 8 I],false)
  |_=>none,
 fun b=>match b with
  |7=>some ([.own 5 3 (.one I) 2 false],false)
  |_=>none,
 fun _=>[]⟩) (n:=n) Tryz.func176 rfl nl fun x=>by kernel_rfl
def qw(n:Nat):Mv:=⟨⟨[.val true [(.sl 84 k8)],.val false [(.sl 80 k5)],.val false [I]],[(false,[((.sl 3 (.one I)),2)])]⟩,fun x=>N.VI n x.1 x.2.1 x.2.2⟩
theorem nh(n:Nat):FO 177 (qw n):=mk (an:=⟨fun _=>none,
 fun b=>match b with
  |0=>some ([.own 8 3 (.one I) 2 false,.slot 9 I],false)
  |2=>some ([.own 7 3 (.one I) 2 false,.own 8 3 (.one I) 2 false,.slot 10 I],false)
  |_=>none,
 fun b=>match b with
  |7=>some ([.own 8 3 (.one I) 2 false],false)
  |13=>some ([.own 7 3 (.one I) 2 false,.own 8 3 (.one I) 2 false],false)
  |_=>none,
 fun _=>[]⟩) (n:=n) Tryz.func177 rfl (cn (fQ n) (cn (iB n) nl)) fun x=>by kernel_rfl
def rS(n:Nat):Mv:=⟨⟨[.val true [I,I,(.sl 3 (.one I))],.val false [I]],[(false,[((.sl 3 (.one I)),2)])]⟩,fun x=>N.TQ x.1 x.2.1 x.2.2.1 x.2.2.2⟩
theorem oI(n:Nat):FO 235 (rS n):=mk (an:=⟨fun _=>none,
 fun _=>none,
 fun b=>match b with
  |15=>some ([.own 5 3 (.one I) 2 false],false)
  |21=>some ([.own 5 3 (.one I) 2 false],false)
  |27=>some ([.own 5 3 (.one I) 2 false],false)
  |33=>some ([.own 5 3 (.one I) 2 false],false)
  |_=>none,
 fun _=>[]⟩) (n:=n) Tryz.func235 rfl nl fun x=>by kernel_rfl
def rQ(n:Nat):Mv:=⟨⟨[.val true [I,I,(.sl 3 (.one I))],.val false [I],.val false [.bool]],[(false,[((.sl 3 (.one I)),2)])]⟩,fun x=>N.VX n x.1 x.2.1 x.2.2.1 x.2.2.2.1 x.2.2.2.2⟩
theorem mD(n:Nat):FO 232 (rQ n):=mk (an:=⟨fun _=>none,
 fun b=>match b with
  |0=>some ([.own 7 3 (.one I) 2 false,.slot 9 I],false)
  |_=>none,
 fun b=>match b with
  |7=>some ([.own 7 3 (.one I) 2 false],false)
  |_=>none,
 fun _=>[]⟩) (n:=n) Tryz.func232 rfl (cn (oI n) nl) fun x=>by kernel_rfl
def rP(n:Nat):Mv:=⟨⟨[.val true [I,I,(.sl 3 (.one I))],.val false [I],.val false [.bool]],[(false,[((.sl 3 (.one I)),2)])]⟩,fun x=>N.S5 n x.1 x.2.1 x.2.2.1 x.2.2.2.1 x.2.2.2.2⟩
theorem mC(n:Nat):FO 218 (rP n):=mk (an:=⟨fun _=>none,
 fun b=>match b with
  |0=>some ([.own 7 3 (.one I) 2 false,.slot 8 I],false)
  |2=>some ([.own 9 3 (.one I) 2 false,.slot 10 I,.own 7 3 (.one I) 2 false],false)
  |4=>some ([.own 9 3 (.one I) 2 false,.slot 13 I,.own 7 3 (.one I) 2 false],false)
  |_=>none,
 fun b=>match b with
  |13=>some ([.own 9 3 (.one I) 2 false,.own 7 3 (.one I) 2 false],false)
  |19=>some ([.own 9 3 (.one I) 2 false,.own 7 3 (.one I) 2 false],false)
  |_=>none,
 fun _=>[]⟩) (n:=n) Tryz.func218 rfl (cn (mD n) nl) fun x=>by kernel_rfl
def rK(n:Nat):Mv:=⟨⟨[.val true [I,I,(.sl 3 (.one I))],.val false [I],.val false [.bool]],[(false,[((.sl 3 (.one I)),2)])]⟩,fun x=>N.Wa n x.1 x.2.1 x.2.2.1 x.2.2.2.1 x.2.2.2.2⟩
theorem oA(n:Nat):FO 206 (rK n):=mk (an:=Vk) (n:=n) Tryz.func206 rfl (cn (kA n) (cn (mC n) nl)) fun x=>by kernel_rfl
def rF(n:Nat):Mv:=⟨⟨[.val true [I,I,(.sl 3 (.one I))],.val false [I],.val false [I]],[(false,[(I,0)])]⟩,fun x=>N.Se n x.1 x.2.1 x.2.2.1 x.2.2.2.1 x.2.2.2.2⟩
theorem ny(n:Nat):FO 194 (rF n):=mk (an:=Vk) (n:=n) Tryz.func194 rfl (cn (kA n) (cn (oA n) nl)) fun x=>by kernel_rfl
def qx(n:Nat):Mv:=⟨⟨[.val true [I,I,(.sl 3 (.one I))],.val false [I],.val false [I]],[(false,[(I,0)])]⟩,fun x=>N.V3 n x.1 x.2.1 x.2.2.1 x.2.2.2.1 x.2.2.2.2⟩
theorem ni(n:Nat):FO 178 (qx n):=mk (an:=Vk) (n:=n) Tryz.func178 rfl (cn (ny n) nl) fun x=>by kernel_rfl
def rG(n:Nat):Mv:=⟨⟨[.val false [(.sl 24 (.one (.sl 3 (.one I))))]],[(false,[(.bool,0)])]⟩,fun x=>N.Vv n x⟩
theorem nz(n:Nat):FO 195 (rG n):=mk (an:=⟨fun _=>none,
 fun b=>match b with
  |0=>some ([.slot 3 I],true)
  |2=>some ([.slot 4 I],true)
  |_=>none,
 fun _=>none,
 fun _=>[]⟩) (n:=n) Tryz.func195 rfl (cn (XS n) nl) fun x=>by kernel_rfl
def rL(n:Nat):Mv:=⟨⟨[.val false [(.sl 24 (.one (.sl 3 (.one I))))],.row false [((.sl 3 (.one I)),2)],.row false [((.sl 3 (.one I)),2)],.row false [((.sl 3 (.one I)),2)],.val false [I]],[]⟩,fun x=>N.W4 n x.1 x.2.1 x.2.2.1 x.2.2.2.1 x.2.2.2.2⟩
theorem oB(n:Nat):FO 207 (rL n):=mk (an:=⟨fun _=>none,
 fun b=>match b with
  |0=>some ([.slot 14 I,.own 11 3 (.one I) 2 false],false)
  |2=>some ([.slot 15 I,.own 1 3 (.one I) 2 true,.own 2 3 (.one I) 2 true,.own 11 3 (.one I) 2 false,.own 12 3 (.one I) 2 false,.own 13 4 (.one .bool) 2 false],false)
  |4=>some ([.slot 17 I,.slot 18 I,.slot 19 I,.own 11 3 (.one I) 2 false,.own 12 3 (.one I) 2 false],false)
  |6=>some ([.slot 21 I,.own 1 3 (.one I) 2 true,.own 2 3 (.one I) 2 true,.own 11 3 (.one I) 2 false],false)
  |8=>some ([.slot 15 I,.own 3 3 (.one I) 2 true],false)
  |_=>none,
 fun b=>match b with
  |19=>some ([.slot 17 I,.slot 18 I,.own 11 3 (.one I) 2 false,.own 12 3 (.one I) 2 false],false)
  |25=>some ([.own 1 3 (.one I) 2 true,.own 2 3 (.one I) 2 true,.own 11 3 (.one I) 2 false],false)
  |57=>some ([.own 11 3 (.one I) 2 false,.own 12 3 (.one I) 2 false],false)
  |_=>none,
 fun _=>[]⟩) (n:=n) Tryz.func207 rfl nl fun x=>by kernel_rfl
def rH(n:Nat):Mv:=⟨⟨[.val false [(.sl 24 (.one (.sl 3 (.one I))))]],[(false,[(I,0)])]⟩,fun x=>N.Ru n x⟩
theorem n6(n:Nat):FO 196 (rH n):=mk (an:=⟨fun _=>none,
 fun b=>match b with
  |0=>some ([.slot 8 I,.own 5 3 (.one I) 2 false,.own 6 3 (.one I) 2 false,.own 7 3 (.one I) 2 false],false)
  |2=>some ([.slot 9 I,.slot 10 I],false)
  |_=>none,
 fun b=>match b with
  |13=>some ([.slot 9 I],false)
  |_=>none,
 fun _=>[]⟩) (n:=n) Tryz.func196 rfl (cn (oB n) nl) fun x=>by kernel_rfl
def rI(n:Nat):Mv:=⟨⟨[.val false [(.sl 24 (.one (.sl 3 (.one I))))],.val false [I]],[(false,[((.sl 24 (.one (.sl 3 (.one I)))),0)])]⟩,fun x=>N.Ri n x.1 x.2⟩
theorem n7(n:Nat):FO 197 (rI n):=mk (an:=⟨fun _=>none,
 fun b=>match b with
  |0=>some ([.own 5 24 (.one (.sl 3 (.one I))) 2 false,.slot 6 I],false)
  |_=>none,
 fun _=>none,
 fun _=>[]⟩) (n:=n) Tryz.func197 rfl nl fun x=>by kernel_rfl
def qy(n:Nat):Mv:=⟨⟨[.val false [(.sl 24 (.one (.sl 3 (.one I))))]],[(false,[((.sl 3 (.one I)),2)]),(false,[(I,0)])]⟩,fun x=>N.Wb n x⟩
theorem nj(n:Nat):FO 179 (qy n):=mk (an:=⟨fun _=>none,
 fun b=>match b with
  |0=>some ([.own 8 3 (.one I) 2 false,.slot 9 I],false)
  |2=>some ([.own 4 3 (.one I) 2 false,.slot 6 I,.slot 7 (.sl 24 (.one (.sl 3 (.one I)))),.own 8 3 (.one I) 2 false],false)
  |4=>some ([.own 4 3 (.one I) 2 false,.slot 6 I,.slot 7 (.sl 24 (.one (.sl 3 (.one I)))),.own 8 3 (.one I) 2 false,.slot 10 I],false)
  |_=>none,
 fun _=>none,
 fun _=>[]⟩) (n:=n) Tryz.func179 rfl (cn (nz n) (cn (n6 n) (cn (n7 n) nl))) fun x=>by kernel_rfl
def qY(n:Nat):Mv:=⟨⟨[.val true [I,I,(.sl 3 (.one I))],.val true [(.sl 84 k8)],.val false [(.sl 41 k6)],.val false [(.sl 80 k5)]],[(false,[((.sl 41 k6),2)]),(false,[((.sl 80 k5),2)])]⟩,fun x=>N.U7 n x.1 x.2.1 x.2.2.1 x.2.2.2.1 x.2.2.2.2.1 x.2.2.2.2.2⟩
theorem nN(n:Nat):FO 148 (qY n):=mk (an:=⟨fun _=>none,
 fun b=>match b with
  |0=>some ([.own 14 24 (.one (.sl 3 (.one I))) 2 false,.slot 15 I],false)
  |2=>some ([.own 16 3 (.one I) 2 false,.slot 17 I],false)
  |4=>some ([.slot 20 I,.own 10 41 k6 2 false,.own 11 80 k5 2 false],false)
  |_=>none,
 fun b=>match b with
  |19=>some ([.own 10 41 k6 2 false,.own 11 80 k5 2 false],false)
  |_=>none,
 fun _=>[]⟩) (n:=n) Tryz.func148 rfl (cn (fR n) (cn (lH n) (cn (oO n) (cn (fQ n) (cn (ng n) (cn (nh n) (cn (ni n) (cn (nj n) nl)))))))) fun x=>by kernel_rfl
def rM(n:Nat):Mv:=⟨⟨[.val true [I,I,(.sl 3 (.one I))],.val true [I,I,I,.bool,I]],[(false,[((.sl 3 (.one I)),2)])]⟩,fun x=>N.S7 n x.1 x.2.1 x.2.2.1 x.2.2.2.1 x.2.2.2.2.1 x.2.2.2.2.2.1 x.2.2.2.2.2.2.1 x.2.2.2.2.2.2.2⟩
theorem oC(n:Nat):FO 208 (rM n):=mk (an:=Vk) (n:=n) Tryz.func208 rfl (cn (mC n) nl) fun x=>by kernel_rfl
def rO(n:Nat):Mv:=⟨⟨[.val false [(.sl 41 k6)]],[(false,[((.sl 3 (.one I)),2)])]⟩,fun x=>N.Wf n x⟩
theorem oD(n:Nat):FO 209 (rO n):=mk (an:=⟨fun _=>none,
 fun b=>match b with
  |0=>some ([.own 3 3 (.one I) 2 false,.slot 4 I],false)
  |2=>some ([.slot 5 I,.own 3 3 (.one I) 2 false],false)
  |_=>none,
 fun _=>none,
 fun _=>[]⟩) (n:=n) Tryz.func209 rfl nl fun x=>by kernel_rfl
def rT(n:Nat):Mv:=⟨⟨[.val true [I,I,I,.bool,I],.val false [(.sl 3 (.one I))],.val false [I]],[(false,[(I,0)])]⟩,fun x=>N.Tz x.1 x.2.1 x.2.2.1 x.2.2.2.1 x.2.2.2.2.1 x.2.2.2.2.2.1 x.2.2.2.2.2.2⟩
theorem oJ(n:Nat):FO 236 (rT n):=mk (an:=Vk) (n:=n) Tryz.func236 rfl nl fun x=>by kernel_rfl
def rR(n:Nat):Mv:=⟨⟨[.val true [I,I,I,.bool,I],.val false [(.sl 3 (.one I))],.val false [I],.val false [I]],[(false,[(.bool,0)])]⟩,fun x=>N.VM x.1 x.2.1 x.2.2.1 x.2.2.2.1 x.2.2.2.2.1 x.2.2.2.2.2.1 x.2.2.2.2.2.2.1 x.2.2.2.2.2.2.2⟩
theorem oH(n:Nat):FO 233 (rR n):=mk (an:=Vk) (n:=n) Tryz.func233 rfl (cn (oJ n) nl) fun x=>by kernel_rfl
def oT(n:Nat):Mv:=⟨⟨[.val true [I,I,(.sl 3 (.one I))],.val true [I,I,I,.bool,I],.val false [(.sl 3 (.one I))]],[(false,[((.sl 3 (.one I)),2)])]⟩,fun x=>N.Rj n x.1 x.2.1 x.2.2.1 x.2.2.2.1 x.2.2.2.2.1 x.2.2.2.2.2.1 x.2.2.2.2.2.2.1 x.2.2.2.2.2.2.2.1 x.2.2.2.2.2.2.2.2⟩
theorem oF(n:Nat):FO 219 (oT n):=mk (an:=⟨fun _=>none,
 fun b=>match b with
  |0=>some ([.own 7 3 (.one I) 2 false,.slot 9 I],false)
  |2=>some ([.own 10 3 (.one I) 2 false,.slot 11 I],false)
  |4=>some ([.slot 12 I,.own 10 3 (.one I) 2 false],false)
  |_=>none,
 fun b=>match b with
  |7=>some ([.own 7 3 (.one I) 2 false],false)
  |_=>none,
 fun _=>[]⟩) (n:=n) Tryz.func219 rfl (cn (mD n) (cn (oH n) nl)) fun x=>by kernel_rfl
def oU(n:Nat):Mv:=⟨⟨[.box [(I,0),(I,0),((.sl 3 (.one I)),0),((.sl 41 k6),0),((.sl 24 (.one (.sl 3 (.one I)))),2),((.sl 3 (.one I)),2)],.val false [I]],[(false,[(I,0)])]⟩,fun x=>N.Wi n x.1 x.2.1 x.2.2.1 x.2.2.2.1 x.2.2.2.2.1 x.2.2.2.2.2.1 x.2.2.2.2.2.2⟩
theorem oG(n:Nat):FO 220 (oU n):=mk (an:=⟨fun _=>none,
 fun b=>match b with
  |0=>some ([.slot 5 I],true)
  |_=>none,
 fun _=>none,
 fun _=>[]⟩) (n:=n) Tryz.func220 rfl nl fun x=>by kernel_rfl
def jR(n:Nat):Mv:=⟨⟨[.box [(I,0),(I,0),((.sl 3 (.one I)),0),((.sl 41 k6),0),((.sl 24 (.one (.sl 3 (.one I)))),2),((.sl 3 (.one I)),2)],.val false [I],.val false [I]],[(false,[(.bool,0)])]⟩,fun x=>N.QU n x.1 x.2.1 x.2.2.1 x.2.2.2.1 x.2.2.2.2.1 x.2.2.2.2.2.1 x.2.2.2.2.2.2.1 x.2.2.2.2.2.2.2⟩
def lh:An:=⟨fun b=>match b with
  |10=>some [.slot 72 .bool,.box 0 [some (I,0),some (I,0),some ((.sl 3 (.one I)),0),some ((.sl 41 k6),0),some ((.sl 24 (.one (.sl 3 (.one I)))),2),some ((.sl 3 (.one I)),2)]]
  |_=>none,
 fun b=>match b with
  |0=>some ([.slot 9 I,.box 0 [some (I,0),some (I,0),some ((.sl 3 (.one I)),0),some ((.sl 41 k6),0),some ((.sl 24 (.one (.sl 3 (.one I)))),2),some ((.sl 3 (.one I)),2)]],true)
  |_=>none,
 fun b=>match b with
  |7=>some ([.box 0 [some (I,0),some (I,0),some ((.sl 3 (.one I)),0),some ((.sl 41 k6),0),some ((.sl 24 (.one (.sl 3 (.one I)))),2),some ((.sl 3 (.one I)),2)]],true)
  |_=>none,
 fun _=>[]⟩
theorem mv(n:Nat)(x:(jR n).s.ins.D):L5 (find tbl) (plain [(139,oQ n),(210,jR n),(219,oT n),(220,oU n)]) lh n Tryz.f210 (jR n).s x=N.QU (n+1) x.1 x.2.1 x.2.2.1 x.2.2.2.1 x.2.2.2.2.1 x.2.2.2.2.2.1 x.2.2.2.2.2.2.1 x.2.2.2.2.2.2.2:=by kernel_rfl
theorem oE(n:Nat):FO 210 (jR n):=by
 induction n with
 |zero=>exact⟨Oa,_,_,Tryz.func210,rfl,by kernel_rfl⟩
 |succ n ih=>exact mk (an:=lh) (n:=n) (sm:=(jR n).s) (F:=fun(x:(jR n).s.ins.D)=>N.QU (n+1) x.1 x.2.1 x.2.2.1 x.2.2.2.1 x.2.2.2.2.1 x.2.2.2.2.2.1 x.2.2.2.2.2.2.1 x.2.2.2.2.2.2.2) Tryz.func210 rfl (cn (iB n) (cn ih (cn (oF n) (cn (oG n) nl)))) (mv n)
def rJ(n:Nat):Mv:=⟨⟨[.val true [I,I,(.sl 3 (.one I))],.val false [(.sl 41 k6)]],[(false,[((.sl 3 (.one I)),2)])]⟩,fun x=>N.W7 n x.1 x.2.1 x.2.2.1 x.2.2.2⟩
theorem n8(n:Nat):FO 198 (rJ n):=mk (an:=⟨fun _=>none,
 fun b=>match b with
  |0=>some ([.slot 6 I,.box 12 [some (I,0),some (I,0),some ((.sl 3 (.one I)),0),some ((.sl 41 k6),0),some ((.sl 24 (.one (.sl 3 (.one I)))),2),some ((.sl 3 (.one I)),2)]],false)
  |2=>some ([.slot 8 I,.box 12 [some (I,0),some (I,0),some ((.sl 3 (.one I)),0),some ((.sl 41 k6),0),some ((.sl 24 (.one (.sl 3 (.one I)))),2),some ((.sl 3 (.one I)),2)]],false)
  |_=>none,
 fun b=>match b with
  |13=>some ([.box 12 [some (I,0),some (I,0),some ((.sl 3 (.one I)),0),some ((.sl 41 k6),0),some ((.sl 24 (.one (.sl 3 (.one I)))),2),some ((.sl 3 (.one I)),2)]],false)
  |_=>none,
 fun _=>[]⟩) (n:=n) Tryz.func198 rfl (cn (oC n) (cn (oD n) (cn (oE n) nl))) fun x=>by kernel_rfl
def qz(n:Nat):Mv:=⟨⟨[.val true [I,I,(.sl 3 (.one I))],.val false [(.sl 41 k6)]],[(false,[((.sl 41 k6),2)])]⟩,fun x=>N.Ub n x.1 x.2.1 x.2.2.1 x.2.2.2⟩
theorem np(n:Nat):FO 180 (qz n):=mk (an:=⟨fun _=>none,
 fun b=>match b with
  |0=>some ([.own 6 41 k6 2 false,.slot 7 I],false)
  |_=>none,
 fun b=>match b with
  |10=>some ([.box 8 [some (I,0),some (I,0),some (I,0),some (.bool,0),some (I,0)]],false)
  |_=>none,
 fun _=>[]⟩) (n:=n) Tryz.func180 rfl (cn (n8 n) nl) fun x=>by kernel_rfl
def qZ(n:Nat):Mv:=⟨⟨[.val true [I,I,(.sl 3 (.one I))],.val false [(.sl 41 k6)]],[(false,[((.sl 41 k6),2)])]⟩,fun x=>N.Vu n x.1 x.2.1 x.2.2.1 x.2.2.2⟩
theorem nO(n:Nat):FO 149 (qZ n):=mk (an:=Vk) (n:=n) Tryz.func149 rfl (cn (lH n) (cn (np n) nl)) fun x=>by kernel_rfl
def qg(n:Nat):Mv:=⟨⟨[.val true [I,(.sl 54 k10)],.val false [I]],[(true,[(I,0),(I,0),((.sl 129 k1),2),((.sl 102 k3),2),(I,0)]),(false,[(.bool,0)])]⟩,fun x=>N.Rs n x.1 x.2.1 x.2.2⟩
theorem mA(n:Nat):FO 154 (qg n):=mk (an:=Vk) (n:=n) Tryz.func154 rfl (cn (kB n) (cn (dm n) nl)) fun x=>by kernel_rfl
def rA(n:Nat):Mv:=⟨⟨[.val true [I,I,(.sl 129 k1),(.sl 102 k3),I],.val false [I]],[(false,[((.sl 102 k3),2)])]⟩,fun x=>N.Vy n x.1 x.2.1 x.2.2.1 x.2.2.2.1 x.2.2.2.2.1 x.2.2.2.2.2⟩
theorem nq(n:Nat):FO 181 (rA n):=mk (an:=⟨fun _=>none,
 fun b=>match b with
  |0=>some ([.own 5 102 k3 2 false,.slot 6 I],false)
  |_=>none,
 fun b=>match b with
  |7=>some ([.own 5 102 k3 2 false],false)
  |_=>none,
 fun _=>[]⟩) (n:=n) Tryz.func181 rfl nl fun x=>by kernel_rfl
def rB(n:Nat):Mv:=⟨⟨[.val true [(.sl 84 k8)],.val false [(.sl 102 k3)]],[(true,[((.sl 84 k8),2)]),(false,[(.bool,0)])]⟩,fun x=>N.Xq n x.1 x.2⟩
theorem nr(n:Nat):FO 182 (rB n):=mk (an:=Vk) (n:=n) Tryz.func182 rfl (cn (kE n) nl) fun x=>by kernel_rfl
def qa(n:Nat):Mv:=⟨⟨[.box [(I,0),(I,0),((.sl 3 (.one I)),2),((.sl 84 k8),2),(I,0),((.sl 54 k10),2),((.sl 41 k6),2),((.sl 80 k5),0),((.sl 3 (.one I)),2),((.sl 3 (.one I)),2),(I,0)],.box [(I,0),(I,0),(I,0),(I,0)]],[(false,[(.bool,0)])]⟩,fun x=>N.V8 n x.1 x.2.1 x.2.2.1 x.2.2.2.1 x.2.2.2.2.1 x.2.2.2.2.2.1 x.2.2.2.2.2.2.1 x.2.2.2.2.2.2.2.1 x.2.2.2.2.2.2.2.2.1 x.2.2.2.2.2.2.2.2.2.1 x.2.2.2.2.2.2.2.2.2.2.1 x.2.2.2.2.2.2.2.2.2.2.2.1 x.2.2.2.2.2.2.2.2.2.2.2.2.1 x.2.2.2.2.2.2.2.2.2.2.2.2.2.1 x.2.2.2.2.2.2.2.2.2.2.2.2.2.2⟩
theorem nP(n:Nat):FO 150 (qa n):=mk (an:=⟨fun _=>none,
 fun b=>match b with
  |1=>some ([.slot 11 I,.box 0 [some (I,0),some (I,0),some ((.sl 3 (.one I)),2),some ((.sl 84 k8),2),some (I,0),some ((.sl 54 k10),2),some ((.sl 41 k6),2),some ((.sl 80 k5),0),some ((.sl 3 (.one I)),2),some ((.sl 3 (.one I)),2),some (I,0)]],false)
  |_=>none,
 fun b=>match b with
  |10=>some ([.box 0 [some (I,0),some (I,0),some ((.sl 3 (.one I)),2),some ((.sl 84 k8),2),some (I,0),some ((.sl 54 k10),2),some ((.sl 41 k6),2),some ((.sl 80 k5),0),some ((.sl 3 (.one I)),2),some ((.sl 3 (.one I)),2),some (I,0)]],false)
  |12=>some ([.box 0 [some (I,0),some (I,0),some ((.sl 3 (.one I)),2),some ((.sl 84 k8),2),some (I,0),some ((.sl 54 k10),2),some ((.sl 41 k6),2),some ((.sl 80 k5),0),some ((.sl 3 (.one I)),2),some ((.sl 3 (.one I)),2),some (I,0)],.box 1 [some (I,0),some (I,0),some (I,0),some (I,0)]],true)
  |_=>none,
 fun _=>[]⟩) (n:=n) Tryz.func150 rfl (cn (kD n) (cn (l7 n) (cn (mA n) (cn (nq n) (cn (nr n) nl))))) fun x=>by kernel_rfl
def qb(n:Nat):Mv:=⟨⟨[.val true [I,(.sl 54 k10)],.val false [I]],[(true,[(I,0),((.sl 54 k10),2)]),(false,[(.bool,0)])]⟩,fun x=>N.Wt n x.1 x.2.1 x.2.2⟩
theorem nQ(n:Nat):FO 151 (qb n):=mk (an:=Vk) (n:=n) Tryz.func151 rfl (cn (kG n) (cn (fP n) (cn (dm n) nl))) fun x=>by kernel_rfl
def s92(n:Nat):Mv:=⟨⟨[.box [(I,0),(I,0),((.sl 3 (.one I)),2),((.sl 84 k8),2),(I,0),((.sl 54 k10),2),((.sl 41 k6),2),((.sl 80 k5),0),((.sl 3 (.one I)),2),((.sl 3 (.one I)),2),(I,0)]],[]⟩,fun x=>N.WA n x.1 x.2.1 x.2.2.1 x.2.2.2.1 x.2.2.2.2.1 x.2.2.2.2.2.1 x.2.2.2.2.2.2.1 x.2.2.2.2.2.2.2.1 x.2.2.2.2.2.2.2.2.1 x.2.2.2.2.2.2.2.2.2.1 x.2.2.2.2.2.2.2.2.2.2⟩
theorem pj(n:Nat):FO 92 (s92 n):=mk (an:=⟨fun b=>match b with
  |10=>some [.slot 93 .bool,.box 0 [some (I,0),some (I,0),some ((.sl 3 (.one I)),2),some ((.sl 84 k8),2),some (I,0),some ((.sl 54 k10),2),some ((.sl 41 k6),2),some ((.sl 80 k5),0),some ((.sl 3 (.one I)),2),some ((.sl 3 (.one I)),2),some (I,0)],.box 7 [some (I,0),some (I,0),some (I,0),some (I,0)]]
  |_=>none,
 fun b=>match b with
  |0=>some ([.own 4 80 k5 2 false,.own 5 3 (.one I) 2 false,.slot 6 I,.box 0 [some (I,0),some (I,0),some ((.sl 3 (.one I)),2),some ((.sl 84 k8),2),some (I,0),some ((.sl 54 k10),2),some ((.sl 41 k6),2),some ((.sl 80 k5),0),some ((.sl 3 (.one I)),2),some ((.sl 3 (.one I)),2),some (I,0)]],false)
  |2=>some ([.slot 9 I,.box 0 [some (I,0),some (I,0),some ((.sl 3 (.one I)),2),some ((.sl 84 k8),2),some (I,0),some ((.sl 54 k10),2),some ((.sl 41 k6),2),some ((.sl 80 k5),0),some ((.sl 3 (.one I)),2),some ((.sl 3 (.one I)),2),some (I,0)]],false)
  |4=>some ([.slot 10 .bool,.slot 11 I],false)
  |_=>none,
 fun b=>match b with
  |7=>some ([.own 4 80 k5 2 false,.own 5 3 (.one I) 2 false,.box 0 [some (I,0),some (I,0),some ((.sl 3 (.one I)),2),some ((.sl 84 k8),2),some (I,0),some ((.sl 54 k10),2),some ((.sl 41 k6),2),some ((.sl 80 k5),0),some ((.sl 3 (.one I)),2),some ((.sl 3 (.one I)),2),some (I,0)]],false)
  |13=>some ([.box 0 [some (I,0),some (I,0),some ((.sl 3 (.one I)),2),some ((.sl 84 k8),2),some (I,0),some ((.sl 54 k10),2),some ((.sl 41 k6),2),some ((.sl 80 k5),0),some ((.sl 3 (.one I)),2),some ((.sl 3 (.one I)),2),some (I,0)]],false)
  |_=>none,
 fun b=>match b with
  |13=>[4]
  |_=>[]⟩) (n:=n) Tryz.func92 rfl (cn (kD n) (cn (nN n) (cn (nO n) (cn (nP n) (cn (nQ n) nl))))) fun x=>by kernel_rfl
def sX(n:Nat):Mv:=⟨⟨[.box [((.sl 5 (.one (.int .u8))),0),(I,0),(I,0)],.val false [I]],[(true,[(I,0),(I,0),((.sl 3 (.one I)),0),((.sl 84 k8),0),(I,0),((.sl 54 k10),0),((.sl 41 k6),0),((.sl 80 k5),0),((.sl 3 (.one I)),0),((.sl 3 (.one I)),0),(I,0)])]⟩,fun x=>N.V7 n x.1 x.2.1 x.2.2.1 x.2.2.2⟩
theorem pG(n:Nat):FO 39 (sX n):=mk (an:=⟨fun _=>none,
 fun b=>match b with
  |0=>some ([.slot 6 I,.box 0 [some ((.sl 5 (.one (.int .u8))),0),some (I,0),some (I,0)],.box 5 [some (I,0),some (I,0),some ((.sl 3 (.one I)),2),some ((.sl 84 k8),2),some (I,0),some ((.sl 54 k10),2),some ((.sl 41 k6),2),some ((.sl 80 k5),0),some ((.sl 3 (.one I)),2),some ((.sl 3 (.one I)),2),some (I,0)]],false)
  |3=>some ([.slot 7 I,.box 5 [some (I,0),some (I,0),some ((.sl 3 (.one I)),2),some ((.sl 84 k8),2),some (I,0),some ((.sl 54 k10),2),some ((.sl 41 k6),2),some ((.sl 80 k5),0),some ((.sl 3 (.one I)),2),some ((.sl 3 (.one I)),2),some (I,0)]],false)
  |_=>none,
 fun b=>match b with
  |7=>some ([.box 0 [some ((.sl 5 (.one (.int .u8))),0),some (I,0),some (I,0)],.box 5 [some (I,0),some (I,0),some ((.sl 3 (.one I)),2),some ((.sl 84 k8),2),some (I,0),some ((.sl 54 k10),2),some ((.sl 41 k6),2),some ((.sl 80 k5),0),some ((.sl 3 (.one I)),2),some ((.sl 3 (.one I)),2),some (I,0)]],false)
  |33=>some ([.slot 26 .bool],false)
  |_=>none,
 fun b=>match b with
  |12=>[5]
  |_=>[]⟩) (n:=n) Tryz.func39 rfl (cn (o8 n) (cn (pD n) (cn (pS n) (cn (pT n) (cn (dE n) (cn (pf n) (cn (ph n) (cn (pj n) nl)))))))) fun x=>by kernel_rfl
def qc(n:Nat):Mv:=⟨⟨[.box [((.sl 5 (.one (.int .u8))),0),(I,0),(I,0)],.val true [(.sl 84 k8)]],[(true,[((.sl 84 k8),0)])]⟩,fun x=>N.W5 n x.1 x.2.1 x.2.2.1 x.2.2.2⟩
theorem nR(n:Nat):FO 152 (qc n):=mk (an:=⟨fun _=>none,
 fun _=>none,
 fun b=>match b with
  |18=>some ([.box 0 [some ((.sl 5 (.one (.int .u8))),0),some (I,0),some (I,0)],.box 5 [some ((.sl 84 k8),0)]],false)
  |_=>none,
 fun _=>[]⟩) (n:=n) Tryz.func152 rfl (cn (dE n) (cn (jG n) (cn (YO n) nl))) fun x=>by kernel_rfl
def qe(n:Nat):Mv:=⟨⟨[.box [((.sl 5 (.one (.int .u8))),0),(I,0),(I,0)],.val false [(.sl 41 k6)]],[(false,[((.sl 41 k6),2)])]⟩,fun x=>N.W6 x.1 x.2.1 x.2.2.1 x.2.2.2⟩
theorem nT(n:Nat):FO 153 (qe n):=mk (an:=⟨fun _=>none,
 fun _=>none,
 fun b=>match b with
  |18=>some ([.box 0 [some ((.sl 5 (.one (.int .u8))),0),some (I,0),some (I,0)],.own 5 41 k6 2 false],false)
  |_=>none,
 fun _=>[]⟩) (n:=n) Tryz.func153 rfl (cn (dE n) (cn (jG n) nl)) fun x=>by kernel_rfl
end Go.Proofs.YtccgnkaemdnniaaGreat.Ev
