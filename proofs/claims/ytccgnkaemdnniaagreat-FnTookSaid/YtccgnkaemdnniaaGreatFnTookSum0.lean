/- Tables of types;summaries of the functions. Conditions: none. -/
import Derived.Test.YtccgnkaemdnniaaGreatLib4
import Derived.Test.YtccgnkaemdnniaaGreatFnTookNat
import Derived.Test.YtccgnkaemdnniaaGreatProg
import Derived.KernelRfl
set_option linter.all false
namespace Go.Proofs.YtccgnkaemdnniaaGreat.Ev
open Go Go.Ev Go.Proofs
set_option maxRecDepth 100000
abbrev I:L:=.int .i64
abbrev TT:List (String×Array Value):=[]
def k0:Ls:=(.cons .str (.one (.int .u64)))
def k1:Ls:=(.cons I (.one I))
def k2:Ls:=(.cons .str (.one (.int .u8)))
def k3:Ls:=(.cons I (.cons I (.one I)))
def k4:Ls:=(.cons I (.cons I (.cons .bool (.one (.int .u8)))))
def k5:Ls:=(.cons I (.cons I (.cons I (.one I))))
def k6:Ls:=(.cons I (.cons I (.cons I (.cons .bool (.one I)))))
def k7:Ls:=(.cons I (.cons I (.one (.sl 3 (.one I)))))
def k8:Ls:=(.cons I (.cons I (.one (.sl 88 k3))))
def k9:Ls:=(.cons (.sl 5 (.one (.int .u8))) (.cons I (.one I)))
def k10:Ls:=(.cons I (.cons I (.cons (.sl 129 k1) (.cons (.sl 102 k3) (.one I)))))
def tP:Ls:=(.cons I (.cons I (.cons (.sl 3 (.one I)) (.cons (.sl 41 k6) (.one (.sl 3 (.one I)))))))
def rj:Ls:=(.cons I (.one (.sl 54 k10)))
def rr:Ls:=(.cons I (.cons I (.cons (.sl 3 (.one I)) (.cons (.sl 41 k6) (.cons (.sl 24 (.one (.sl 3 (.one I)))) (.one (.sl 3 (.one I))))))))
def ru:Ls:=(.cons I (.cons I (.cons (.sl 3 (.one I)) (.cons (.sl 84 k8) (.cons I (.cons (.sl 54 k10) (.cons (.sl 41 k6) (.cons (.sl 80 k5) (.cons (.sl 3 (.one I)) (.cons (.sl 3 (.one I)) (.one I)))))))))))
def tbl:List (Nat×Ty):=[
 (3,⟨false,(.one I),[],false⟩),
 (4,⟨false,(.one .bool),[],false⟩),
 (5,⟨false,(.one (.int .u8)),[],false⟩),
 (9,⟨false,(.one .str),[],false⟩),
 (22,⟨false,(.one (.sl 5 (.one (.int .u8)))),[],false⟩),
 (24,⟨false,(.one (.sl 3 (.one I))),[],false⟩),
 (26,⟨true,k7,[(0,3),(1,3),(2,24)],false⟩),
 (27,⟨false,(.one (.sl 84 k8)),[],false⟩),
 (29,⟨true,(.one (.sl 84 k8)),[(0,27)],false⟩),
 (30,⟨false,(.one (.sl 54 k10)),[],false⟩),
 (32,⟨true,rj,[(0,3),(1,30)],false⟩),
 (33,⟨false,(.one (.sl 41 k6)),[],false⟩),
 (34,⟨false,(.one (.sl 80 k5)),[],false⟩),
 (36,⟨true,ru,[(0,26),(3,29),(4,32),(6,33),(7,34),(8,24),(9,24),(10,3)],false⟩),
 (41,⟨true,k6,[(0,3),(1,3),(2,3),(3,4),(4,3)],true⟩),
 (45,⟨false,(.one (.sl 129 k1)),[],false⟩),
 (52,⟨false,(.one (.sl 102 k3)),[],false⟩),
 (54,⟨true,k10,[(0,3),(1,3),(2,45),(3,52),(4,3)],false⟩),
 (80,⟨true,k5,[(0,3),(1,3),(2,3),(3,3)],true⟩),
 (82,⟨false,(.one (.sl 88 k3)),[],false⟩),
 (84,⟨true,k8,[(0,3),(1,3),(2,82)],false⟩),
 (88,⟨true,k3,[(0,3),(1,3),(2,3)],true⟩),
 (102,⟨true,k3,[(0,3),(1,3),(2,3)],true⟩),
 (110,⟨true,k9,[(0,22),(1,3),(2,3)],false⟩),
 (129,⟨true,k1,[(0,3),(1,3)],true⟩),
 (155,⟨false,(.one (.sl 9 (.one .str))),[],false⟩),
 (168,⟨false,(.one (.sl 4 (.one .bool))),[],false⟩),
 (174,⟨false,(.one (.sl 24 (.one (.sl 3 (.one I))))),[],false⟩),
 (204,⟨true,rr,[(0,26),(3,33),(4,174),(5,24)],false⟩)]
theorem oJ:tbl.all (fun p=>Oe Tryz.prog p.1 p.2)=true:=by kernel_rfl
theorem follows:Tryz.prog.follows .mixedOrders=true:=by kernel_rfl
def UA:An:=⟨fun _=>none,fun _=>none,fun _=>none,fun _=>[]⟩
abbrev FO(f:FuncId)(g:Mv):Prop:=K8 Tryz.prog TT f g∧Ms Tryz.prog f
theorem nl:JY Tryz.prog TT (find []):=OY
theorem cn{f:FuncId}{g:Mv}{l:List (FuncId×Mv)}(h:FO f g)(hl:JY Tryz.prog TT (find l)):JY Tryz.prog TT (find ((f,g)::l)):=OM h.1 h.2 hl
theorem ry {l : Env} {an : An} {n : Nat} {sm : Sm} {fn : Func} {f : FuncId} {c : Code} {F : sm.ins.D → Option sm.outs.D} (hf : Tryz.prog.funcs[f]? = some fn) (hb : fn.body = some c) (hl : Ko Tryz.prog TT l) (hF : ∀ x, L5 (find tbl) l an n fn sm x = F x) (h1 : decide (sm.ps.length ≤ fn.ntmps) = true := by kernel_rfl) (h2 : (fn.name == "runtime.NumGoroutine") = false := by kernel_rfl) : FO f ⟨sm, F⟩ := ⟨OE hf hb h1 oJ hl follows hF, fn, c, hf, hb, h2⟩
theorem mk {l : List (FuncId × Mv)} {an : An} {n : Nat} {sm : Sm} {fn : Func} {f : FuncId} {c : Code} {F : sm.ins.D → Option sm.outs.D} (hf : Tryz.prog.funcs[f]? = some fn) (hb : fn.body = some c) (hl : JY Tryz.prog TT (find l)) (hF : ∀ x, L5 (find tbl) (plain l) an n fn sm x = F x) (h1 : decide (sm.ps.length ≤ fn.ntmps) = true := by kernel_rfl) (h2 : (fn.name == "runtime.NumGoroutine") = false := by kernel_rfl) : FO f ⟨sm, F⟩ := ry hf hb (OD hl) hF h1 h2
def s8(n:Nat):Mv:=⟨⟨[.val false [(.sl 5 (.one (.int .u8)))]],[(false,[(.bool,0)])]⟩,fun x=>N.bh x⟩
theorem r6(n:Nat):FO 8 (s8 n):=mk (an:=UA) (n:=n) Tryz.func8 rfl nl fun x=>by kernel_rfl
def sJ(n:Nat):Mv:=⟨⟨[.val false [(.sl 5 (.one (.int .u8)))]],[(false,[((.sl 5 (.one (.int .u8))),0),(I,0),(I,0)])]⟩,fun x=>N.Xq n x⟩
theorem oe(n:Nat):FO 38 (sJ n):=mk (an:=⟨fun _=>none,
 fun b=>match b with
  |0=>some ([.slot 3 I,.slot 4 I],false)
  |_=>none,
 fun _=>none,
 fun _=>[]⟩) (n:=n) Tryz.func38 rfl nl fun x=>by kernel_rfl
def sL(n:Nat):Mv:=⟨⟨[.val false [(.sl 5 (.one (.int .u8)))],.val false [I]],[(false,[(I,0)])]⟩,fun x=>N.W0 x.1 x.2⟩
theorem oh(n:Nat):FO 40 (sL n):=mk (an:=UA) (n:=n) Tryz.func40 rfl nl fun x=>by kernel_rfl
def p7(n:Nat):Mv:=⟨⟨[.box [((.sl 5 (.one (.int .u8))),0),(I,0),(I,0)]],[(false,[(I,0)])]⟩,fun x=>N.Ss x.1 x.2.1 x.2.2⟩
theorem mq(n:Nat):FO 127 (p7 n):=mk (an:=⟨fun _=>none,
 fun _=>none,
 fun b=>match b with
  |12=>some ([.slot 3 I,.box 0 [some ((.sl 5 (.one (.int .u8))),0),some (I,0),some (I,0)]],false)
  |_=>none,
 fun _=>[]⟩) (n:=n) Tryz.func127 rfl nl fun x=>by kernel_rfl
def rV(n:Nat):Mv:=⟨⟨[.box [((.sl 5 (.one (.int .u8))),0),(I,0),(I,0)],.val false [I]],[(false,[(I,0)])]⟩,fun x=>N.PS x.1 x.2.1 x.2.2.1 x.2.2.2⟩
theorem cd(n:Nat):FO 77 (rV n):=mk (an:=UA) (n:=n) Tryz.func77 rfl (cn (mq n) nl) fun x=>by kernel_rfl
def mH(n:Nat):Mv:=⟨⟨[.box [((.sl 5 (.one (.int .u8))),0),(I,0),(I,0)],.val false [(.sl 9 (.one .str))]],[(false,[(.str,0)])]⟩,fun x=>N.Wh x.1 x.2.1 x.2.2.1 x.2.2.2⟩
theorem lN(n:Nat):FO 143 (mH n):=mk (an:=UA) (n:=n) Tryz.func143 rfl (cn (cd n) nl) fun x=>by kernel_rfl
def qZ(n:Nat):Mv:=⟨⟨[.val false [.str],.val false [(.int .u8)]],[(false,[((.sl 9 (.one .str)),2)])]⟩,fun x=>N.V9 n x.1 x.2⟩
theorem nK(n:Nat):FO 173 (qZ n):=mk (an:=⟨fun _=>none,
 fun b=>match b with
  |0=>some ([.own 5 9 (.one .str) 2 false,.slot 6 I,.slot 7 I],false)
  |_=>none,
 fun b=>match b with
  |7=>some ([.own 5 9 (.one .str) 2 false,.slot 6 I],false)
  |_=>none,
 fun _=>[]⟩) (n:=n) Tryz.func173 rfl nl fun x=>by kernel_rfl
def tC(n:Nat):Mv:=⟨⟨[.val false [I],.val false [I],.val false [I]],[(false,[(.bool,0)])]⟩,fun x=>N.PL x.1 x.2.1 x.2.2⟩
theorem YI(n:Nat):FO 88 (tC n):=mk (an:=UA) (n:=n) Tryz.func88 rfl nl fun x=>by kernel_rfl
def qa(n:Nat):Mv:=⟨⟨[.val false [(.int .u8)]],[(false,[(I,0)])]⟩,fun x=>N.Wz n x⟩
theorem nL(n:Nat):FO 174 (qa n):=mk (an:=⟨fun _=>none,
 fun b=>match b with
  |0=>some ([.slot 3 I],true)
  |_=>none,
 fun _=>none,
 fun _=>[]⟩) (n:=n) Tryz.func174 rfl nl fun x=>by kernel_rfl
def mG(n:Nat):Mv:=⟨⟨[.val false [.str]],[(true,[(I,0),(I,0),((.sl 3 (.one I)),2)]),(false,[(I,0)])]⟩,fun x=>N.QP n x⟩
theorem lM(n:Nat):FO 142 (mG n):=mk (an:=⟨fun _=>none,
 fun b=>match b with
  |0=>some ([.slot 6 I,.box 2 [some (I,0),some (I,0),some ((.sl 3 (.one I)),2)],.box 5 [some (I,0),some (I,0),some ((.sl 3 (.one I)),2)]],true)
  |2=>some ([.slot 8 I,.box 2 [some (I,0),some (I,0),some ((.sl 3 (.one I)),2)],.box 5 [some (I,0),some (I,0),some ((.sl 3 (.one I)),2)]],true)
  |_=>none,
 fun _=>none,
 fun _=>[]⟩) (n:=n) Tryz.func142 rfl (cn (YI n) (cn (nK n) (cn (nL n) nl))) fun x=>by kernel_rfl
def rJ(n:Nat):Mv:=⟨⟨[.box [((.sl 5 (.one (.int .u8))),0),(I,0),(I,0)],.val false [I]],[(false,[(.bool,0)])]⟩,fun x=>N.QQ x.1 x.2.1 x.2.2.1 x.2.2.2⟩
theorem gI(n:Nat):FO 61 (rJ n):=mk (an:=UA) (n:=n) Tryz.func61 rfl (cn (cd n) nl) fun x=>by kernel_rfl
def rW(n:Nat):Mv:=⟨⟨[.box [((.sl 5 (.one (.int .u8))),0),(I,0),(I,0)],.val false [(.sl 3 (.one I))]],[(false,[(I,0)])]⟩,fun x=>N.Pq x.1 x.2.1 x.2.2.1 x.2.2.2⟩
theorem ez(n:Nat):FO 78 (rW n):=mk (an:=UA) (n:=n) Tryz.func78 rfl (cn (cd n) nl) fun x=>by kernel_rfl
def kD(n:Nat):Mv:=⟨⟨[.box [((.sl 5 (.one (.int .u8))),0),(I,0),(I,0)]],[(true,[(I,0),(I,0),((.sl 3 (.one I)),2)])]⟩,fun x=>N.Uc n x.1 x.2.1 x.2.2⟩
def lE:An:=⟨fun _=>none,
 fun b=>match b with
  |0=>some ([.slot 6 I,.box 0 [some ((.sl 5 (.one (.int .u8))),0),some (I,0),some (I,0)],.box 5 [some (I,0),some (I,0),some ((.sl 3 (.one I)),2)]],false)
  |_=>none,
 fun _=>none,
 fun _=>[]⟩
theorem mU(n:Nat)(x:(kD n).s.ins.D):L5 (find tbl) (plain [(61,rJ n),(77,rV n),(78,rW n),(142,mG n),(143,mH n)]) lE n Tryz.f144 (kD n).s x=N.Uc n x.1 x.2.1 x.2.2:=by kernel_rfl
theorem mx(n:Nat):FO 144 (kD n):=mk (an:=lE) (n:=n) (sm:=(kD n).s) Tryz.func144 rfl (cn (gI n) (cn (cd n) (cn (ez n) (cn (lM n) (cn (lN n) nl))))) (mU n)
def sz(n:Nat):Mv:=⟨⟨[.val true [I,I,(.sl 3 (.one I))]],[(false,[(.bool,0)])]⟩,fun x=>N.Qk n x.1 x.2.1 x.2.2⟩
theorem jt(n:Nat):FO 82 (sz n):=mk (an:=⟨fun _=>none,
 fun b=>match b with
  |0=>some ([.slot 3 I],true)
  |_=>none,
 fun _=>none,
 fun _=>[]⟩) (n:=n) Tryz.func82 rfl (cn (YI n) nl) fun x=>by kernel_rfl
def pY(n:Nat):Mv:=⟨⟨[.val true [I,I,(.sl 3 (.one I))],.val false [I]],[(false,[((.sl 3 (.one I)),2)])]⟩,fun x=>N.Rx n x.1 x.2.1 x.2.2.1 x.2.2.2⟩
theorem jl(n:Nat):FO 112 (pY n):=mk (an:=⟨fun _=>none,
 fun b=>match b with
  |0=>some ([.own 5 3 (.one I) 2 false,.slot 6 I],false)
  |_=>none,
 fun b=>match b with
  |7=>some ([.own 5 3 (.one I) 2 false],false)
  |_=>none,
 fun _=>[]⟩) (n:=n) Tryz.func112 rfl (cn (jt n) nl) fun x=>by kernel_rfl
def oE(n:Nat):Mv:=⟨⟨[.box [((.sl 5 (.one (.int .u8))),0),(I,0),(I,0)],.val true [I,I,(.sl 3 (.one I))]],[(true,[((.sl 84 k8),2)])]⟩,fun x=>N.V7 n x.1 x.2.1 x.2.2.1 x.2.2.2.1 x.2.2.2.2.1 x.2.2.2.2.2⟩
theorem mz(n:Nat):FO 146 (oE n):=mk (an:=⟨fun _=>none,
 fun b=>match b with
  |0=>some ([.slot 7 I,.box 0 [some ((.sl 5 (.one (.int .u8))),0),some (I,0),some (I,0)],.box 5 [some ((.sl 84 k8),2)]],false)
  |2=>some ([.slot 9 I,.box 0 [some ((.sl 5 (.one (.int .u8))),0),some (I,0),some (I,0)],.box 8 [some (I,0),some (I,0),some ((.sl 88 k3),2)]],false)
  |_=>none,
 fun b=>match b with
  |13=>some ([.box 0 [some ((.sl 5 (.one (.int .u8))),0),some (I,0),some (I,0)],.box 8 [some (I,0),some (I,0),some ((.sl 88 k3),2)]],false)
  |_=>none,
 fun _=>[]⟩) (n:=n) Tryz.func146 rfl (cn (ez n) (cn (jl n) nl)) fun x=>by kernel_rfl
def qB(n:Nat):Mv:=⟨⟨[.val false [(.sl 88 k3)]],[(false,[(.bool,0)])]⟩,fun x=>N.VO n x⟩
theorem mu(n:Nat):FO 134 (qB n):=mk (an:=⟨fun _=>none,
 fun b=>match b with
  |0=>some ([.slot 3 I],true)
  |_=>none,
 fun _=>none,
 fun _=>[]⟩) (n:=n) Tryz.func134 rfl (cn (YI n) nl) fun x=>by kernel_rfl
def s6(n:Nat):Mv:=⟨⟨[.val true [(.sl 84 k8)]],[(false,[(.bool,0)])]⟩,fun x=>N.QM n x⟩
theorem fA(n:Nat):FO 83 (s6 n):=mk (an:=⟨fun _=>none,
 fun b=>match b with
  |0=>some ([.slot 3 I],true)
  |2=>some ([.slot 5 I],true)
  |_=>none,
 fun _=>none,
 fun _=>[]⟩) (n:=n) Tryz.func83 rfl (cn (YI n) (cn (mu n) nl)) fun x=>by kernel_rfl
def pe(n:Nat):Mv:=⟨⟨[.val true [I,I,(.sl 3 (.one I))]],[(true,[(I,0),(I,0),((.sl 3 (.one I)),2)])]⟩,fun x=>N.VX x.1 x.2.1 x.2.2⟩
theorem lK(n:Nat):FO 116 (pe n):=mk (an:=UA) (n:=n) Tryz.func116 rfl nl fun x=>by kernel_rfl
def pf(n:Nat):Mv:=⟨⟨[.val true [(.sl 84 k8)]],[(true,[((.sl 84 k8),2)])]⟩,fun x=>N.Pl n x⟩
theorem YH(n:Nat):FO 117 (pf n):=mk (an:=⟨fun _=>none,
 fun b=>match b with
  |0=>some ([.slot 4 I,.box 3 [some ((.sl 84 k8),2)]],false)
  |_=>none,
 fun _=>none,
 fun _=>[]⟩) (n:=n) Tryz.func117 rfl nl fun x=>by kernel_rfl
def pW(n:Nat):Mv:=⟨⟨[.val true [I,I,(.sl 88 k3)],.val false [I]],[(true,[(I,0),(I,0),(I,0)])]⟩,fun x=>N.RK n x.1 x.2.1 x.2.2.1 x.2.2.2⟩
theorem jk(n:Nat):FO 109 (pW n):=mk (an:=⟨fun _=>none,
 fun b=>match b with
  |0=>some ([.slot 5 I,.box 4 [some (I,0),some (I,0),some (I,0)]],true)
  |_=>none,
 fun _=>none,
 fun _=>[]⟩) (n:=n) Tryz.func109 rfl nl fun x=>by kernel_rfl
def pV(n:Nat):Mv:=⟨⟨[.val true [(.sl 84 k8)],.val false [I]],[(false,[(I,0)])]⟩,fun x=>N.Xn n x.1 x.2⟩
theorem mf(n:Nat):FO 108 (pV n):=mk (an:=⟨fun _=>none,
 fun b=>match b with
  |0=>some ([.slot 5 I,.slot 6 I],false)
  |_=>none,
 fun _=>none,
 fun _=>[]⟩) (n:=n) Tryz.func108 rfl (cn (fA n) (cn (jk n) nl)) fun x=>by kernel_rfl
def oD(n:Nat):Mv:=⟨⟨[.val true [I,I,(.sl 3 (.one I))],.val true [(.sl 84 k8)]],[(true,[(I,0),(I,0),((.sl 3 (.one I)),2),((.sl 84 k8),2),(I,0),((.sl 54 k10),2),((.sl 41 k6),2),((.sl 80 k5),2),((.sl 3 (.one I)),2),((.sl 3 (.one I)),2),(I,0)]),(false,[(.bool,0)])]⟩,fun x=>N.VC n x.1 x.2.1 x.2.2.1 x.2.2.2⟩
theorem my(n:Nat):FO 145 (oD n):=mk (an:=⟨fun _=>none,
 fun b=>match b with
  |0=>some ([.slot 7 I,.box 4 [some (I,0),some (I,0),some ((.sl 3 (.one I)),2),some ((.sl 84 k8),2),some (I,0),some ((.sl 54 k10),2),some ((.sl 41 k6),2),some ((.sl 80 k5),2),some ((.sl 3 (.one I)),2),some ((.sl 3 (.one I)),2),some (I,0)]],true)
  |2=>some ([.slot 8 I,.box 4 [some (I,0),some (I,0),some ((.sl 3 (.one I)),2),some ((.sl 84 k8),2),some (I,0),some ((.sl 54 k10),2),some ((.sl 41 k6),2),some ((.sl 80 k5),2),some ((.sl 3 (.one I)),2),some ((.sl 3 (.one I)),2),some (I,0)]],true)
  |4=>some ([.slot 9 I,.box 6 [some (I,0),some (I,0),some ((.sl 3 (.one I)),2),some ((.sl 84 k8),2),some (I,0),some ((.sl 54 k10),2),some ((.sl 41 k6),2),some ((.sl 80 k5),2),some ((.sl 3 (.one I)),2),some ((.sl 3 (.one I)),2),some (I,0)]],false)
  |6=>some ([.slot 11 I,.box 6 [some (I,0),some (I,0),some ((.sl 3 (.one I)),2),some ((.sl 84 k8),2),some (I,0),some ((.sl 54 k10),2),some ((.sl 41 k6),2),some ((.sl 80 k5),2),some ((.sl 3 (.one I)),2),some ((.sl 3 (.one I)),2),some (I,0)]],false)
  |_=>none,
 fun _=>none,
 fun _=>[]⟩) (n:=n) Tryz.func145 rfl (cn (jt n) (cn (fA n) (cn (YI n) (cn (mf n) (cn (jl n) (cn (lK n) (cn (YH n) nl))))))) fun x=>by kernel_rfl
def oO(n:Nat):Mv:=⟨⟨[.box [((.sl 5 (.one (.int .u8))),0),(I,0),(I,0)]],[(true,[(I,0),(I,0),((.sl 3 (.one I)),2),((.sl 84 k8),2),(I,0),((.sl 54 k10),2),((.sl 41 k6),2),((.sl 80 k5),2),((.sl 3 (.one I)),2),((.sl 3 (.one I)),2),(I,0)])]⟩,fun x=>N.TX n x.1 x.2.1 x.2.2⟩
def mR:An:=⟨fun _=>none,
 fun _=>none,
 fun b=>match b with
  |9=>some ([.box 0 [some ((.sl 5 (.one (.int .u8))),0),some (I,0),some (I,0)],.box 3 [some (I,0),some (I,0),some ((.sl 3 (.one I)),2)]],false)
  |_=>none,
 fun b=>match b with
  |4=>[3]
  |_=>[]⟩
theorem oW(n:Nat)(x:(oO n).s.ins.D):L5 (find tbl) (plain [(61,rJ n),(142,mG n),(143,mH n),(144,kD n),(145,oD n),(146,oE n)]) mR n Tryz.f90 (oO n).s x=N.TX n x.1 x.2.1 x.2.2:=by kernel_rfl
theorem pG(n:Nat):FO 90 (oO n):=mk (an:=mR) (n:=n) (sm:=(oO n).s) Tryz.func90 rfl (cn (gI n) (cn (lM n) (cn (lN n) (cn (mx n) (cn (my n) (cn (mz n) nl)))))) (oW n)
def sY(n:Nat):Mv:=⟨⟨[.box [((.sl 5 (.one (.int .u8))),0),(I,0),(I,0)],.val true [I,I,(.sl 3 (.one I))]],[(false,[(I,0)])]⟩,fun x=>N.Ub n x.1 x.2.1 x.2.2.1 x.2.2.2.1 x.2.2.2.2.1 x.2.2.2.2.2⟩
theorem n7(n:Nat):FO 63 (sY n):=mk (an:=⟨fun b=>match b with
  |2=>some [.slot 14 .bool,.box 0 [some ((.sl 5 (.one (.int .u8))),0),some (I,0),some (I,0)]]
  |_=>none,
 fun _=>none,
 fun _=>none,
 fun _=>[]⟩) (n:=n) Tryz.func63 rfl (cn (gI n) (cn (cd n) (cn (jl n) nl))) fun x=>by kernel_rfl
def sW(n:Nat):Mv:=⟨⟨[.box [((.sl 5 (.one (.int .u8))),0),(I,0),(I,0)]],[(false,[((.sl 129 k1),2)])]⟩,fun x=>N.VW n x.1 x.2.1 x.2.2⟩
theorem n6(n:Nat):FO 60 (sW n):=mk (an:=⟨fun _=>none,
 fun b=>match b with
  |0=>some ([.own 3 129 k1 2 false,.slot 4 I,.box 0 [some ((.sl 5 (.one (.int .u8))),0),some (I,0),some (I,0)]],false)
  |_=>none,
 fun b=>match b with
  |7=>some ([.own 3 129 k1 2 false,.box 0 [some ((.sl 5 (.one (.int .u8))),0),some (I,0),some (I,0)]],false)
  |_=>none,
 fun _=>[]⟩) (n:=n) Tryz.func60 rfl (cn (gI n) (cn (ez n) nl)) fun x=>by kernel_rfl
def pn(n:Nat):Mv:=⟨⟨[.val true [I,I,(.sl 129 k1),(.sl 102 k3),I]],[(true,[(I,0),(I,0),((.sl 129 k1),2),((.sl 102 k3),2),(I,0)])]⟩,fun x=>N.Py x.1 x.2.1 x.2.2.1 x.2.2.2.1 x.2.2.2.2⟩
theorem jn(n:Nat):FO 120 (pn n):=mk (an:=UA) (n:=n) Tryz.func120 rfl nl fun x=>by kernel_rfl
def ph(n:Nat):Mv:=⟨⟨[.val true [I,(.sl 54 k10)]],[(true,[(I,0),((.sl 54 k10),2)])]⟩,fun x=>N.RH n x.1 x.2⟩
theorem eu(n:Nat):FO 118 (ph n):=mk (an:=⟨fun _=>none,
 fun b=>match b with
  |0=>some ([.slot 4 I,.box 3 [some (I,0),some ((.sl 54 k10),2)]],false)
  |_=>none,
 fun _=>none,
 fun _=>[]⟩) (n:=n) Tryz.func118 rfl (cn (jn n) nl) fun x=>by kernel_rfl
def sg(n:Nat):Mv:=⟨⟨[.val true [I,I,(.sl 3 (.one I)),(.sl 84 k8),I,(.sl 54 k10),(.sl 41 k6),(.sl 80 k5),(.sl 3 (.one I)),(.sl 3 (.one I)),I]],[(true,[(I,0),(I,0),((.sl 3 (.one I)),2),((.sl 84 k8),2),(I,0),((.sl 54 k10),2),((.sl 41 k6),2),((.sl 80 k5),2),((.sl 3 (.one I)),2),((.sl 3 (.one I)),2),(I,0)])]⟩,fun x=>N.Ry n x.1 x.2.1 x.2.2.1 x.2.2.2.1 x.2.2.2.2.1 x.2.2.2.2.2.1 x.2.2.2.2.2.2.1 x.2.2.2.2.2.2.2.1 x.2.2.2.2.2.2.2.2.1 x.2.2.2.2.2.2.2.2.2.1 x.2.2.2.2.2.2.2.2.2.2⟩
theorem ke(n:Nat):FO 67 (sg n):=mk (an:=UA) (n:=n) Tryz.func67 rfl (cn (lK n) (cn (YH n) (cn (eu n) nl))) fun x=>by kernel_rfl
def qT(n:Nat):Mv:=⟨⟨[.val false [(.sl 129 k1)]],[(false,[(.bool,0)])]⟩,fun x=>N.Ql n x⟩
theorem lO(n:Nat):FO 159 (qT n):=mk (an:=⟨fun _=>none,
 fun b=>match b with
  |0=>some ([.slot 3 I],true)
  |_=>none,
 fun _=>none,
 fun _=>[]⟩) (n:=n) Tryz.func159 rfl (cn (YI n) nl) fun x=>by kernel_rfl
def qY(n:Nat):Mv:=⟨⟨[.val false [(.sl 102 k3)],.val false [I]],[(false,[(I,0)])]⟩,fun x=>N.Wy n x.1 x.2⟩
theorem nJ(n:Nat):FO 172 (qY n):=mk (an:=⟨fun _=>none,
 fun b=>match b with
  |0=>some ([.slot 5 I,.slot 6 I],false)
  |_=>none,
 fun b=>match b with
  |7=>some ([.slot 5 I],false)
  |_=>none,
 fun _=>[]⟩) (n:=n) Tryz.func172 rfl nl fun x=>by kernel_rfl
def qC(n:Nat):Mv:=⟨⟨[.val true [I,I,(.sl 129 k1),(.sl 102 k3),I]],[(false,[(.bool,0)])]⟩,fun x=>N.VL n x.1 x.2.1 x.2.2.1 x.2.2.2.1 x.2.2.2.2⟩
theorem mv(n:Nat):FO 135 (qC n):=mk (an:=⟨fun _=>none,
 fun b=>match b with
  |0=>some ([.slot 3 I,.slot 4 I],false)
  |2=>some ([.slot 3 I,.slot 5 I],true)
  |4=>some ([.slot 7 I],true)
  |_=>none,
 fun _=>none,
 fun _=>[]⟩) (n:=n) Tryz.func135 rfl (cn (YI n) (cn (lO n) (cn (nJ n) nl))) fun x=>by kernel_rfl
def s7(n:Nat):Mv:=⟨⟨[.val true [I,(.sl 54 k10)]],[(false,[(.bool,0)])]⟩,fun x=>N.Qf n x.1 x.2⟩
theorem ju(n:Nat):FO 84 (s7 n):=mk (an:=⟨fun _=>none,
 fun b=>match b with
  |0=>some ([.slot 3 I],true)
  |_=>none,
 fun _=>none,
 fun _=>[]⟩) (n:=n) Tryz.func84 rfl (cn (YI n) (cn (mv n) nl)) fun x=>by kernel_rfl
def qD(n:Nat):Mv:=⟨⟨[.val true [I,I,(.sl 3 (.one I))],.val false [I]],[(false,[(.bool,0)])]⟩,fun x=>N.VZ x.1 x.2.1 x.2.2.1 x.2.2.2⟩
theorem mw(n:Nat):FO 136 (qD n):=mk (an:=UA) (n:=n) Tryz.func136 rfl (cn (YI n) nl) fun x=>by kernel_rfl
def s9(n:Nat):Mv:=⟨⟨[.val true [I,I,(.sl 3 (.one I))],.val false [(.sl 41 k6)]],[(false,[(.bool,0)])]⟩,fun x=>N.T6 n x.1 x.2.1 x.2.2.1 x.2.2.2⟩
theorem mD(n:Nat):FO 85 (s9 n):=mk (an:=⟨fun _=>none,
 fun b=>match b with
  |0=>some ([.slot 5 I],true)
  |2=>some ([.slot 7 I],true)
  |_=>none,
 fun _=>none,
 fun _=>[]⟩) (n:=n) Tryz.func85 rfl (cn (jt n) (cn (YI n) (cn (mw n) nl))) fun x=>by kernel_rfl
def tA(n:Nat):Mv:=⟨⟨[.val false [(.sl 80 k5)]],[(false,[(.bool,0)])]⟩,fun x=>N.UZ n x⟩
theorem n9(n:Nat):FO 86 (tA n):=mk (an:=⟨fun _=>none,
 fun b=>match b with
  |0=>some ([.slot 3 I],true)
  |2=>some ([.slot 6 I],true)
  |_=>none,
 fun _=>none,
 fun _=>[]⟩) (n:=n) Tryz.func86 rfl (cn (YI n) nl) fun x=>by kernel_rfl
def tB(n:Nat):Mv:=⟨⟨[.val false [(.sl 3 (.one I))]],[(false,[(.bool,0)])]⟩,fun x=>N.Sr n x⟩
theorem pE(n:Nat):FO 87 (tB n):=mk (an:=⟨fun _=>none,
 fun b=>match b with
  |0=>some ([.slot 3 I],true)
  |_=>none,
 fun _=>none,
 fun _=>[]⟩) (n:=n) Tryz.func87 rfl (cn (YI n) nl) fun x=>by kernel_rfl
def qE(n:Nat):Mv:=⟨⟨[.val true [I,(.sl 54 k10)],.val false [I]],[(false,[(I,0)])]⟩,fun x=>N.Qm n x.1 x.2.1 x.2.2⟩
theorem dQ(n:Nat):FO 137 (qE n):=mk (an:=⟨fun _=>none,
 fun b=>match b with
  |0=>some ([.slot 5 I],true)
  |_=>none,
 fun _=>none,
 fun _=>[]⟩) (n:=n) Tryz.func137 rfl nl fun x=>by kernel_rfl
def qF(n:Nat):Mv:=⟨⟨[.val true [(.sl 84 k8)],.val false [I]],[(false,[(I,0)])]⟩,fun x=>N.QU n x.1 x.2⟩
theorem ew(n:Nat):FO 138 (qF n):=mk (an:=⟨fun _=>none,
 fun b=>match b with
  |0=>some ([.slot 5 I],true)
  |_=>none,
 fun _=>none,
 fun _=>[]⟩) (n:=n) Tryz.func138 rfl nl fun x=>by kernel_rfl
def oC(n:Nat):Mv:=⟨⟨[.val false [(.sl 3 (.one I))],.val false [I]],[(false,[(.bool,0)])]⟩,fun x=>N.QY n x.1 x.2⟩
theorem gn(n:Nat):FO 139 (oC n):=mk (an:=⟨fun _=>none,
 fun b=>match b with
  |0=>some ([.slot 5 I],true)
  |_=>none,
 fun _=>none,
 fun _=>[]⟩) (n:=n) Tryz.func139 rfl nl fun x=>by kernel_rfl
def pt(n:Nat):Mv:=⟨⟨[.val false [(.sl 102 k3)]],[(false,[((.sl 3 (.one I)),2)])]⟩,fun x=>N.T7 n x⟩
theorem jo(n:Nat):FO 123 (pt n):=mk (an:=⟨fun _=>none,
 fun b=>match b with
  |0=>some ([.own 3 3 (.one I) 2 false,.slot 4 I],false)
  |_=>none,
 fun b=>match b with
  |7=>some ([.own 3 3 (.one I) 2 false],false)
  |_=>none,
 fun _=>[]⟩) (n:=n) Tryz.func123 rfl (cn (gn n) nl) fun x=>by kernel_rfl
def qG(n:Nat):Mv:=⟨⟨[.val false [(.sl 41 k6)],.val false [I]],[(false,[(I,0)])]⟩,fun x=>N.SN n x.1 x.2⟩
theorem jq(n:Nat):FO 140 (qG n):=mk (an:=⟨fun _=>none,
 fun b=>match b with
  |0=>some ([.slot 5 I],true)
  |_=>none,
 fun _=>none,
 fun _=>[]⟩) (n:=n) Tryz.func140 rfl nl fun x=>by kernel_rfl
def qH(n:Nat):Mv:=⟨⟨[.val true [I,I,(.sl 3 (.one I)),(.sl 84 k8),I,(.sl 54 k10),(.sl 41 k6),(.sl 80 k5),(.sl 3 (.one I)),(.sl 3 (.one I)),I],.val true [I,I,I,I]],[(false,[(I,0)])]⟩,fun x=>N.RI n x.1 x.2.1 x.2.2.1 x.2.2.2.1 x.2.2.2.2.1 x.2.2.2.2.2.1 x.2.2.2.2.2.2.1 x.2.2.2.2.2.2.2.1 x.2.2.2.2.2.2.2.2.1 x.2.2.2.2.2.2.2.2.2.1 x.2.2.2.2.2.2.2.2.2.2.1 x.2.2.2.2.2.2.2.2.2.2.2.1 x.2.2.2.2.2.2.2.2.2.2.2.2.1 x.2.2.2.2.2.2.2.2.2.2.2.2.2.1 x.2.2.2.2.2.2.2.2.2.2.2.2.2.2⟩
theorem lL(n:Nat):FO 141 (qH n):=mk (an:=UA) (n:=n) Tryz.func141 rfl (cn (dQ n) (cn (ew n) nl)) fun x=>by kernel_rfl
def tD(n:Nat):Mv:=⟨⟨[.val true [I,I,(.sl 3 (.one I)),(.sl 84 k8),I,(.sl 54 k10),(.sl 41 k6),(.sl 80 k5),(.sl 3 (.one I)),(.sl 3 (.one I)),I],.val true [I,I,I,I]],[(false,[(.bool,0)])]⟩,fun x=>N.TB n x.1 x.2.1 x.2.2.1 x.2.2.2.1 x.2.2.2.2.1 x.2.2.2.2.2.1 x.2.2.2.2.2.2.1 x.2.2.2.2.2.2.2.1 x.2.2.2.2.2.2.2.2.1 x.2.2.2.2.2.2.2.2.2.1 x.2.2.2.2.2.2.2.2.2.2.1 x.2.2.2.2.2.2.2.2.2.2.2.1 x.2.2.2.2.2.2.2.2.2.2.2.2.1 x.2.2.2.2.2.2.2.2.2.2.2.2.2.1 x.2.2.2.2.2.2.2.2.2.2.2.2.2.2⟩
theorem pF(n:Nat):FO 89 (tD n):=mk (an:=UA) (n:=n) Tryz.func89 rfl (cn (jo n) (cn (dQ n) (cn (ew n) (cn (gn n) (cn (jq n) (cn (lL n) nl)))))) fun x=>by kernel_rfl
def sI(n:Nat):Mv:=⟨⟨[.val true [I,I,(.sl 3 (.one I)),(.sl 84 k8),I,(.sl 54 k10),(.sl 41 k6),(.sl 80 k5),(.sl 3 (.one I)),(.sl 3 (.one I)),I]],[(false,[(.bool,0)])]⟩,fun x=>N.S7 n x.1 x.2.1 x.2.2.1 x.2.2.2.1 x.2.2.2.2.1 x.2.2.2.2.2.1 x.2.2.2.2.2.2.1 x.2.2.2.2.2.2.2.1 x.2.2.2.2.2.2.2.2.1 x.2.2.2.2.2.2.2.2.2.1 x.2.2.2.2.2.2.2.2.2.2⟩
theorem mA(n:Nat):FO 37 (sI n):=mk (an:=⟨fun _=>none,
 fun b=>match b with
  |0=>some ([.slot 3 I],true)
  |_=>none,
 fun _=>none,
 fun _=>[]⟩) (n:=n) Tryz.func37 rfl (cn (jt n) (cn (fA n) (cn (ju n) (cn (mD n) (cn (n9 n) (cn (pE n) (cn (YI n) (cn (pF n) nl)))))))) fun x=>by kernel_rfl
def pj(n:Nat):Mv:=⟨⟨[.val true [I,I,(.sl 3 (.one I))],.val false [I]],[(false,[(.bool,0)])]⟩,fun x=>N.Su n x.1 x.2.1 x.2.2.1 x.2.2.2⟩
theorem jm(n:Nat):FO 119 (pj n):=mk (an:=UA) (n:=n) Tryz.func119 rfl (cn (jt n) (cn (YI n) nl)) fun x=>by kernel_rfl
def si(n:Nat):Mv:=⟨⟨[.val true [I,I,(.sl 3 (.one I))],.val false [I]],[(false,[(I,0)])]⟩,fun x=>N.Ww n x.1 x.2.1 x.2.2.1 x.2.2.2⟩
theorem o6(n:Nat):FO 68 (si n):=mk (an:=UA) (n:=n) Tryz.func68 rfl (cn (jm n) nl) fun x=>by kernel_rfl
def sj(n:Nat):Mv:=⟨⟨[.val true [I,(.sl 54 k10)]],[(true,[(I,0),((.sl 54 k10),2)])]⟩,fun x=>N.We n x.1 x.2⟩
theorem o7(n:Nat):FO 69 (sj n):=mk (an:=⟨fun _=>none,
 fun b=>match b with
  |0=>some ([.slot 4 I,.box 3 [some (I,0),some ((.sl 54 k10),2)]],false)
  |_=>none,
 fun b=>match b with
  |7=>some ([.box 3 [some (I,0),some ((.sl 54 k10),2)]],false)
  |_=>none,
 fun _=>[]⟩) (n:=n) Tryz.func69 rfl (cn (ju n) (cn (eu n) (cn (jn n) nl))) fun x=>by kernel_rfl
def qU(n:Nat):Mv:=⟨⟨[.val true [I,I,(.sl 88 k3)],.val false [(.sl 129 k1)]],[(false,[((.sl 102 k3),2)]),(false,[(I,0)])]⟩,fun x=>N.Ug n x.1 x.2.1 x.2.2.1 x.2.2.2⟩
theorem nF(n:Nat):FO 160 (qU n):=mk (an:=⟨fun _=>none,
 fun b=>match b with
  |0=>some ([.own 6 102 k3 2 false,.slot 7 I,.slot 8 I],false)
  |_=>none,
 fun b=>match b with
  |7=>some ([.own 6 102 k3 2 false,.slot 7 I],false)
  |27=>some ([.slot 10 I],false)
  |_=>none,
 fun _=>[]⟩) (n:=n) Tryz.func160 rfl (cn (jk n) nl) fun x=>by kernel_rfl
def pq(n:Nat):Mv:=⟨⟨[.val true [(.sl 84 k8)],.val false [(.sl 129 k1)]],[(false,[((.sl 102 k3),2)]),(false,[(.bool,0)])]⟩,fun x=>N.Sp n x.1 x.2⟩
theorem mi(n:Nat):FO 121 (pq n):=mk (an:=⟨fun _=>none,
 fun b=>match b with
  |0=>some ([.own 4 102 k3 2 false,.slot 5 .bool,.own 9 102 k3 2 false,.own 6 102 k3 2 false,.own 7 129 k1 2 false,.own 8 4 (.one .bool) 2 false],true)
  |2=>some ([.slot 10 I,.slot 11 I],false)
  |4=>some ([.slot 12 I,.slot 13 I,.slot 14 I],false)
  |6=>some ([.slot 19 I,.own 7 129 k1 2 false],false)
  |8=>some ([.slot 20 I,.own 7 129 k1 2 false],false)
  |_=>none,
 fun b=>match b with
  |19=>some ([.slot 12 I,.slot 13 I],false)
  |31=>some ([.own 7 129 k1 2 false],false)
  |_=>none,
 fun _=>[]⟩) (n:=n) Tryz.func121 rfl (cn (fA n) (cn (lO n) (cn (nF n) nl))) fun x=>by kernel_rfl
def p9(n:Nat):Mv:=⟨⟨[.val true [(.sl 84 k8)],.val false [I],.val false [I],.val false [I]],[(false,[(I,0)]),(true,[(I,0),(I,0),(I,0)]),(false,[(I,0)])]⟩,fun x=>N.Sw n x.1 x.2.1 x.2.2.1 x.2.2.2⟩
theorem gl(n:Nat):FO 129 (p9 n):=mk (an:=UA) (n:=n) Tryz.func129 rfl (cn (fA n) (cn (YI n) (cn (jk n) (cn (ew n) nl)))) fun x=>by kernel_rfl
def qX(n:Nat):Mv:=⟨⟨[.val false [(.sl 88 k3)],.val true [I,I,I]],[(false,[((.sl 88 k3),2)])]⟩,fun x=>N.T8 n x.1 x.2.1 x.2.2.1 x.2.2.2⟩
theorem nH(n:Nat):FO 163 (qX n):=mk (an:=⟨fun _=>none,
 fun b=>match b with
  |0=>some ([.own 5 88 k3 2 false,.slot 6 .bool,.slot 7 I],false)
  |_=>none,
 fun b=>match b with
  |7=>some ([.own 5 88 k3 2 false,.slot 6 .bool],false)
  |21=>some ([.own 5 88 k3 2 false,.slot 6 .bool],false)
  |36=>some ([.own 5 88 k3 2 false],false)
  |_=>none,
 fun _=>[]⟩) (n:=n) Tryz.func163 rfl nl fun x=>by kernel_rfl
def qA(n:Nat):Mv:=⟨⟨[.val true [(.sl 84 k8)],.val false [I],.val true [I,I,I]],[(true,[((.sl 84 k8),2)])]⟩,fun x=>N.R0 n x.1 x.2.1 x.2.2.1 x.2.2.2.1 x.2.2.2.2⟩
theorem gm(n:Nat):FO 130 (qA n):=mk (an:=UA) (n:=n) Tryz.func130 rfl (cn (YH n) (cn (nH n) nl)) fun x=>by kernel_rfl
def qo(n:Nat):Mv:=⟨⟨[.val true [(.sl 84 k8)],.val false [I],.val false [I],.val false [I]],[(true,[((.sl 84 k8),2)]),(false,[(I,0)])]⟩,fun x=>N.Ye n x.1 x.2.1 x.2.2.1 x.2.2.2⟩
theorem nV(n:Nat):FO 184 (qo n):=mk (an:=UA) (n:=n) Tryz.func184 rfl (cn (YH n) (cn (gl n) (cn (gm n) nl))) fun x=>by kernel_rfl
def qt(n:Nat):Mv:=⟨⟨[.val true [(.sl 84 k8)],.val false [I],.val false [I],.val false [I]],[(true,[((.sl 84 k8),2)]),(false,[(I,0)])]⟩,fun x=>N.Vy n x.1 x.2.1 x.2.2.1 x.2.2.2⟩
theorem nW(n:Nat):FO 185 (qt n):=mk (an:=UA) (n:=n) Tryz.func185 rfl (cn (YH n) (cn (gl n) (cn (gm n) nl))) fun x=>by kernel_rfl
def qu(n:Nat):Mv:=⟨⟨[.val true [(.sl 84 k8)],.val false [I],.val false [I],.val false [I]],[(true,[((.sl 84 k8),2)]),(false,[(I,0)])]⟩,fun x=>N.V0 n x.1 x.2.1 x.2.2.1 x.2.2.2⟩
theorem nX(n:Nat):FO 186 (qu n):=mk (an:=UA) (n:=n) Tryz.func186 rfl (cn (YH n) (cn (gl n) (cn (gm n) nl))) fun x=>by kernel_rfl
def qV(n:Nat):Mv:=⟨⟨[.val true [(.sl 84 k8)],.val false [(.sl 102 k3)],.val false [I]],[(true,[((.sl 84 k8),2)]),(false,[(.bool,0)])]⟩,fun x=>N.Rs n x.1 x.2.1 x.2.2⟩
theorem jr(n:Nat):FO 161 (qV n):=mk (an:=⟨fun _=>none,
 fun b=>match b with
  |0=>some ([.slot 9 I,.box 6 [some ((.sl 84 k8),2)],.box 8 [some ((.sl 84 k8),2)]],true)
  |_=>none,
 fun b=>match b with
  |24=>some ([.slot 11 I,.box 8 [some ((.sl 84 k8),2)]],false)
  |_=>none,
 fun _=>[]⟩) (n:=n) Tryz.func161 rfl (cn (YH n) (cn (nV n) (cn (nW n) (cn (nX n) nl)))) fun x=>by kernel_rfl
def pr(n:Nat):Mv:=⟨⟨[.val true [(.sl 84 k8)],.val false [(.sl 102 k3)]],[(true,[((.sl 84 k8),2)]),(false,[(.bool,0)])]⟩,fun x=>N.Vv n x.1 x.2⟩
theorem mj(n:Nat):FO 122 (pr n):=mk (an:=UA) (n:=n) Tryz.func122 rfl (cn (jr n) nl) fun x=>by kernel_rfl
def sn(n:Nat):Mv:=⟨⟨[.val true [(.sl 84 k8)],.val true [I,(.sl 54 k10)],.val false [I],.val false [(.sl 129 k1)]],[(true,[((.sl 84 k8),2)]),(true,[(I,0),((.sl 54 k10),2)]),(false,[(I,0)])]⟩,fun x=>N.Sn n x.1 x.2.1 x.2.2.1 x.2.2.2.1 x.2.2.2.2⟩
theorem o8(n:Nat):FO 70 (sn n):=mk (an:=UA) (n:=n) Tryz.func70 rfl (cn (fA n) (cn (ju n) (cn (YI n) (cn (YH n) (cn (eu n) (cn (mi n) (cn (mj n) nl))))))) fun x=>by kernel_rfl
def sq(n:Nat):Mv:=⟨⟨[.val true [I,I,(.sl 129 k1),(.sl 102 k3),I]],[(false,[((.sl 80 k5),2)])]⟩,fun x=>N.V1 n x.1 x.2.1 x.2.2.1 x.2.2.2.1 x.2.2.2.2⟩
theorem o9(n:Nat):FO 71 (sq n):=mk (an:=⟨fun _=>none,
 fun b=>match b with
  |0=>some ([.own 3 80 k5 2 false,.slot 5 I],false)
  |_=>none,
 fun _=>none,
 fun _=>[]⟩) (n:=n) Tryz.func71 rfl (cn (jo n) nl) fun x=>by kernel_rfl
def sA(n:Nat):Mv:=⟨⟨[.val true [I,I,(.sl 3 (.one I)),(.sl 84 k8),I,(.sl 54 k10),(.sl 41 k6),(.sl 80 k5),(.sl 3 (.one I)),(.sl 3 (.one I)),I],.val false [I],.val false [(.sl 129 k1)]],[(true,[(I,0),(I,0),((.sl 3 (.one I)),2),((.sl 84 k8),2),(I,0),((.sl 54 k10),2),((.sl 41 k6),2),((.sl 80 k5),2),((.sl 3 (.one I)),2),((.sl 3 (.one I)),2),(I,0)]),(false,[(I,0)])]⟩,fun x=>N.XT n x.1 x.2.1 x.2.2.1 x.2.2.2.1 x.2.2.2.2.1 x.2.2.2.2.2.1 x.2.2.2.2.2.2.1 x.2.2.2.2.2.2.2.1 x.2.2.2.2.2.2.2.2.1 x.2.2.2.2.2.2.2.2.2.1 x.2.2.2.2.2.2.2.2.2.2.1 x.2.2.2.2.2.2.2.2.2.2.2.1 x.2.2.2.2.2.2.2.2.2.2.2.2⟩
theorem nv(n:Nat):FO 24 (sA n):=mk (an:=⟨fun _=>none,
 fun _=>none,
 fun b=>match b with
  |18=>some ([.box 9 [some (I,0),some ((.sl 54 k10),0)]],false)
  |_=>none,
 fun _=>[]⟩) (n:=n) Tryz.func24 rfl (cn (mA n) (cn (ke n) (cn (o6 n) (cn (o7 n) (cn (o8 n) (cn (o9 n) nl)))))) fun x=>by kernel_rfl
def qb(n:Nat):Mv:=⟨⟨[.val true [(.sl 84 k8)],.val false [(.sl 102 k3)]],[(true,[((.sl 84 k8),2)]),(false,[(.bool,0)])]⟩,fun x=>N.Tm n x.1 x.2⟩
theorem nM(n:Nat):FO 175 (qb n):=mk (an:=UA) (n:=n) Tryz.func175 rfl (cn (jr n) nl) fun x=>by kernel_rfl
def qI(n:Nat):Mv:=⟨⟨[.val true [(.sl 84 k8)],.val true [I,(.sl 54 k10)],.val false [I]],[(true,[((.sl 84 k8),2)]),(true,[(I,0),((.sl 54 k10),2)]),(false,[(.bool,0)])]⟩,fun x=>N.VK n x.1 x.2.1 x.2.2.1 x.2.2.2⟩
theorem m4(n:Nat):FO 147 (qI n):=mk (an:=UA) (n:=n) Tryz.func147 rfl (cn (fA n) (cn (ju n) (cn (YH n) (cn (eu n) (cn (dQ n) (cn (nM n) nl)))))) fun x=>by kernel_rfl
def tE(n:Nat):Mv:=⟨⟨[.val true [I,I,(.sl 3 (.one I)),(.sl 84 k8),I,(.sl 54 k10),(.sl 41 k6),(.sl 80 k5),(.sl 3 (.one I)),(.sl 3 (.one I)),I],.val false [I]],[(true,[(I,0),(I,0),((.sl 3 (.one I)),2),((.sl 84 k8),2),(I,0),((.sl 54 k10),2),((.sl 41 k6),2),((.sl 80 k5),2),((.sl 3 (.one I)),2),((.sl 3 (.one I)),2),(I,0)]),(false,[(.bool,0)])]⟩,fun x=>N.Yd n x.1 x.2.1 x.2.2.1 x.2.2.2.1 x.2.2.2.2.1 x.2.2.2.2.2.1 x.2.2.2.2.2.2.1 x.2.2.2.2.2.2.2.1 x.2.2.2.2.2.2.2.2.1 x.2.2.2.2.2.2.2.2.2.1 x.2.2.2.2.2.2.2.2.2.2.1 x.2.2.2.2.2.2.2.2.2.2.2⟩
theorem pH(n:Nat):FO 91 (tE n):=mk (an:=⟨fun _=>none,
 fun b=>match b with
  |0=>some ([.slot 8 I,.own 9 80 k5 2 false,.slot 10 I,.box 4 [some (I,0),some (I,0),some ((.sl 3 (.one I)),2),some ((.sl 84 k8),2),some (I,0),some ((.sl 54 k10),2),some ((.sl 41 k6),2),some ((.sl 80 k5),2),some ((.sl 3 (.one I)),2),some ((.sl 3 (.one I)),2),some (I,0)],.box 6 [some (I,0),some (I,0),some ((.sl 3 (.one I)),2),some ((.sl 84 k8),2),some (I,0),some ((.sl 54 k10),2),some ((.sl 41 k6),2),some ((.sl 80 k5),2),some ((.sl 3 (.one I)),2),some ((.sl 3 (.one I)),2),some (I,0)]],true)
  |_=>none,
 fun b=>match b with
  |7=>some ([.slot 8 I,.own 9 80 k5 2 false,.box 4 [some (I,0),some (I,0),some ((.sl 3 (.one I)),2),some ((.sl 84 k8),2),some (I,0),some ((.sl 54 k10),2),some ((.sl 41 k6),2),some ((.sl 80 k5),2),some ((.sl 3 (.one I)),2),some ((.sl 3 (.one I)),2),some (I,0)],.box 6 [some (I,0),some (I,0),some ((.sl 3 (.one I)),2),some ((.sl 84 k8),2),some (I,0),some ((.sl 54 k10),2),some ((.sl 41 k6),2),some ((.sl 80 k5),2),some ((.sl 3 (.one I)),2),some ((.sl 3 (.one I)),2),some (I,0)]],true)
  |_=>none,
 fun _=>[]⟩) (n:=n) Tryz.func91 rfl (cn (mA n) (cn (ke n) (cn (jo n) (cn (dQ n) (cn (m4 n) nl))))) fun x=>by kernel_rfl
def sy(n:Nat):Mv:=⟨⟨[.val true [(.sl 84 k8)],.val false [I],.val false [I],.val false [I]],[(true,[((.sl 84 k8),2)]),(false,[(I,0)])]⟩,fun x=>N.Xo n x.1 x.2.1 x.2.2.1 x.2.2.2⟩
theorem pD(n:Nat):FO 80 (sy n):=mk (an:=UA) (n:=n) Tryz.func80 rfl (cn (YH n) (cn (gl n) (cn (gm n) nl))) fun x=>by kernel_rfl
def sH(n:Nat):Mv:=⟨⟨[.val true [I,I,(.sl 3 (.one I)),(.sl 84 k8),I,(.sl 54 k10),(.sl 41 k6),(.sl 80 k5),(.sl 3 (.one I)),(.sl 3 (.one I)),I],.val false [I],.val false [I],.val false [I]],[(true,[(I,0),(I,0),((.sl 3 (.one I)),2),((.sl 84 k8),2),(I,0),((.sl 54 k10),2),((.sl 41 k6),2),((.sl 80 k5),2),((.sl 3 (.one I)),2),((.sl 3 (.one I)),2),(I,0)]),(false,[(I,0)])]⟩,fun x=>N.Vz n x.1 x.2.1 x.2.2.1 x.2.2.2.1 x.2.2.2.2.1 x.2.2.2.2.2.1 x.2.2.2.2.2.2.1 x.2.2.2.2.2.2.2.1 x.2.2.2.2.2.2.2.2.1 x.2.2.2.2.2.2.2.2.2.1 x.2.2.2.2.2.2.2.2.2.2.1 x.2.2.2.2.2.2.2.2.2.2.2.1 x.2.2.2.2.2.2.2.2.2.2.2.2.1 x.2.2.2.2.2.2.2.2.2.2.2.2.2⟩
theorem od(n:Nat):FO 33 (sH n):=mk (an:=UA) (n:=n) Tryz.func33 rfl (cn (mA n) (cn (ke n) (cn (pD n) nl))) fun x=>by kernel_rfl
def qc(n:Nat):Mv:=⟨⟨[.val false [(.sl 41 k6)],.val false [(.sl 80 k5)]],[(false,[((.sl 3 (.one I)),2)])]⟩,fun x=>N.V3 n x.1 x.2⟩
theorem nN(n:Nat):FO 176 (qc n):=mk (an:=⟨fun _=>none,
 fun b=>match b with
  |0=>some ([.own 5 3 (.one I) 2 false,.slot 6 I],false)
  |2=>some ([.slot 7 .bool,.slot 8 I],false)
  |_=>none,
 fun b=>match b with
  |7=>some ([.own 5 3 (.one I) 2 false],false)
  |_=>none,
 fun _=>[]⟩) (n:=n) Tryz.func176 rfl nl fun x=>by kernel_rfl
def qe(n:Nat):Mv:=⟨⟨[.val true [(.sl 84 k8)],.val false [(.sl 80 k5)],.val false [I]],[(false,[((.sl 3 (.one I)),2)])]⟩,fun x=>N.VM n x.1 x.2.1 x.2.2⟩
theorem nO(n:Nat):FO 177 (qe n):=mk (an:=⟨fun _=>none,
 fun b=>match b with
  |0=>some ([.own 8 3 (.one I) 2 false,.slot 9 I],false)
  |2=>some ([.own 7 3 (.one I) 2 false,.own 8 3 (.one I) 2 false,.slot 10 I],false)
  |_=>none,
 fun b=>match b with
  |7=>some ([.own 8 3 (.one I) 2 false],false)
  |13=>some ([.own 7 3 (.one I) 2 false,.own 8 3 (.one I) 2 false],false)
  |_=>none,
 fun _=>[]⟩) (n:=n) Tryz.func177 rfl (cn (ew n) (cn (gn n) nl)) fun x=>by kernel_rfl
def rH(n:Nat):Mv:=⟨⟨[.val true [I,I,(.sl 3 (.one I))],.val false [I]],[(false,[((.sl 3 (.one I)),2)])]⟩,fun x=>N.TY x.1 x.2.1 x.2.2.1 x.2.2.2⟩
theorem nt(n:Nat):FO 235 (rH n):=mk (an:=⟨fun _=>none,
 fun _=>none,
 fun b=>match b with
  |15=>some ([.own 5 3 (.one I) 2 false],false)
  |21=>some ([.own 5 3 (.one I) 2 false],false)
  |27=>some ([.own 5 3 (.one I) 2 false],false)
  |33=>some ([.own 5 3 (.one I) 2 false],false)
  |_=>none,
 fun _=>[]⟩) (n:=n) Tryz.func235 rfl nl fun x=>by kernel_rfl
def rF(n:Nat):Mv:=⟨⟨[.val true [I,I,(.sl 3 (.one I))],.val false [I],.val false [.bool]],[(false,[((.sl 3 (.one I)),2)])]⟩,fun x=>N.VY n x.1 x.2.1 x.2.2.1 x.2.2.2.1 x.2.2.2.2⟩
theorem lR(n:Nat):FO 232 (rF n):=mk (an:=⟨fun _=>none,
 fun b=>match b with
  |0=>some ([.own 7 3 (.one I) 2 false,.slot 9 I],false)
  |_=>none,
 fun b=>match b with
  |7=>some ([.own 7 3 (.one I) 2 false],false)
  |_=>none,
 fun _=>[]⟩) (n:=n) Tryz.func232 rfl (cn (nt n) nl) fun x=>by kernel_rfl
def rE(n:Nat):Mv:=⟨⟨[.val true [I,I,(.sl 3 (.one I))],.val false [I],.val false [.bool]],[(false,[((.sl 3 (.one I)),2)])]⟩,fun x=>N.TC n x.1 x.2.1 x.2.2.1 x.2.2.2.1 x.2.2.2.2⟩
theorem lQ(n:Nat):FO 218 (rE n):=mk (an:=⟨fun _=>none,
 fun b=>match b with
  |0=>some ([.own 7 3 (.one I) 2 false,.slot 8 I],false)
  |2=>some ([.own 9 3 (.one I) 2 false,.slot 10 I,.own 7 3 (.one I) 2 false],false)
  |4=>some ([.own 9 3 (.one I) 2 false,.slot 13 I,.own 7 3 (.one I) 2 false],false)
  |_=>none,
 fun b=>match b with
  |13=>some ([.own 9 3 (.one I) 2 false,.own 7 3 (.one I) 2 false],false)
  |19=>some ([.own 9 3 (.one I) 2 false,.own 7 3 (.one I) 2 false],false)
  |_=>none,
 fun _=>[]⟩) (n:=n) Tryz.func218 rfl (cn (lR n) nl) fun x=>by kernel_rfl
def rA(n:Nat):Mv:=⟨⟨[.val true [I,I,(.sl 3 (.one I))],.val false [I],.val false [.bool]],[(false,[((.sl 3 (.one I)),2)])]⟩,fun x=>N.Wa n x.1 x.2.1 x.2.2.1 x.2.2.2.1 x.2.2.2.2⟩
theorem nh(n:Nat):FO 206 (rA n):=mk (an:=UA) (n:=n) Tryz.func206 rfl (cn (jm n) (cn (lQ n) nl)) fun x=>by kernel_rfl
def qv(n:Nat):Mv:=⟨⟨[.val true [I,I,(.sl 3 (.one I))],.val false [I],.val false [I]],[(false,[(I,0)])]⟩,fun x=>N.Sq n x.1 x.2.1 x.2.2.1 x.2.2.2.1 x.2.2.2.2⟩
theorem nY(n:Nat):FO 194 (qv n):=mk (an:=UA) (n:=n) Tryz.func194 rfl (cn (jm n) (cn (nh n) nl)) fun x=>by kernel_rfl
def qg(n:Nat):Mv:=⟨⟨[.val true [I,I,(.sl 3 (.one I))],.val false [I],.val false [I]],[(false,[(I,0)])]⟩,fun x=>N.V2 n x.1 x.2.1 x.2.2.1 x.2.2.2.1 x.2.2.2.2⟩
theorem nP(n:Nat):FO 178 (qg n):=mk (an:=UA) (n:=n) Tryz.func178 rfl (cn (nY n) nl) fun x=>by kernel_rfl
def qw(n:Nat):Mv:=⟨⟨[.val false [(.sl 24 (.one (.sl 3 (.one I))))]],[(false,[(.bool,0)])]⟩,fun x=>N.Vu n x⟩
theorem nZ(n:Nat):FO 195 (qw n):=mk (an:=⟨fun _=>none,
 fun b=>match b with
  |0=>some ([.slot 3 I],true)
  |2=>some ([.slot 4 I],true)
  |_=>none,
 fun _=>none,
 fun _=>[]⟩) (n:=n) Tryz.func195 rfl (cn (YI n) nl) fun x=>by kernel_rfl
def rB(n:Nat):Mv:=⟨⟨[.val false [(.sl 24 (.one (.sl 3 (.one I))))],.row false [((.sl 3 (.one I)),2)],.row false [((.sl 3 (.one I)),2)],.row false [((.sl 3 (.one I)),2)],.val false [I]],[]⟩,fun x=>N.W4 n x.1 x.2.1 x.2.2.1 x.2.2.2.1 x.2.2.2.2⟩
theorem ni(n:Nat):FO 207 (rB n):=mk (an:=⟨fun _=>none,
 fun b=>match b with
  |0=>some ([.slot 14 I,.own 11 3 (.one I) 2 false],false)
  |2=>some ([.slot 15 I,.own 1 3 (.one I) 2 true,.own 2 3 (.one I) 2 true,.own 11 3 (.one I) 2 false,.own 12 3 (.one I) 2 false,.own 13 4 (.one .bool) 2 false],false)
  |4=>some ([.slot 17 I,.slot 18 I,.slot 19 I,.own 11 3 (.one I) 2 false,.own 12 3 (.one I) 2 false],false)
  |6=>some ([.slot 21 I,.own 1 3 (.one I) 2 true,.own 2 3 (.one I) 2 true,.own 11 3 (.one I) 2 false],false)
  |8=>some ([.slot 15 I,.own 3 3 (.one I) 2 true],false)
  |_=>none,
 fun b=>match b with
  |19=>some ([.slot 17 I,.slot 18 I,.own 11 3 (.one I) 2 false,.own 12 3 (.one I) 2 false],false)
  |25=>some ([.own 1 3 (.one I) 2 true,.own 2 3 (.one I) 2 true,.own 11 3 (.one I) 2 false],false)
  |57=>some ([.own 11 3 (.one I) 2 false,.own 12 3 (.one I) 2 false],false)
  |_=>none,
 fun _=>[]⟩) (n:=n) Tryz.func207 rfl nl fun x=>by kernel_rfl
def qx(n:Nat):Mv:=⟨⟨[.val false [(.sl 24 (.one (.sl 3 (.one I))))]],[(false,[(I,0)])]⟩,fun x=>N.Rz n x⟩
theorem na(n:Nat):FO 196 (qx n):=mk (an:=⟨fun _=>none,
 fun b=>match b with
  |0=>some ([.slot 8 I,.own 5 3 (.one I) 2 false,.own 6 3 (.one I) 2 false,.own 7 3 (.one I) 2 false],false)
  |2=>some ([.slot 9 I,.slot 10 I],false)
  |_=>none,
 fun b=>match b with
  |13=>some ([.slot 9 I],false)
  |_=>none,
 fun _=>[]⟩) (n:=n) Tryz.func196 rfl (cn (ni n) nl) fun x=>by kernel_rfl
def qy(n:Nat):Mv:=⟨⟨[.val false [(.sl 24 (.one (.sl 3 (.one I))))],.val false [I]],[(false,[((.sl 24 (.one (.sl 3 (.one I)))),0)])]⟩,fun x=>N.Rn n x.1 x.2⟩
theorem nc(n:Nat):FO 197 (qy n):=mk (an:=⟨fun _=>none,
 fun b=>match b with
  |0=>some ([.own 5 24 (.one (.sl 3 (.one I))) 2 false,.slot 6 I],false)
  |_=>none,
 fun _=>none,
 fun _=>[]⟩) (n:=n) Tryz.func197 rfl nl fun x=>by kernel_rfl
def qh(n:Nat):Mv:=⟨⟨[.val false [(.sl 24 (.one (.sl 3 (.one I))))]],[(false,[((.sl 3 (.one I)),2)]),(false,[(I,0)])]⟩,fun x=>N.Wb n x⟩
theorem nQ(n:Nat):FO 179 (qh n):=mk (an:=⟨fun _=>none,
 fun b=>match b with
  |0=>some ([.own 8 3 (.one I) 2 false,.slot 9 I],false)
  |2=>some ([.own 4 3 (.one I) 2 false,.slot 6 I,.slot 7 (.sl 24 (.one (.sl 3 (.one I)))),.own 8 3 (.one I) 2 false],false)
  |4=>some ([.own 4 3 (.one I) 2 false,.slot 6 I,.slot 7 (.sl 24 (.one (.sl 3 (.one I)))),.own 8 3 (.one I) 2 false,.slot 10 I],false)
  |_=>none,
 fun _=>none,
 fun _=>[]⟩) (n:=n) Tryz.func179 rfl (cn (nZ n) (cn (na n) (cn (nc n) nl))) fun x=>by kernel_rfl
def qJ(n:Nat):Mv:=⟨⟨[.val true [I,I,(.sl 3 (.one I))],.val true [(.sl 84 k8)],.val false [(.sl 41 k6)],.val false [(.sl 80 k5)]],[(false,[((.sl 41 k6),2)]),(false,[((.sl 80 k5),2)])]⟩,fun x=>N.VD n x.1 x.2.1 x.2.2.1 x.2.2.2.1 x.2.2.2.2.1 x.2.2.2.2.2⟩
theorem m5(n:Nat):FO 148 (qJ n):=mk (an:=⟨fun _=>none,
 fun b=>match b with
  |0=>some ([.own 14 24 (.one (.sl 3 (.one I))) 2 false,.slot 15 I],false)
  |2=>some ([.own 16 3 (.one I) 2 false,.slot 17 I],false)
  |4=>some ([.slot 20 I,.own 10 41 k6 2 false,.own 11 80 k5 2 false],false)
  |_=>none,
 fun b=>match b with
  |19=>some ([.own 10 41 k6 2 false,.own 11 80 k5 2 false],false)
  |_=>none,
 fun _=>[]⟩) (n:=n) Tryz.func148 rfl (cn (fA n) (cn (mD n) (cn (n9 n) (cn (ew n) (cn (nN n) (cn (nO n) (cn (nP n) (cn (nQ n) nl)))))))) fun x=>by kernel_rfl
def rC(n:Nat):Mv:=⟨⟨[.val true [I,I,(.sl 3 (.one I))],.val true [I,I,I,.bool,I]],[(false,[((.sl 3 (.one I)),2)])]⟩,fun x=>N.TE n x.1 x.2.1 x.2.2.1 x.2.2.2.1 x.2.2.2.2.1 x.2.2.2.2.2.1 x.2.2.2.2.2.2.1 x.2.2.2.2.2.2.2⟩
theorem nj(n:Nat):FO 208 (rC n):=mk (an:=UA) (n:=n) Tryz.func208 rfl (cn (lQ n) nl) fun x=>by kernel_rfl
def rD(n:Nat):Mv:=⟨⟨[.val false [(.sl 41 k6)]],[(false,[((.sl 3 (.one I)),2)])]⟩,fun x=>N.Wf n x⟩
theorem nk(n:Nat):FO 209 (rD n):=mk (an:=⟨fun _=>none,
 fun b=>match b with
  |0=>some ([.own 3 3 (.one I) 2 false,.slot 4 I],false)
  |2=>some ([.slot 5 I,.own 3 3 (.one I) 2 false],false)
  |_=>none,
 fun _=>none,
 fun _=>[]⟩) (n:=n) Tryz.func209 rfl nl fun x=>by kernel_rfl
def rI(n:Nat):Mv:=⟨⟨[.val true [I,I,I,.bool,I],.val false [(.sl 3 (.one I))],.val false [I]],[(false,[(I,0)])]⟩,fun x=>N.T9 x.1 x.2.1 x.2.2.1 x.2.2.2.1 x.2.2.2.2.1 x.2.2.2.2.2.1 x.2.2.2.2.2.2⟩
theorem nu(n:Nat):FO 236 (rI n):=mk (an:=UA) (n:=n) Tryz.func236 rfl nl fun x=>by kernel_rfl
def rG(n:Nat):Mv:=⟨⟨[.val true [I,I,I,.bool,I],.val false [(.sl 3 (.one I))],.val false [I],.val false [I]],[(false,[(.bool,0)])]⟩,fun x=>N.VQ x.1 x.2.1 x.2.2.1 x.2.2.2.1 x.2.2.2.2.1 x.2.2.2.2.2.1 x.2.2.2.2.2.2.1 x.2.2.2.2.2.2.2⟩
theorem ns(n:Nat):FO 233 (rG n):=mk (an:=UA) (n:=n) Tryz.func233 rfl (cn (nu n) nl) fun x=>by kernel_rfl
def oF(n:Nat):Mv:=⟨⟨[.val true [I,I,(.sl 3 (.one I))],.val true [I,I,I,.bool,I],.val false [(.sl 3 (.one I))]],[(false,[((.sl 3 (.one I)),2)])]⟩,fun x=>N.Ro n x.1 x.2.1 x.2.2.1 x.2.2.2.1 x.2.2.2.2.1 x.2.2.2.2.2.1 x.2.2.2.2.2.2.1 x.2.2.2.2.2.2.2.1 x.2.2.2.2.2.2.2.2⟩
theorem nq(n:Nat):FO 219 (oF n):=mk (an:=⟨fun _=>none,
 fun b=>match b with
  |0=>some ([.own 7 3 (.one I) 2 false,.slot 9 I],false)
  |2=>some ([.own 10 3 (.one I) 2 false,.slot 11 I],false)
  |4=>some ([.slot 12 I,.own 10 3 (.one I) 2 false],false)
  |_=>none,
 fun b=>match b with
  |7=>some ([.own 7 3 (.one I) 2 false],false)
  |_=>none,
 fun _=>[]⟩) (n:=n) Tryz.func219 rfl (cn (lR n) (cn (ns n) nl)) fun x=>by kernel_rfl
def oG(n:Nat):Mv:=⟨⟨[.box [(I,0),(I,0),((.sl 3 (.one I)),0),((.sl 41 k6),0),((.sl 24 (.one (.sl 3 (.one I)))),2),((.sl 3 (.one I)),2)],.val false [I]],[(false,[(I,0)])]⟩,fun x=>N.Wi n x.1 x.2.1 x.2.2.1 x.2.2.2.1 x.2.2.2.2.1 x.2.2.2.2.2.1 x.2.2.2.2.2.2⟩
theorem nr(n:Nat):FO 220 (oG n):=mk (an:=⟨fun _=>none,
 fun b=>match b with
  |0=>some ([.slot 5 I],true)
  |_=>none,
 fun _=>none,
 fun _=>[]⟩) (n:=n) Tryz.func220 rfl nl fun x=>by kernel_rfl
def jA(n:Nat):Mv:=⟨⟨[.box [(I,0),(I,0),((.sl 3 (.one I)),0),((.sl 41 k6),0),((.sl 24 (.one (.sl 3 (.one I)))),2),((.sl 3 (.one I)),2)],.val false [I],.val false [I]],[(false,[(.bool,0)])]⟩,fun x=>N.QZ n x.1 x.2.1 x.2.2.1 x.2.2.2.1 x.2.2.2.2.1 x.2.2.2.2.2.1 x.2.2.2.2.2.2.1 x.2.2.2.2.2.2.2⟩
def lF:An:=⟨fun b=>match b with
  |10=>some [.slot 72 .bool,.box 0 [some (I,0),some (I,0),some ((.sl 3 (.one I)),0),some ((.sl 41 k6),0),some ((.sl 24 (.one (.sl 3 (.one I)))),2),some ((.sl 3 (.one I)),2)]]
  |_=>none,
 fun b=>match b with
  |0=>some ([.slot 9 I,.box 0 [some (I,0),some (I,0),some ((.sl 3 (.one I)),0),some ((.sl 41 k6),0),some ((.sl 24 (.one (.sl 3 (.one I)))),2),some ((.sl 3 (.one I)),2)]],true)
  |_=>none,
 fun b=>match b with
  |7=>some ([.box 0 [some (I,0),some (I,0),some ((.sl 3 (.one I)),0),some ((.sl 41 k6),0),some ((.sl 24 (.one (.sl 3 (.one I)))),2),some ((.sl 3 (.one I)),2)]],true)
  |_=>none,
 fun _=>[]⟩
theorem mV(n:Nat)(x:(jA n).s.ins.D):L5 (find tbl) (plain [(139,oC n),(210,jA n),(219,oF n),(220,oG n)]) lF n Tryz.f210 (jA n).s x=N.QZ (n+1) x.1 x.2.1 x.2.2.1 x.2.2.2.1 x.2.2.2.2.1 x.2.2.2.2.2.1 x.2.2.2.2.2.2.1 x.2.2.2.2.2.2.2:=by kernel_rfl
theorem np(n:Nat):FO 210 (jA n):=by
 induction n with
 |zero=>exact⟨Oa,_,_,Tryz.func210,rfl,by kernel_rfl⟩
 |succ n ih=>exact mk (an:=lF) (n:=n) (sm:=(jA n).s) (F:=fun(x:(jA n).s.ins.D)=>N.QZ (n+1) x.1 x.2.1 x.2.2.1 x.2.2.2.1 x.2.2.2.2.1 x.2.2.2.2.2.1 x.2.2.2.2.2.2.1 x.2.2.2.2.2.2.2) Tryz.func210 rfl (cn (gn n) (cn ih (cn (nq n) (cn (nr n) nl)))) (mV n)
def qz(n:Nat):Mv:=⟨⟨[.val true [I,I,(.sl 3 (.one I))],.val false [(.sl 41 k6)]],[(false,[((.sl 3 (.one I)),2)])]⟩,fun x=>N.W7 n x.1 x.2.1 x.2.2.1 x.2.2.2⟩
theorem ng(n:Nat):FO 198 (qz n):=mk (an:=⟨fun _=>none,
 fun b=>match b with
  |0=>some ([.slot 6 I,.box 12 [some (I,0),some (I,0),some ((.sl 3 (.one I)),0),some ((.sl 41 k6),0),some ((.sl 24 (.one (.sl 3 (.one I)))),2),some ((.sl 3 (.one I)),2)]],false)
  |2=>some ([.slot 8 I,.box 12 [some (I,0),some (I,0),some ((.sl 3 (.one I)),0),some ((.sl 41 k6),0),some ((.sl 24 (.one (.sl 3 (.one I)))),2),some ((.sl 3 (.one I)),2)]],false)
  |_=>none,
 fun b=>match b with
  |13=>some ([.box 12 [some (I,0),some (I,0),some ((.sl 3 (.one I)),0),some ((.sl 41 k6),0),some ((.sl 24 (.one (.sl 3 (.one I)))),2),some ((.sl 3 (.one I)),2)]],false)
  |_=>none,
 fun _=>[]⟩) (n:=n) Tryz.func198 rfl (cn (nj n) (cn (nk n) (cn (np n) nl))) fun x=>by kernel_rfl
def qi(n:Nat):Mv:=⟨⟨[.val true [I,I,(.sl 3 (.one I))],.val false [(.sl 41 k6)]],[(false,[((.sl 41 k6),2)])]⟩,fun x=>N.Uh n x.1 x.2.1 x.2.2.1 x.2.2.2⟩
theorem nR(n:Nat):FO 180 (qi n):=mk (an:=⟨fun _=>none,
 fun b=>match b with
  |0=>some ([.own 6 41 k6 2 false,.slot 7 I],false)
  |_=>none,
 fun b=>match b with
  |10=>some ([.box 8 [some (I,0),some (I,0),some (I,0),some (.bool,0),some (I,0)]],false)
  |_=>none,
 fun _=>[]⟩) (n:=n) Tryz.func180 rfl (cn (ng n) nl) fun x=>by kernel_rfl
def qK(n:Nat):Mv:=⟨⟨[.val true [I,I,(.sl 3 (.one I))],.val false [(.sl 41 k6)]],[(false,[((.sl 41 k6),2)])]⟩,fun x=>N.Vt n x.1 x.2.1 x.2.2.1 x.2.2.2⟩
theorem m6(n:Nat):FO 149 (qK n):=mk (an:=UA) (n:=n) Tryz.func149 rfl (cn (mD n) (cn (nR n) nl)) fun x=>by kernel_rfl
def qP(n:Nat):Mv:=⟨⟨[.val true [I,(.sl 54 k10)],.val false [I]],[(true,[(I,0),(I,0),((.sl 129 k1),2),((.sl 102 k3),2),(I,0)]),(false,[(.bool,0)])]⟩,fun x=>N.Vw n x.1 x.2.1 x.2.2⟩
theorem nB(n:Nat):FO 154 (qP n):=mk (an:=UA) (n:=n) Tryz.func154 rfl (cn (jn n) (cn (dQ n) nl)) fun x=>by kernel_rfl
def qj(n:Nat):Mv:=⟨⟨[.val true [I,I,(.sl 129 k1),(.sl 102 k3),I],.val false [I]],[(false,[((.sl 102 k3),2)])]⟩,fun x=>N.Vx n x.1 x.2.1 x.2.2.1 x.2.2.2.1 x.2.2.2.2.1 x.2.2.2.2.2⟩
theorem nT(n:Nat):FO 181 (qj n):=mk (an:=⟨fun _=>none,
 fun b=>match b with
  |0=>some ([.own 5 102 k3 2 false,.slot 6 I],false)
  |_=>none,
 fun b=>match b with
  |7=>some ([.own 5 102 k3 2 false],false)
  |_=>none,
 fun _=>[]⟩) (n:=n) Tryz.func181 rfl nl fun x=>by kernel_rfl
def qk(n:Nat):Mv:=⟨⟨[.val true [(.sl 84 k8)],.val false [(.sl 102 k3)]],[(true,[((.sl 84 k8),2)]),(false,[(.bool,0)])]⟩,fun x=>N.Xp n x.1 x.2⟩
theorem nU(n:Nat):FO 182 (qk n):=mk (an:=UA) (n:=n) Tryz.func182 rfl (cn (jr n) nl) fun x=>by kernel_rfl
def qL(n:Nat):Mv:=⟨⟨[.box [(I,0),(I,0),((.sl 3 (.one I)),2),((.sl 84 k8),2),(I,0),((.sl 54 k10),2),((.sl 41 k6),2),((.sl 80 k5),0),((.sl 3 (.one I)),2),((.sl 3 (.one I)),2),(I,0)],.box [(I,0),(I,0),(I,0),(I,0)]],[(false,[(.bool,0)])]⟩,fun x=>N.V6 n x.1 x.2.1 x.2.2.1 x.2.2.2.1 x.2.2.2.2.1 x.2.2.2.2.2.1 x.2.2.2.2.2.2.1 x.2.2.2.2.2.2.2.1 x.2.2.2.2.2.2.2.2.1 x.2.2.2.2.2.2.2.2.2.1 x.2.2.2.2.2.2.2.2.2.2.1 x.2.2.2.2.2.2.2.2.2.2.2.1 x.2.2.2.2.2.2.2.2.2.2.2.2.1 x.2.2.2.2.2.2.2.2.2.2.2.2.2.1 x.2.2.2.2.2.2.2.2.2.2.2.2.2.2⟩
theorem m7(n:Nat):FO 150 (qL n):=mk (an:=⟨fun _=>none,
 fun b=>match b with
  |1=>some ([.slot 11 I,.box 0 [some (I,0),some (I,0),some ((.sl 3 (.one I)),2),some ((.sl 84 k8),2),some (I,0),some ((.sl 54 k10),2),some ((.sl 41 k6),2),some ((.sl 80 k5),0),some ((.sl 3 (.one I)),2),some ((.sl 3 (.one I)),2),some (I,0)]],false)
  |_=>none,
 fun b=>match b with
  |10=>some ([.box 0 [some (I,0),some (I,0),some ((.sl 3 (.one I)),2),some ((.sl 84 k8),2),some (I,0),some ((.sl 54 k10),2),some ((.sl 41 k6),2),some ((.sl 80 k5),0),some ((.sl 3 (.one I)),2),some ((.sl 3 (.one I)),2),some (I,0)]],false)
  |12=>some ([.box 0 [some (I,0),some (I,0),some ((.sl 3 (.one I)),2),some ((.sl 84 k8),2),some (I,0),some ((.sl 54 k10),2),some ((.sl 41 k6),2),some ((.sl 80 k5),0),some ((.sl 3 (.one I)),2),some ((.sl 3 (.one I)),2),some (I,0)],.box 1 [some (I,0),some (I,0),some (I,0),some (I,0)]],true)
  |_=>none,
 fun _=>[]⟩) (n:=n) Tryz.func150 rfl (cn (jq n) (cn (lL n) (cn (nB n) (cn (nT n) (cn (nU n) nl))))) fun x=>by kernel_rfl
def qM(n:Nat):Mv:=⟨⟨[.val true [I,(.sl 54 k10)],.val false [I]],[(true,[(I,0),((.sl 54 k10),2)]),(false,[(.bool,0)])]⟩,fun x=>N.Wv n x.1 x.2.1 x.2.2⟩
theorem m8(n:Nat):FO 151 (qM n):=mk (an:=UA) (n:=n) Tryz.func151 rfl (cn (ju n) (cn (eu n) (cn (dQ n) nl))) fun x=>by kernel_rfl
def tF(n:Nat):Mv:=⟨⟨[.box [(I,0),(I,0),((.sl 3 (.one I)),2),((.sl 84 k8),2),(I,0),((.sl 54 k10),2),((.sl 41 k6),2),((.sl 80 k5),0),((.sl 3 (.one I)),2),((.sl 3 (.one I)),2),(I,0)]],[]⟩,fun x=>N.V8 n x.1 x.2.1 x.2.2.1 x.2.2.2.1 x.2.2.2.2.1 x.2.2.2.2.2.1 x.2.2.2.2.2.2.1 x.2.2.2.2.2.2.2.1 x.2.2.2.2.2.2.2.2.1 x.2.2.2.2.2.2.2.2.2.1 x.2.2.2.2.2.2.2.2.2.2⟩
theorem pI(n:Nat):FO 92 (tF n):=mk (an:=⟨fun b=>match b with
  |10=>some [.slot 93 .bool,.box 0 [some (I,0),some (I,0),some ((.sl 3 (.one I)),2),some ((.sl 84 k8),2),some (I,0),some ((.sl 54 k10),2),some ((.sl 41 k6),2),some ((.sl 80 k5),0),some ((.sl 3 (.one I)),2),some ((.sl 3 (.one I)),2),some (I,0)],.box 7 [some (I,0),some (I,0),some (I,0),some (I,0)]]
  |_=>none,
 fun b=>match b with
  |0=>some ([.own 4 80 k5 2 false,.own 5 3 (.one I) 2 false,.slot 6 I,.box 0 [some (I,0),some (I,0),some ((.sl 3 (.one I)),2),some ((.sl 84 k8),2),some (I,0),some ((.sl 54 k10),2),some ((.sl 41 k6),2),some ((.sl 80 k5),0),some ((.sl 3 (.one I)),2),some ((.sl 3 (.one I)),2),some (I,0)]],false)
  |2=>some ([.slot 9 I,.box 0 [some (I,0),some (I,0),some ((.sl 3 (.one I)),2),some ((.sl 84 k8),2),some (I,0),some ((.sl 54 k10),2),some ((.sl 41 k6),2),some ((.sl 80 k5),0),some ((.sl 3 (.one I)),2),some ((.sl 3 (.one I)),2),some (I,0)]],false)
  |4=>some ([.slot 10 .bool,.slot 11 I],false)
  |_=>none,
 fun b=>match b with
  |7=>some ([.own 4 80 k5 2 false,.own 5 3 (.one I) 2 false,.box 0 [some (I,0),some (I,0),some ((.sl 3 (.one I)),2),some ((.sl 84 k8),2),some (I,0),some ((.sl 54 k10),2),some ((.sl 41 k6),2),some ((.sl 80 k5),0),some ((.sl 3 (.one I)),2),some ((.sl 3 (.one I)),2),some (I,0)]],false)
  |13=>some ([.box 0 [some (I,0),some (I,0),some ((.sl 3 (.one I)),2),some ((.sl 84 k8),2),some (I,0),some ((.sl 54 k10),2),some ((.sl 41 k6),2),some ((.sl 80 k5),0),some ((.sl 3 (.one I)),2),some ((.sl 3 (.one I)),2),some (I,0)]],false)
  |_=>none,
 fun b=>match b with
  |13=>[4]
  |_=>[]⟩) (n:=n) Tryz.func92 rfl (cn (jq n) (cn (m5 n) (cn (m6 n) (cn (m7 n) (cn (m8 n) nl))))) fun x=>by kernel_rfl
def sK(n:Nat):Mv:=⟨⟨[.box [((.sl 5 (.one (.int .u8))),0),(I,0),(I,0)],.val false [I]],[(true,[(I,0),(I,0),((.sl 3 (.one I)),0),((.sl 84 k8),0),(I,0),((.sl 54 k10),0),((.sl 41 k6),0),((.sl 80 k5),0),((.sl 3 (.one I)),0),((.sl 3 (.one I)),0),(I,0)])]⟩,fun x=>N.V5 n x.1 x.2.1 x.2.2.1 x.2.2.2⟩
theorem og(n:Nat):FO 39 (sK n):=mk (an:=⟨fun _=>none,
 fun b=>match b with
  |0=>some ([.slot 6 I,.box 0 [some ((.sl 5 (.one (.int .u8))),0),some (I,0),some (I,0)],.box 5 [some (I,0),some (I,0),some ((.sl 3 (.one I)),2),some ((.sl 84 k8),2),some (I,0),some ((.sl 54 k10),2),some ((.sl 41 k6),2),some ((.sl 80 k5),0),some ((.sl 3 (.one I)),2),some ((.sl 3 (.one I)),2),some (I,0)]],false)
  |3=>some ([.slot 7 I,.box 5 [some (I,0),some (I,0),some ((.sl 3 (.one I)),2),some ((.sl 84 k8),2),some (I,0),some ((.sl 54 k10),2),some ((.sl 41 k6),2),some ((.sl 80 k5),0),some ((.sl 3 (.one I)),2),some ((.sl 3 (.one I)),2),some (I,0)]],false)
  |_=>none,
 fun b=>match b with
  |7=>some ([.box 0 [some ((.sl 5 (.one (.int .u8))),0),some (I,0),some (I,0)],.box 5 [some (I,0),some (I,0),some ((.sl 3 (.one I)),2),some ((.sl 84 k8),2),some (I,0),some ((.sl 54 k10),2),some ((.sl 41 k6),2),some ((.sl 80 k5),0),some ((.sl 3 (.one I)),2),some ((.sl 3 (.one I)),2),some (I,0)]],false)
  |33=>some ([.slot 26 .bool],false)
  |_=>none,
 fun b=>match b with
  |12=>[5]
  |_=>[]⟩) (n:=n) Tryz.func39 rfl (cn (nv n) (cn (od n) (cn (n6 n) (cn (n7 n) (cn (cd n) (cn (pG n) (cn (pH n) (cn (pI n) nl)))))))) fun x=>by kernel_rfl
def qN(n:Nat):Mv:=⟨⟨[.box [((.sl 5 (.one (.int .u8))),0),(I,0),(I,0)],.val true [(.sl 84 k8)]],[(true,[((.sl 84 k8),0)])]⟩,fun x=>N.W5 n x.1 x.2.1 x.2.2.1 x.2.2.2⟩
theorem m9(n:Nat):FO 152 (qN n):=mk (an:=⟨fun _=>none,
 fun _=>none,
 fun b=>match b with
  |18=>some ([.box 0 [some ((.sl 5 (.one (.int .u8))),0),some (I,0),some (I,0)],.box 5 [some ((.sl 84 k8),0)]],false)
  |_=>none,
 fun _=>[]⟩) (n:=n) Tryz.func152 rfl (cn (cd n) (cn (ez n) (cn (YH n) nl))) fun x=>by kernel_rfl
def qO(n:Nat):Mv:=⟨⟨[.box [((.sl 5 (.one (.int .u8))),0),(I,0),(I,0)],.val false [(.sl 41 k6)]],[(false,[((.sl 41 k6),2)])]⟩,fun x=>N.W6 x.1 x.2.1 x.2.2.1 x.2.2.2⟩
theorem nA(n:Nat):FO 153 (qO n):=mk (an:=⟨fun _=>none,
 fun _=>none,
 fun b=>match b with
  |18=>some ([.box 0 [some ((.sl 5 (.one (.int .u8))),0),some (I,0),some (I,0)],.own 5 41 k6 2 false],false)
  |_=>none,
 fun _=>[]⟩) (n:=n) Tryz.func153 rfl (cn (cd n) (cn (ez n) nl)) fun x=>by kernel_rfl
end Go.Proofs.YtccgnkaemdnniaaGreat.Ev
