/- Summaries of the functions. Conditions: none. -/
import Derived.Test.YtccgnkaemdnniaaGreatFnTookSum0
set_option linter.all false
namespace Go.Proofs.YtccgnkaemdnniaaGreat.Ev
open Go Go.Ev Go.Proofs
set_option maxRecDepth 100000
def tM(n:Nat):Mv:=⟨⟨[.box [((.sl 5 (.one (.int .u8))),0),(I,0),(I,0)],.val true [I,I,(.sl 3 (.one I)),(.sl 84 k8),I,(.sl 54 k10),(.sl 41 k6),(.sl 80 k5),(.sl 3 (.one I)),(.sl 3 (.one I)),I]],[(true,[(I,0),(I,0),((.sl 3 (.one I)),0),((.sl 84 k8),0),(I,0),((.sl 54 k10),0),((.sl 41 k6),0),((.sl 80 k5),0),((.sl 3 (.one I)),0),((.sl 3 (.one I)),0),(I,0)])]⟩,fun x=>N.V4 n x.1 x.2.1 x.2.2.1 x.2.2.2.1 x.2.2.2.2.1 x.2.2.2.2.2.1 x.2.2.2.2.2.2.1 x.2.2.2.2.2.2.2.1 x.2.2.2.2.2.2.2.2.1 x.2.2.2.2.2.2.2.2.2.1 x.2.2.2.2.2.2.2.2.2.2.1 x.2.2.2.2.2.2.2.2.2.2.2.1 x.2.2.2.2.2.2.2.2.2.2.2.2.1 x.2.2.2.2.2.2.2.2.2.2.2.2.2⟩
theorem pM(n:Nat):FO 99 (tM n):=mk (an:=⟨fun _=>none,
 fun _=>none,
 fun b=>match b with
  |9=>some ([.box 0 [some ((.sl 5 (.one (.int .u8))),0),some (I,0),some (I,0)],.box 5 [some (I,0),some (I,0),some ((.sl 3 (.one I)),0),some ((.sl 84 k8),0),some (I,0),some ((.sl 54 k10),0),some ((.sl 41 k6),0),some ((.sl 80 k5),0),some ((.sl 3 (.one I)),0),some ((.sl 3 (.one I)),0),some (I,0)]],false)
  |_=>none,
 fun _=>[]⟩) (n:=n) Tryz.func99 rfl (cn (ke n) (cn (cd n) (cn (ez n) (cn (m9 n) (cn (nA n) nl))))) fun x=>by kernel_rfl
def sV(n:Nat):Mv:=⟨⟨[.box [((.sl 5 (.one (.int .u8))),0),(I,0),(I,0)],.val false [I]],[(true,[(I,0),(I,0),((.sl 3 (.one I)),0),((.sl 84 k8),0),(I,0),((.sl 54 k10),0),((.sl 41 k6),0),((.sl 80 k5),0),((.sl 3 (.one I)),0),((.sl 3 (.one I)),0),(I,0)])]⟩,fun x=>N.Tq n x.1 x.2.1 x.2.2.1 x.2.2.2⟩
theorem ox(n:Nat):FO 59 (sV n):=mk (an:=⟨fun b=>match b with
  |2=>some [.slot 16 .bool,.box 0 [some ((.sl 5 (.one (.int .u8))),0),some (I,0),some (I,0)]]
  |_=>none,
 fun _=>none,
 fun b=>match b with
  |9=>some ([.box 0 [some ((.sl 5 (.one (.int .u8))),0),some (I,0),some (I,0)],.box 5 [some (I,0),some (I,0),some ((.sl 3 (.one I)),0),some ((.sl 84 k8),0),some (I,0),some ((.sl 54 k10),0),some ((.sl 41 k6),0),some ((.sl 80 k5),0),some ((.sl 3 (.one I)),0),some ((.sl 3 (.one I)),0),some (I,0)]],false)
  |_=>none,
 fun _=>[]⟩) (n:=n) Tryz.func59 rfl (cn (og n) (cn (gI n) (cn (pM n) nl))) fun x=>by kernel_rfl
def pX(n:Nat):Mv:=⟨⟨[.box [((.sl 5 (.one (.int .u8))),0),(I,0),(I,0)]],[(false,[((.sl 129 k1),2)])]⟩,fun x=>N.WA n x.1 x.2.1 x.2.2⟩
theorem mg(n:Nat):FO 111 (pX n):=mk (an:=⟨fun _=>none,
 fun b=>match b with
  |0=>some ([.own 3 129 k1 2 false,.slot 4 I,.box 0 [some ((.sl 5 (.one (.int .u8))),0),some (I,0),some (I,0)]],false)
  |_=>none,
 fun b=>match b with
  |7=>some ([.own 3 129 k1 2 false,.box 0 [some ((.sl 5 (.one (.int .u8))),0),some (I,0),some (I,0)]],false)
  |_=>none,
 fun _=>[]⟩) (n:=n) Tryz.func111 rfl (cn (gI n) (cn (ez n) nl)) fun x=>by kernel_rfl
def sX(n:Nat):Mv:=⟨⟨[.box [((.sl 5 (.one (.int .u8))),0),(I,0),(I,0)]],[(false,[((.sl 129 k1),2)])]⟩,fun x=>N.Tu n x.1 x.2.1 x.2.2⟩
theorem oz(n:Nat):FO 62 (sX n):=mk (an:=⟨fun _=>none,
 fun _=>none,
 fun b=>match b with
  |9=>some ([.own 3 129 k1 2 false,.box 0 [some ((.sl 5 (.one (.int .u8))),0),some (I,0),some (I,0)]],false)
  |_=>none,
 fun _=>[]⟩) (n:=n) Tryz.func62 rfl (cn (cd n) (cn (ez n) (cn (mg n) nl))) fun x=>by kernel_rfl
def r8(n:Nat):Mv:=⟨⟨[.val false [(.sl 5 (.one (.int .u8)))]],[(true,[(I,0),(I,0),((.sl 3 (.one I)),0),((.sl 84 k8),0),(I,0),((.sl 54 k10),0),((.sl 41 k6),0),((.sl 80 k5),0),((.sl 3 (.one I)),0),((.sl 3 (.one I)),0),(I,0)]),(false,[(I,0)]),(false,[((.sl 129 k1),2)])]⟩,fun x=>N.VE n x⟩
theorem oX(n:Nat):FO 22 (r8 n):=mk (an:=⟨fun _=>none,
 fun _=>none,
 fun b=>match b with
  |15=>some ([.own 7 129 k1 2 false,.box 9 [some ((.sl 5 (.one (.int .u8))),0),some (I,0),some (I,0)]],false)
  |_=>none,
 fun _=>[]⟩) (n:=n) Tryz.func22 rfl (cn (oe n) (cn (oh n) (cn (ox n) (cn (n6 n) (cn (gI n) (cn (oz n) (cn (n7 n) nl))))))) fun x=>by kernel_rfl
def tL(n:Nat):Mv:=⟨⟨[.val false [(.sl 3 (.one I))]],[(false,[((.sl 3 (.one I)),2)])]⟩,fun x=>N.SK x⟩
theorem oA(n:Nat):FO 98 (tL n):=mk (an:=UA) (n:=n) Tryz.func98 rfl nl fun x=>by kernel_rfl
def tG(n:Nat):Mv:=⟨⟨[.val true [I,I,(.sl 3 (.one I))]],[(true,[(I,0),(I,0),((.sl 3 (.one I)),2)])]⟩,fun x=>N.UN x.1 x.2.1 x.2.2⟩
theorem pJ(n:Nat):FO 93 (tG n):=mk (an:=UA) (n:=n) Tryz.func93 rfl (cn (oA n) nl) fun x=>by kernel_rfl
def tH(n:Nat):Mv:=⟨⟨[.val true [(.sl 84 k8)]],[(true,[((.sl 84 k8),2)])]⟩,fun x=>N.Pm n x⟩
theorem fB(n:Nat):FO 94 (tH n):=mk (an:=⟨fun _=>none,
 fun b=>match b with
  |0=>some ([.slot 9 I,.box 3 [some ((.sl 84 k8),2)]],false)
  |_=>none,
 fun _=>none,
 fun _=>[]⟩) (n:=n) Tryz.func94 rfl nl fun x=>by kernel_rfl
def pd(n:Nat):Mv:=⟨⟨[.val false [(.sl 129 k1)]],[(false,[((.sl 129 k1),2)])]⟩,fun x=>N.QK x⟩
theorem gk(n:Nat):FO 115 (pd n):=mk (an:=UA) (n:=n) Tryz.func115 rfl nl fun x=>by kernel_rfl
def pv(n:Nat):Mv:=⟨⟨[.val false [(.sl 102 k3)]],[(false,[((.sl 102 k3),2)])]⟩,fun x=>N.WQ x⟩
theorem ml(n:Nat):FO 124 (pv n):=mk (an:=UA) (n:=n) Tryz.func124 rfl nl fun x=>by kernel_rfl
def su(n:Nat):Mv:=⟨⟨[.val true [I,I,(.sl 129 k1),(.sl 102 k3),I]],[(true,[(I,0),(I,0),((.sl 129 k1),2),((.sl 102 k3),2),(I,0)])]⟩,fun x=>N.RW x.1 x.2.1 x.2.2.1 x.2.2.2.1 x.2.2.2.2⟩
theorem mC(n:Nat):FO 73 (su n):=mk (an:=UA) (n:=n) Tryz.func73 rfl (cn (gk n) (cn (ml n) nl)) fun x=>by kernel_rfl
def tI(n:Nat):Mv:=⟨⟨[.val true [I,(.sl 54 k10)]],[(true,[(I,0),((.sl 54 k10),2)])]⟩,fun x=>N.QF n x.1 x.2⟩
theorem jv(n:Nat):FO 95 (tI n):=mk (an:=⟨fun _=>none,
 fun b=>match b with
  |0=>some ([.slot 12 I,.box 3 [some (I,0),some ((.sl 54 k10),2)]],false)
  |_=>none,
 fun _=>none,
 fun _=>[]⟩) (n:=n) Tryz.func95 rfl (cn (mC n) nl) fun x=>by kernel_rfl
def tJ(n:Nat):Mv:=⟨⟨[.val false [(.sl 41 k6)]],[(false,[((.sl 41 k6),2)])]⟩,fun x=>N.SJ x⟩
theorem pK(n:Nat):FO 96 (tJ n):=mk (an:=UA) (n:=n) Tryz.func96 rfl nl fun x=>by kernel_rfl
def tK(n:Nat):Mv:=⟨⟨[.val false [(.sl 80 k5)]],[(false,[((.sl 80 k5),2)])]⟩,fun x=>N.WR x⟩
theorem pL(n:Nat):FO 97 (tK n):=mk (an:=UA) (n:=n) Tryz.func97 rfl nl fun x=>by kernel_rfl
def sM(n:Nat):Mv:=⟨⟨[.val true [I,I,(.sl 3 (.one I)),(.sl 84 k8),I,(.sl 54 k10),(.sl 41 k6),(.sl 80 k5),(.sl 3 (.one I)),(.sl 3 (.one I)),I]],[(true,[(I,0),(I,0),((.sl 3 (.one I)),2),((.sl 84 k8),2),(I,0),((.sl 54 k10),2),((.sl 41 k6),2),((.sl 80 k5),2),((.sl 3 (.one I)),2),((.sl 3 (.one I)),2),(I,0)])]⟩,fun x=>N.Sh n x.1 x.2.1 x.2.2.1 x.2.2.2.1 x.2.2.2.2.1 x.2.2.2.2.2.1 x.2.2.2.2.2.2.1 x.2.2.2.2.2.2.2.1 x.2.2.2.2.2.2.2.2.1 x.2.2.2.2.2.2.2.2.2.1 x.2.2.2.2.2.2.2.2.2.2⟩
theorem ny(n:Nat):FO 41 (sM n):=mk (an:=UA) (n:=n) Tryz.func41 rfl (cn (pJ n) (cn (fB n) (cn (jv n) (cn (pK n) (cn (pL n) (cn (oA n) nl)))))) fun x=>by kernel_rfl
def sN(n:Nat):Mv:=⟨⟨[.val false [I],.val false [I],.val false [I]],[(false,[(.bool,0)])]⟩,fun x=>N.Pg x.1 x.2.1 x.2.2⟩
theorem ZQ(n:Nat):FO 42 (sN n):=mk (an:=UA) (n:=n) Tryz.func42 rfl nl fun x=>by kernel_rfl
def sO(n:Nat):Mv:=⟨⟨[.val true [I,I,(.sl 3 (.one I))]],[(false,[(.bool,0)])]⟩,fun x=>N.S0 n x.1 x.2.1 x.2.2⟩
theorem mB(n:Nat):FO 46 (sO n):=mk (an:=⟨fun _=>none,
 fun b=>match b with
  |0=>some ([.slot 29 I],true)
  |_=>none,
 fun _=>none,
 fun _=>[]⟩) (n:=n) Tryz.func46 rfl (cn (ZQ n) nl) fun x=>by kernel_rfl
def pO(n:Nat):Mv:=⟨⟨[.val true [I,I,(.sl 88 k3)]],[(false,[(.bool,0)])]⟩,fun x=>N.Xg n x.1 x.2.1 x.2.2⟩
theorem mZ(n:Nat):FO 100 (pO n):=mk (an:=⟨fun _=>none,
 fun b=>match b with
  |0=>some ([.slot 24 I],true)
  |_=>none,
 fun _=>none,
 fun _=>[]⟩) (n:=n) Tryz.func100 rfl (cn (ZQ n) nl) fun x=>by kernel_rfl
def sP(n:Nat):Mv:=⟨⟨[.val true [(.sl 84 k8)]],[(false,[(.bool,0)])]⟩,fun x=>N.Rv n x⟩
theorem kY(n:Nat):FO 47 (sP n):=mk (an:=⟨fun _=>none,
 fun b=>match b with
  |0=>some ([.slot 10 I],true)
  |2=>some ([.slot 39 I],true)
  |_=>none,
 fun _=>none,
 fun _=>[]⟩) (n:=n) Tryz.func47 rfl (cn (mZ n) nl) fun x=>by kernel_rfl
def pP(n:Nat):Mv:=⟨⟨[.val false [(.sl 129 k1)]],[(false,[(.bool,0)])]⟩,fun x=>N.Ru n x⟩
theorem jh(n:Nat):FO 101 (pP n):=mk (an:=⟨fun _=>none,
 fun b=>match b with
  |0=>some ([.slot 7 I],true)
  |_=>none,
 fun _=>none,
 fun _=>[]⟩) (n:=n) Tryz.func101 rfl (cn (ZQ n) nl) fun x=>by kernel_rfl
def pQ(n:Nat):Mv:=⟨⟨[.val false [(.sl 102 k3)],.val false [(.sl 129 k1)]],[(false,[(.bool,0)])]⟩,fun x=>N.UR n x.1 x.2⟩
theorem ma(n:Nat):FO 102 (pQ n):=mk (an:=⟨fun _=>none,
 fun b=>match b with
  |0=>some ([.slot 16 I,.own 5 129 k1 2 false],true)
  |2=>some ([.slot 8 .bool,.slot 22 I,.own 5 129 k1 2 false],false)
  |4=>some ([.slot 59 I],true)
  |_=>none,
 fun _=>none,
 fun _=>[]⟩) (n:=n) Tryz.func102 rfl (cn (ZQ n) (cn (gk n) nl)) fun x=>by kernel_rfl
def sQ(n:Nat):Mv:=⟨⟨[.val true [I,(.sl 54 k10)]],[(false,[(.bool,0)])]⟩,fun x=>N.Qc n x.1 x.2⟩
theorem kZ(n:Nat):FO 48 (sQ n):=mk (an:=⟨fun _=>none,
 fun b=>match b with
  |0=>some ([.slot 18 I],true)
  |_=>none,
 fun _=>none,
 fun _=>[]⟩) (n:=n) Tryz.func48 rfl (cn (ZQ n) (cn (jh n) (cn (ma n) nl))) fun x=>by kernel_rfl
def sx(n:Nat):Mv:=⟨⟨[.val true [I,I,(.sl 3 (.one I))],.val false [I]],[(false,[(.bool,0)])]⟩,fun x=>N.Si x.1 x.2.1 x.2.2.1 x.2.2.2⟩
theorem pC(n:Nat):FO 76 (sx n):=mk (an:=UA) (n:=n) Tryz.func76 rfl (cn (ZQ n) nl) fun x=>by kernel_rfl
def sG(n:Nat):Mv:=⟨⟨[.val true [I,I,(.sl 3 (.one I))],.val false [I]],[(false,[(I,0)])]⟩,fun x=>N.Qd n x.1 x.2.1 x.2.2.1 x.2.2.2⟩
theorem l9(n:Nat):FO 30 (sG n):=mk (an:=UA) (n:=n) Tryz.func30 rfl (cn (mB n) (cn (pC n) nl)) fun x=>by kernel_rfl
def pR(n:Nat):Mv:=⟨⟨[.val true [I,I,(.sl 3 (.one I))],.val true [I,I,I,.bool,I]],[(false,[(.bool,0)])]⟩,fun x=>N.RP n x.1 x.2.1 x.2.2.1 x.2.2.2.1 x.2.2.2.2.1 x.2.2.2.2.2.1 x.2.2.2.2.2.2.1 x.2.2.2.2.2.2.2⟩
theorem mb(n:Nat):FO 103 (pR n):=mk (an:=UA) (n:=n) Tryz.func103 rfl (cn (l9 n) nl) fun x=>by kernel_rfl
def sR(n:Nat):Mv:=⟨⟨[.val true [I,I,(.sl 3 (.one I))],.val false [(.sl 41 k6)]],[(false,[(.bool,0)])]⟩,fun x=>N.T4 n x.1 x.2.1 x.2.2.1 x.2.2.2⟩
theorem oq(n:Nat):FO 49 (sR n):=mk (an:=⟨fun _=>none,
 fun b=>match b with
  |0=>some ([.slot 19 I],true)
  |2=>some ([.slot 59 I],true)
  |_=>none,
 fun _=>none,
 fun _=>[]⟩) (n:=n) Tryz.func49 rfl (cn (ZQ n) (cn (mB n) (cn (mb n) nl))) fun x=>by kernel_rfl
def sS(n:Nat):Mv:=⟨⟨[.val false [(.sl 80 k5)]],[(false,[(.bool,0)])]⟩,fun x=>N.Vp n x⟩
theorem ot(n:Nat):FO 50 (sS n):=mk (an:=⟨fun _=>none,
 fun b=>match b with
  |0=>some ([.slot 10 I],true)
  |2=>some ([.slot 51 I],true)
  |_=>none,
 fun _=>none,
 fun _=>[]⟩) (n:=n) Tryz.func50 rfl (cn (ZQ n) nl) fun x=>by kernel_rfl
def rU(n:Nat):Mv:=⟨⟨[.val false [(.sl 3 (.one I))]],[(false,[(.bool,0)])]⟩,fun x=>N.TL n x⟩
theorem ov(n:Nat):FO 51 (rU n):=mk (an:=⟨fun _=>none,
 fun b=>match b with
  |0=>some ([.slot 7 I],true)
  |_=>none,
 fun _=>none,
 fun _=>[]⟩) (n:=n) Tryz.func51 rfl (cn (ZQ n) nl) fun x=>by kernel_rfl
def ss(n:Nat):Mv:=⟨⟨[.val true [I,(.sl 54 k10)],.val false [I]],[(false,[(I,0)])]⟩,fun x=>N.QL n x.1 x.2.1 x.2.2⟩
theorem js(n:Nat):FO 72 (ss n):=mk (an:=⟨fun _=>none,
 fun b=>match b with
  |0=>some ([.slot 10 I],true)
  |_=>none,
 fun _=>none,
 fun _=>[]⟩) (n:=n) Tryz.func72 rfl nl fun x=>by kernel_rfl
def pS(n:Nat):Mv:=⟨⟨[.val true [(.sl 84 k8)],.val false [I]],[(false,[(I,0)])]⟩,fun x=>N.WT n x.1 x.2⟩
theorem ji(n:Nat):FO 104 (pS n):=mk (an:=⟨fun _=>none,
 fun b=>match b with
  |0=>some ([.slot 10 I],true)
  |_=>none,
 fun _=>none,
 fun _=>[]⟩) (n:=n) Tryz.func104 rfl nl fun x=>by kernel_rfl
def sw(n:Nat):Mv:=⟨⟨[.val false [(.sl 3 (.one I))],.val false [I]],[(false,[(.bool,0)])]⟩,fun x=>N.Qo n x.1 x.2⟩
theorem n8(n:Nat):FO 75 (sw n):=mk (an:=⟨fun _=>none,
 fun b=>match b with
  |0=>some ([.slot 9 I],true)
  |_=>none,
 fun _=>none,
 fun _=>[]⟩) (n:=n) Tryz.func75 rfl nl fun x=>by kernel_rfl
def sF(n:Nat):Mv:=⟨⟨[.val false [(.sl 102 k3)]],[(false,[((.sl 3 (.one I)),2)])]⟩,fun x=>N.Sg n x⟩
theorem kX(n:Nat):FO 29 (sF n):=mk (an:=⟨fun _=>none,
 fun b=>match b with
  |0=>some ([.own 3 3 (.one I) 2 false,.slot 8 I],false)
  |_=>none,
 fun b=>match b with
  |7=>some ([.own 3 3 (.one I) 2 false],false)
  |_=>none,
 fun _=>[]⟩) (n:=n) Tryz.func29 rfl (cn (n8 n) nl) fun x=>by kernel_rfl
def pT(n:Nat):Mv:=⟨⟨[.val false [(.sl 41 k6)],.val false [I]],[(false,[(I,0)])]⟩,fun x=>N.S5 n x.1 x.2⟩
theorem mc(n:Nat):FO 105 (pT n):=mk (an:=⟨fun _=>none,
 fun b=>match b with
  |0=>some ([.slot 9 I],true)
  |_=>none,
 fun _=>none,
 fun _=>[]⟩) (n:=n) Tryz.func105 rfl nl fun x=>by kernel_rfl
def pU(n:Nat):Mv:=⟨⟨[.val true [I,I,(.sl 3 (.one I)),(.sl 84 k8),I,(.sl 54 k10),(.sl 41 k6),(.sl 80 k5),(.sl 3 (.one I)),(.sl 3 (.one I)),I],.val true [I,I,I,I]],[(false,[(I,0)])]⟩,fun x=>N.Wo n x.1 x.2.1 x.2.2.1 x.2.2.2.1 x.2.2.2.2.1 x.2.2.2.2.2.1 x.2.2.2.2.2.2.1 x.2.2.2.2.2.2.2.1 x.2.2.2.2.2.2.2.2.1 x.2.2.2.2.2.2.2.2.2.1 x.2.2.2.2.2.2.2.2.2.2.1 x.2.2.2.2.2.2.2.2.2.2.2.1 x.2.2.2.2.2.2.2.2.2.2.2.2.1 x.2.2.2.2.2.2.2.2.2.2.2.2.2.1 x.2.2.2.2.2.2.2.2.2.2.2.2.2.2⟩
theorem me(n:Nat):FO 106 (pU n):=mk (an:=UA) (n:=n) Tryz.func106 rfl (cn (js n) (cn (ji n) nl)) fun x=>by kernel_rfl
def sT(n:Nat):Mv:=⟨⟨[.val true [I,I,(.sl 3 (.one I)),(.sl 84 k8),I,(.sl 54 k10),(.sl 41 k6),(.sl 80 k5),(.sl 3 (.one I)),(.sl 3 (.one I)),I],.val true [I,I,I,I]],[(false,[(.bool,0)])]⟩,fun x=>N.Sj n x.1 x.2.1 x.2.2.1 x.2.2.2.1 x.2.2.2.2.1 x.2.2.2.2.2.1 x.2.2.2.2.2.2.1 x.2.2.2.2.2.2.2.1 x.2.2.2.2.2.2.2.2.1 x.2.2.2.2.2.2.2.2.2.1 x.2.2.2.2.2.2.2.2.2.2.1 x.2.2.2.2.2.2.2.2.2.2.2.1 x.2.2.2.2.2.2.2.2.2.2.2.2.1 x.2.2.2.2.2.2.2.2.2.2.2.2.2.1 x.2.2.2.2.2.2.2.2.2.2.2.2.2.2⟩
theorem ow(n:Nat):FO 52 (sT n):=mk (an:=UA) (n:=n) Tryz.func52 rfl (cn (kX n) (cn (js n) (cn (n8 n) (cn (ji n) (cn (mc n) (cn (me n) nl)))))) fun x=>by kernel_rfl
def r7(n:Nat):Mv:=⟨⟨[.val true [I,I,(.sl 3 (.one I)),(.sl 84 k8),I,(.sl 54 k10),(.sl 41 k6),(.sl 80 k5),(.sl 3 (.one I)),(.sl 3 (.one I)),I]],[(false,[(.bool,0)])]⟩,fun x=>N.Sz n x.1 x.2.1 x.2.2.1 x.2.2.2.1 x.2.2.2.2.1 x.2.2.2.2.2.1 x.2.2.2.2.2.2.1 x.2.2.2.2.2.2.2.1 x.2.2.2.2.2.2.2.2.1 x.2.2.2.2.2.2.2.2.2.1 x.2.2.2.2.2.2.2.2.2.2⟩
theorem l7(n:Nat):FO 16 (r7 n):=mk (an:=⟨fun _=>none,
 fun b=>match b with
  |0=>some ([.slot 56 I],true)
  |_=>none,
 fun _=>none,
 fun _=>[]⟩) (n:=n) Tryz.func16 rfl (cn (ZQ n) (cn (mB n) (cn (kY n) (cn (kZ n) (cn (oq n) (cn (ot n) (cn (ov n) (cn (ow n) nl)))))))) fun x=>by kernel_rfl
def sZ(n:Nat):Mv:=⟨⟨[.val true [I,(.sl 54 k10)]],[(true,[(I,0),((.sl 54 k10),2)])]⟩,fun x=>N.WO n x.1 x.2⟩
theorem o3(n:Nat):FO 64 (sZ n):=mk (an:=⟨fun _=>none,
 fun b=>match b with
  |0=>some ([.slot 17 I,.box 3 [some (I,0),some ((.sl 54 k10),2)]],false)
  |_=>none,
 fun b=>match b with
  |7=>some ([.box 3 [some (I,0),some ((.sl 54 k10),2)]],false)
  |_=>none,
 fun _=>[]⟩) (n:=n) Tryz.func64 rfl (cn (kZ n) (cn (mC n) (cn (jv n) nl))) fun x=>by kernel_rfl
def sU(n:Nat):Mv:=⟨⟨[.val true [I,I,(.sl 88 k3)],.val false [I]],[(false,[(I,0)]),(false,[(.bool,0)])]⟩,fun x=>N.US n x.1 x.2.1 x.2.2.1 x.2.2.2⟩
theorem nz(n:Nat):FO 53 (sU n):=mk (an:=⟨fun b=>match b with
  |4=>some [.slot 4 I,.slot 5 .bool]
  |_=>none,
 fun b=>match b with
  |0=>some ([.slot 6 I],false)
  |_=>none,
 fun _=>none,
 fun _=>[]⟩) (n:=n) Tryz.func53 rfl nl fun x=>by kernel_rfl
def qQ(n:Nat):Mv:=⟨⟨[.val true [I,I,(.sl 88 k3)],.val false [(.sl 129 k1)]],[(false,[((.sl 102 k3),2)]),(false,[(I,0)])]⟩,fun x=>N.Xe n x.1 x.2.1 x.2.2.1 x.2.2.2⟩
theorem nC(n:Nat):FO 155 (qQ n):=mk (an:=⟨fun _=>none,
 fun b=>match b with
  |0=>some ([.own 6 102 k3 2 false,.slot 7 I,.slot 15 I],false)
  |_=>none,
 fun b=>match b with
  |7=>some ([.own 6 102 k3 2 false,.slot 7 I],false)
  |_=>none,
 fun _=>[]⟩) (n:=n) Tryz.func155 rfl (cn (nz n) nl) fun x=>by kernel_rfl
def p8(n:Nat):Mv:=⟨⟨[.val true [(.sl 84 k8)],.val false [I],.val false [I],.val false [I]],[(false,[(I,0)]),(false,[(I,0)])]⟩,fun x=>N.Xf n x.1 x.2.1 x.2.2.1 x.2.2.2⟩
theorem mr(n:Nat):FO 128 (p8 n):=mk (an:=UA) (n:=n) Tryz.func128 rfl (cn (ZQ n) (cn (kY n) (cn (ji n) nl))) fun x=>by kernel_rfl
def qn(n:Nat):Mv:=⟨⟨[.val true [(.sl 84 k8)],.val false [I],.val false [I],.val false [I],.val false [I]],[(true,[((.sl 84 k8),2)]),(false,[(I,0)])]⟩,fun x=>N.Us n x.1 x.2.1 x.2.2.1 x.2.2.2.1 x.2.2.2.2⟩
theorem lP(n:Nat):FO 183 (qn n):=mk (an:=UA) (n:=n) Tryz.func183 rfl (cn (ZQ n) (cn (nz n) (cn (fB n) (cn (mr n) nl)))) fun x=>by kernel_rfl
def qS(n:Nat):Mv:=⟨⟨[.val true [(.sl 84 k8)],.val false [I],.val false [I],.val false [I]],[(true,[((.sl 84 k8),2)]),(false,[(I,0)])]⟩,fun x=>N.YW n x.1 x.2.1 x.2.2.1 x.2.2.2⟩
theorem nE(n:Nat):FO 158 (qS n):=mk (an:=UA) (n:=n) Tryz.func158 rfl (cn (lP n) nl) fun x=>by kernel_rfl
def kE(n:Nat):Mv:=⟨⟨[.val true [(.sl 84 k8)],.val false [(.sl 102 k3)],.fn 158],[(true,[((.sl 84 k8),2)]),(false,[(.bool,0)])]⟩,fun x=>N.WS n x.1 x.2⟩
theorem ie(n:Nat):FO 157 (kE n):=mk (an:=⟨fun _=>none,
 fun b=>match b with
  |0=>some ([.slot 17 I,.box 6 [some ((.sl 84 k8),2)],.box 8 [some ((.sl 84 k8),2)]],true)
  |_=>none,
 fun _=>none,
 fun _=>[]⟩) (n:=n) Tryz.func157 rfl (cn (fB n) (cn (nE n) nl)) fun x=>by kernel_rfl
def pc(n:Nat):Mv:=⟨⟨[.val true [(.sl 84 k8)],.val false [(.sl 102 k3)]],[(true,[((.sl 84 k8),2)]),(false,[(.bool,0)])]⟩,fun x=>N.UJ n x.1 x.2⟩
theorem lJ(n:Nat):FO 114 (pc n):=mk (an:=UA) (n:=n) Tryz.func114 rfl (cn (ie n) nl) fun x=>by kernel_rfl
def qR(n:Nat):Mv:=⟨⟨[.val false [(.sl 129 k1)],.val false [(.sl 102 k3)]],[(false,[((.sl 129 k1),2)])]⟩,fun x=>N.YY n x.1 x.2⟩
theorem nD(n:Nat):FO 156 (qR n):=mk (an:=⟨fun _=>none,
 fun b=>match b with
  |0=>some ([.own 5 129 k1 2 false,.slot 12 I],false)
  |2=>some ([.slot 18 I,.box 7 [some (I,0),some (I,0)]],false)
  |_=>none,
 fun b=>match b with
  |7=>some ([.own 5 129 k1 2 false],false)
  |13=>some ([.box 7 [some (I,0),some (I,0)]],false)
  |_=>none,
 fun _=>[]⟩) (n:=n) Tryz.func156 rfl nl fun x=>by kernel_rfl
def pZ(n:Nat):Mv:=⟨⟨[.val true [(.sl 84 k8)],.val false [(.sl 129 k1)]],[(false,[((.sl 102 k3),2)]),(false,[(.bool,0)])]⟩,fun x=>N.Sf n x.1 x.2⟩
theorem mh(n:Nat):FO 113 (pZ n):=mk (an:=⟨fun _=>none,
 fun b=>match b with
  |0=>some ([.own 6 102 k3 2 false,.own 8 129 k1 2 false,.box 7 [some ((.sl 84 k8),2)]],true)
  |2=>some ([.own 9 102 k3 2 false,.slot 10 I,.slot 33 I],false)
  |_=>none,
 fun b=>match b with
  |13=>some ([.own 9 102 k3 2 false,.slot 10 I],false)
  |_=>none,
 fun b=>match b with
  |9=>[7]
  |_=>[]⟩) (n:=n) Tryz.func113 rfl (cn (kY n) (cn (fB n) (cn (jh n) (cn (lJ n) (cn (gk n) (cn (nC n) (cn (nD n) nl))))))) fun x=>by kernel_rfl
def sd(n:Nat):Mv:=⟨⟨[.val true [(.sl 84 k8)],.val true [I,(.sl 54 k10)],.val false [I],.val false [(.sl 129 k1)]],[(true,[((.sl 84 k8),2)]),(true,[(I,0),((.sl 54 k10),2)]),(false,[(I,0)])]⟩,fun x=>N.Sc n x.1 x.2.1 x.2.2.1 x.2.2.2.1 x.2.2.2.2⟩
theorem o4(n:Nat):FO 65 (sd n):=mk (an:=UA) (n:=n) Tryz.func65 rfl (cn (ZQ n) (cn (kY n) (cn (kZ n) (cn (fB n) (cn (jv n) (cn (jh n) (cn (mh n) (cn (lJ n) (cn (gk n) nl))))))))) fun x=>by kernel_rfl
def sD(n:Nat):Mv:=⟨⟨[.val true [I,(.sl 54 k10)],.val false [I]],[(true,[(I,0),(I,0),((.sl 129 k1),2),((.sl 102 k3),2),(I,0)]),(false,[(.bool,0)])]⟩,fun x=>N.RC n x.1 x.2.1 x.2.2⟩
theorem l8(n:Nat):FO 27 (sD n):=mk (an:=UA) (n:=n) Tryz.func27 rfl (cn (js n) (cn (mC n) nl)) fun x=>by kernel_rfl
def sf(n:Nat):Mv:=⟨⟨[.val true [I,I,(.sl 129 k1),(.sl 102 k3),I]],[(false,[((.sl 80 k5),2)])]⟩,fun x=>N.Vo n x.1 x.2.1 x.2.2.1 x.2.2.2.1 x.2.2.2.2⟩
theorem o5(n:Nat):FO 66 (sf n):=mk (an:=⟨fun _=>none,
 fun b=>match b with
  |0=>some ([.own 3 80 k5 2 false,.slot 10 I],false)
  |_=>none,
 fun _=>none,
 fun _=>[]⟩) (n:=n) Tryz.func66 rfl (cn (kX n) nl) fun x=>by kernel_rfl
def r9(n:Nat):Mv:=⟨⟨[.val true [I,I,(.sl 3 (.one I)),(.sl 84 k8),I,(.sl 54 k10),(.sl 41 k6),(.sl 80 k5),(.sl 3 (.one I)),(.sl 3 (.one I)),I],.val false [I],.val false [(.sl 129 k1)]],[(true,[(I,0),(I,0),((.sl 3 (.one I)),2),((.sl 84 k8),2),(I,0),((.sl 54 k10),2),((.sl 41 k6),2),((.sl 80 k5),2),((.sl 3 (.one I)),2),((.sl 3 (.one I)),2),(I,0)]),(false,[(I,0)])]⟩,fun x=>N.YX n x.1 x.2.1 x.2.2.1 x.2.2.2.1 x.2.2.2.2.1 x.2.2.2.2.2.1 x.2.2.2.2.2.2.1 x.2.2.2.2.2.2.2.1 x.2.2.2.2.2.2.2.2.1 x.2.2.2.2.2.2.2.2.2.1 x.2.2.2.2.2.2.2.2.2.2.1 x.2.2.2.2.2.2.2.2.2.2.2.1 x.2.2.2.2.2.2.2.2.2.2.2.2⟩
theorem oY(n:Nat):FO 23 (r9 n):=mk (an:=⟨fun _=>none,
 fun _=>none,
 fun b=>match b with
  |18=>some ([.box 9 [some (I,0),some ((.sl 54 k10),0)]],false)
  |_=>none,
 fun _=>[]⟩) (n:=n) Tryz.func23 rfl (cn (l7 n) (cn (l8 n) (cn (l9 n) (cn (ny n) (cn (o3 n) (cn (o4 n) (cn (o5 n) nl))))))) fun x=>by kernel_rfl
def sB(n:Nat):Mv:=⟨⟨[.val true [(.sl 84 k8)],.val true [(.sl 84 k8)]],[(false,[(.bool,0)])]⟩,fun x=>N.Sk n x.1 x.2⟩
theorem oZ(n:Nat):FO 25 (sB n):=mk (an:=⟨fun _=>none,
 fun b=>match b with
  |0=>some ([.slot 5 I],true)
  |2=>some ([.slot 8 I],true)
  |_=>none,
 fun _=>none,
 fun _=>[]⟩) (n:=n) Tryz.func25 rfl nl fun x=>by kernel_rfl
def sC(n:Nat):Mv:=⟨⟨[.val false [(.sl 80 k5)],.val false [(.sl 80 k5)]],[(false,[(.bool,0)])]⟩,fun x=>N.Sl n x.1 x.2⟩
theorem oa(n:Nat):FO 26 (sC n):=mk (an:=⟨fun _=>none,
 fun b=>match b with
  |0=>some ([.slot 5 I],true)
  |_=>none,
 fun _=>none,
 fun _=>[]⟩) (n:=n) Tryz.func26 rfl nl fun x=>by kernel_rfl
def px(n:Nat):Mv:=⟨⟨[.val true [I,(.sl 54 k10)],.val false [I],.val false [I]],[(true,[(I,0),((.sl 54 k10),2)]),(false,[(.bool,0)])]⟩,fun x=>N.Wp n x.1 x.2.1 x.2.2.1 x.2.2.2⟩
theorem mm(n:Nat):FO 125 (px n):=mk (an:=UA) (n:=n) Tryz.func125 rfl (cn (kZ n) (cn (js n) (cn (jv n) nl))) fun x=>by kernel_rfl
def qW(n:Nat):Mv:=⟨⟨[.val true [(.sl 84 k8)],.val false [I],.val false [I],.val false [I]],[(true,[((.sl 84 k8),2)]),(false,[(I,0)])]⟩,fun x=>N.Vn n x.1 x.2.1 x.2.2.1 x.2.2.2⟩
theorem nG(n:Nat):FO 162 (qW n):=mk (an:=UA) (n:=n) Tryz.func162 rfl (cn (ZQ n) (cn (fB n) (cn (lP n) nl))) fun x=>by kernel_rfl
def kF(n:Nat):Mv:=⟨⟨[.val true [(.sl 84 k8)],.val false [(.sl 102 k3)],.fn 162],[(true,[((.sl 84 k8),2)]),(false,[(.bool,0)])]⟩,fun x=>N.UP n x.1 x.2⟩
theorem ig(n:Nat):FO 157 (kF n):=mk (an:=⟨fun _=>none,
 fun b=>match b with
  |0=>some ([.slot 17 I,.box 6 [some ((.sl 84 k8),2)],.box 8 [some ((.sl 84 k8),2)]],true)
  |_=>none,
 fun _=>none,
 fun _=>[]⟩) (n:=n) Tryz.func157 rfl (cn (fB n) (cn (nG n) nl)) fun x=>by kernel_rfl
def pz(n:Nat):Mv:=⟨⟨[.val true [(.sl 84 k8)],.val false [(.sl 102 k3)]],[(true,[((.sl 84 k8),2)]),(false,[(.bool,0)])]⟩,fun x=>N.Tb n x.1 x.2⟩
theorem mn(n:Nat):FO 126 (pz n):=mk (an:=UA) (n:=n) Tryz.func126 rfl (cn (ig n) nl) fun x=>by kernel_rfl
def sv(n:Nat):Mv:=⟨⟨[.val true [(.sl 84 k8)],.val true [I,(.sl 54 k10)],.val false [I]],[(true,[((.sl 84 k8),2)]),(true,[(I,0),((.sl 54 k10),2)]),(false,[(.bool,0)])]⟩,fun x=>N.U8 n x.1 x.2.1 x.2.2.1 x.2.2.2⟩
theorem pB(n:Nat):FO 74 (sv n):=mk (an:=UA) (n:=n) Tryz.func74 rfl (cn (js n) (cn (fB n) (cn (jv n) (cn (mm n) (cn (mn n) nl))))) fun x=>by kernel_rfl
def sE(n:Nat):Mv:=⟨⟨[.val true [I,I,(.sl 3 (.one I)),(.sl 84 k8),I,(.sl 54 k10),(.sl 41 k6),(.sl 80 k5),(.sl 3 (.one I)),(.sl 3 (.one I)),I],.val false [I]],[(true,[(I,0),(I,0),((.sl 3 (.one I)),2),((.sl 84 k8),2),(I,0),((.sl 54 k10),2),((.sl 41 k6),2),((.sl 80 k5),2),((.sl 3 (.one I)),2),((.sl 3 (.one I)),2),(I,0)]),(false,[(.bool,0)])]⟩,fun x=>N.XM n x.1 x.2.1 x.2.2.1 x.2.2.2.1 x.2.2.2.2.1 x.2.2.2.2.2.1 x.2.2.2.2.2.2.1 x.2.2.2.2.2.2.2.1 x.2.2.2.2.2.2.2.2.1 x.2.2.2.2.2.2.2.2.2.1 x.2.2.2.2.2.2.2.2.2.2.1 x.2.2.2.2.2.2.2.2.2.2.2⟩
theorem oc(n:Nat):FO 28 (sE n):=mk (an:=⟨fun _=>none,
 fun b=>match b with
  |0=>some ([.own 9 80 k5 2 false,.slot 10 I,.slot 36 I,.box 4 [some (I,0),some (I,0),some ((.sl 3 (.one I)),2),some ((.sl 84 k8),2),some (I,0),some ((.sl 54 k10),2),some ((.sl 41 k6),2),some ((.sl 80 k5),2),some ((.sl 3 (.one I)),2),some ((.sl 3 (.one I)),2),some (I,0)],.box 6 [some (I,0),some (I,0),some ((.sl 3 (.one I)),2),some ((.sl 84 k8),2),some (I,0),some ((.sl 54 k10),2),some ((.sl 41 k6),2),some ((.sl 80 k5),2),some ((.sl 3 (.one I)),2),some ((.sl 3 (.one I)),2),some (I,0)]],true)
  |_=>none,
 fun b=>match b with
  |7=>some ([.own 9 80 k5 2 false,.slot 10 I,.box 4 [some (I,0),some (I,0),some ((.sl 3 (.one I)),2),some ((.sl 84 k8),2),some (I,0),some ((.sl 54 k10),2),some ((.sl 41 k6),2),some ((.sl 80 k5),2),some ((.sl 3 (.one I)),2),some ((.sl 3 (.one I)),2),some (I,0)],.box 6 [some (I,0),some (I,0),some ((.sl 3 (.one I)),2),some ((.sl 84 k8),2),some (I,0),some ((.sl 54 k10),2),some ((.sl 41 k6),2),some ((.sl 80 k5),2),some ((.sl 3 (.one I)),2),some ((.sl 3 (.one I)),2),some (I,0)]],true)
  |_=>none,
 fun _=>[]⟩) (n:=n) Tryz.func28 rfl (cn (l7 n) (cn (l8 n) (cn (kX n) (cn (ny n) (cn (pB n) nl))))) fun x=>by kernel_rfl
def s5(n:Nat):Mv:=⟨⟨[.val false [(.sl 5 (.one (.int .u8)))]],[(false,[(.bool,0)])]⟩,fun x=>N.YC n x⟩
theorem rz(n:Nat):FO 5 (s5 n):=mk (an:=UA) (n:=n) Tryz.func5 rfl (cn (r6 n) (cn (l7 n) (cn (oX n) (cn (oY n) (cn (nv n) (cn (oZ n) (cn (oa n) (cn (l8 n) (cn (oc n) (cn (kX n) (cn (l9 n) nl))))))))))) fun x=>by kernel_rfl
end Go.Proofs.YtccgnkaemdnniaaGreat.Ev
