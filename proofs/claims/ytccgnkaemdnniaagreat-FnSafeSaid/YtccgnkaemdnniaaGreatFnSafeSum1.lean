/- Summaries of the functions. Conditions: none. -/
import Derived.Test.YtccgnkaemdnniaaGreatFnSafeSum0
set_option linter.all false
namespace Go.Proofs.YtccgnkaemdnniaaGreat.Ev
open Go Go.Ev Go.Proofs
set_option maxRecDepth 100000
def s99(n:Nat):Mv:=⟨⟨[.box [((.sl 5 (.one (.int .u8))),0),(I,0),(I,0)],.val true [I,I,(.sl 3 (.one I)),(.sl 84 k8),I,(.sl 54 k10),(.sl 41 k6),(.sl 80 k5),(.sl 3 (.one I)),(.sl 3 (.one I)),I]],[(true,[(I,0),(I,0),((.sl 3 (.one I)),0),((.sl 84 k8),0),(I,0),((.sl 54 k10),0),((.sl 41 k6),0),((.sl 80 k5),0),((.sl 3 (.one I)),0),((.sl 3 (.one I)),0),(I,0)])]⟩,fun x=>N.V5 n x.1 x.2.1 x.2.2.1 x.2.2.2.1 x.2.2.2.2.1 x.2.2.2.2.2.1 x.2.2.2.2.2.2.1 x.2.2.2.2.2.2.2.1 x.2.2.2.2.2.2.2.2.1 x.2.2.2.2.2.2.2.2.2.1 x.2.2.2.2.2.2.2.2.2.2.1 x.2.2.2.2.2.2.2.2.2.2.2.1 x.2.2.2.2.2.2.2.2.2.2.2.2.1 x.2.2.2.2.2.2.2.2.2.2.2.2.2⟩
theorem pn(n:Nat):FO 99 (s99 n):=mk (an:=⟨fun _=>none,
 fun _=>none,
 fun b=>match b with
  |9=>some ([.box 0 [some ((.sl 5 (.one (.int .u8))),0),some (I,0),some (I,0)],.box 5 [some (I,0),some (I,0),some ((.sl 3 (.one I)),0),some ((.sl 84 k8),0),some (I,0),some ((.sl 54 k10),0),some ((.sl 41 k6),0),some ((.sl 80 k5),0),some ((.sl 3 (.one I)),0),some ((.sl 3 (.one I)),0),some (I,0)]],false)
  |_=>none,
 fun _=>[]⟩) (n:=n) Tryz.func99 rfl (cn (lG n) (cn (dE n) (cn (jG n) (cn (nR n) (cn (nT n) nl))))) fun x=>by kernel_rfl
def sd(n:Nat):Mv:=⟨⟨[.val false [(.sl 5 (.one (.int .u8)))]],[(true,[(I,0),(I,0),((.sl 3 (.one I)),0),((.sl 84 k8),0),(I,0),((.sl 54 k10),0),((.sl 41 k6),0),((.sl 80 k5),0),((.sl 3 (.one I)),0),((.sl 3 (.one I)),0),(I,0)])]⟩,fun x=>N.Xr n x⟩
theorem pI(n:Nat):FO 45 (sd n):=mk (an:=⟨fun _=>none,
 fun b=>match b with
  |0=>some ([.slot 5 I,.box 4 [some (I,0),some (I,0),some ((.sl 3 (.one I)),0),some ((.sl 84 k8),0),some (I,0),some ((.sl 54 k10),0),some ((.sl 41 k6),0),some ((.sl 80 k5),0),some ((.sl 3 (.one I)),0),some ((.sl 3 (.one I)),0),some (I,0)],.box 7 [some ((.sl 5 (.one (.int .u8))),0),some (I,0),some (I,0)]],false)
  |_=>none,
 fun _=>none,
 fun _=>[]⟩) (n:=n) Tryz.func45 rfl (cn (pF n) (cn (pG n) (cn (pH n) (cn (dE n) (cn (pn n) nl))))) fun x=>by kernel_rfl
def sH(n:Nat):Mv:=⟨⟨[.val false [(.sl 5 (.one (.int .u8)))]],[(true,[(I,0),(I,0),((.sl 3 (.one I)),0),((.sl 84 k8),0),(I,0),((.sl 54 k10),0),((.sl 41 k6),0),((.sl 80 k5),0),((.sl 3 (.one I)),0),((.sl 3 (.one I)),0),(I,0)])]⟩,fun x=>N.U8 n x⟩
theorem o5(n:Nat):FO 14 (sH n):=mk (an:=Vk) (n:=n) Tryz.func14 rfl (cn (pI n) nl) fun x=>by kernel_rfl
def sZ(n:Nat):Mv:=⟨⟨[.val false [I],.val false [I],.val false [I]],[(false,[(.bool,0)])]⟩,fun x=>N.PY x.1 x.2.1 x.2.2⟩
theorem ax(n:Nat):FO 42 (sZ n):=mk (an:=Vk) (n:=n) Tryz.func42 rfl nl fun x=>by kernel_rfl
def sf(n:Nat):Mv:=⟨⟨[.val true [I,I,(.sl 3 (.one I))]],[(false,[(.bool,0)])]⟩,fun x=>N.Sq n x.1 x.2.1 x.2.2⟩
theorem mX(n:Nat):FO 46 (sf n):=mk (an:=⟨fun _=>none,
 fun b=>match b with
  |0=>some ([.slot 29 I],true)
  |_=>none,
 fun _=>none,
 fun _=>[]⟩) (n:=n) Tryz.func46 rfl (cn (ax n) nl) fun x=>by kernel_rfl
def pq(n:Nat):Mv:=⟨⟨[.val true [I,I,(.sl 88 k3)]],[(false,[(.bool,0)])]⟩,fun x=>N.Xj n x.1 x.2.1 x.2.2⟩
theorem mz(n:Nat):FO 100 (pq n):=mk (an:=⟨fun _=>none,
 fun b=>match b with
  |0=>some ([.slot 24 I],true)
  |_=>none,
 fun _=>none,
 fun _=>[]⟩) (n:=n) Tryz.func100 rfl (cn (ax n) nl) fun x=>by kernel_rfl
def sg(n:Nat):Mv:=⟨⟨[.val true [(.sl 84 k8)]],[(false,[(.bool,0)])]⟩,fun x=>N.Q8 n x⟩
theorem oK(n:Nat):FO 47 (sg n):=mk (an:=⟨fun _=>none,
 fun b=>match b with
  |0=>some ([.slot 10 I],true)
  |2=>some ([.slot 39 I],true)
  |_=>none,
 fun _=>none,
 fun _=>[]⟩) (n:=n) Tryz.func47 rfl (cn (mz n) nl) fun x=>by kernel_rfl
def pr(n:Nat):Mv:=⟨⟨[.val false [(.sl 129 k1)]],[(false,[(.bool,0)])]⟩,fun x=>N.Ro n x⟩
theorem m4(n:Nat):FO 101 (pr n):=mk (an:=⟨fun _=>none,
 fun b=>match b with
  |0=>some ([.slot 7 I],true)
  |_=>none,
 fun _=>none,
 fun _=>[]⟩) (n:=n) Tryz.func101 rfl (cn (ax n) nl) fun x=>by kernel_rfl
def qD(n:Nat):Mv:=⟨⟨[.val false [(.sl 129 k1)]],[(false,[((.sl 129 k1),2)])]⟩,fun x=>N.QE x⟩
theorem lz(n:Nat):FO 115 (qD n):=mk (an:=Vk) (n:=n) Tryz.func115 rfl nl fun x=>by kernel_rfl
def pt(n:Nat):Mv:=⟨⟨[.val false [(.sl 102 k3)],.val false [(.sl 129 k1)]],[(false,[(.bool,0)])]⟩,fun x=>N.UJ n x.1 x.2⟩
theorem m5(n:Nat):FO 102 (pt n):=mk (an:=⟨fun _=>none,
 fun b=>match b with
  |0=>some ([.slot 16 I,.own 5 129 k1 2 false],true)
  |2=>some ([.slot 8 .bool,.slot 22 I,.own 5 129 k1 2 false],false)
  |4=>some ([.slot 59 I],true)
  |_=>none,
 fun _=>none,
 fun _=>[]⟩) (n:=n) Tryz.func102 rfl (cn (ax n) (cn (lz n) nl)) fun x=>by kernel_rfl
def si(n:Nat):Mv:=⟨⟨[.val true [I,(.sl 54 k10)]],[(false,[(.bool,0)])]⟩,fun x=>N.Q7 n x.1 x.2⟩
theorem pJ(n:Nat):FO 48 (si n):=mk (an:=⟨fun _=>none,
 fun b=>match b with
  |0=>some ([.slot 18 I],true)
  |_=>none,
 fun _=>none,
 fun _=>[]⟩) (n:=n) Tryz.func48 rfl (cn (ax n) (cn (m4 n) (cn (m5 n) nl))) fun x=>by kernel_rfl
def tH(n:Nat):Mv:=⟨⟨[.val true [I,I,(.sl 3 (.one I))],.val false [I]],[(false,[(.bool,0)])]⟩,fun x=>N.SW x.1 x.2.1 x.2.2.1 x.2.2.2⟩
theorem pZ(n:Nat):FO 76 (tH n):=mk (an:=Vk) (n:=n) Tryz.func76 rfl (cn (ax n) nl) fun x=>by kernel_rfl
def sS(n:Nat):Mv:=⟨⟨[.val true [I,I,(.sl 3 (.one I))],.val false [I]],[(false,[(I,0)])]⟩,fun x=>N.Ql n x.1 x.2.1 x.2.2.1 x.2.2.2⟩
theorem pC(n:Nat):FO 30 (sS n):=mk (an:=Vk) (n:=n) Tryz.func30 rfl (cn (mX n) (cn (pZ n) nl)) fun x=>by kernel_rfl
def pv(n:Nat):Mv:=⟨⟨[.val true [I,I,(.sl 3 (.one I))],.val true [I,I,I,.bool,I]],[(false,[(.bool,0)])]⟩,fun x=>N.RK n x.1 x.2.1 x.2.2.1 x.2.2.2.1 x.2.2.2.2.1 x.2.2.2.2.2.1 x.2.2.2.2.2.2.1 x.2.2.2.2.2.2.2⟩
theorem m6(n:Nat):FO 103 (pv n):=mk (an:=Vk) (n:=n) Tryz.func103 rfl (cn (pC n) nl) fun x=>by kernel_rfl
def sj(n:Nat):Mv:=⟨⟨[.val true [I,I,(.sl 3 (.one I))],.val false [(.sl 41 k6)]],[(false,[(.bool,0)])]⟩,fun x=>N.SR n x.1 x.2.1 x.2.2.1 x.2.2.2⟩
theorem oL(n:Nat):FO 49 (sj n):=mk (an:=⟨fun _=>none,
 fun b=>match b with
  |0=>some ([.slot 19 I],true)
  |2=>some ([.slot 59 I],true)
  |_=>none,
 fun _=>none,
 fun _=>[]⟩) (n:=n) Tryz.func49 rfl (cn (ax n) (cn (mX n) (cn (m6 n) nl))) fun x=>by kernel_rfl
def sn(n:Nat):Mv:=⟨⟨[.val false [(.sl 80 k5)]],[(false,[(.bool,0)])]⟩,fun x=>N.Vp n x⟩
theorem pK(n:Nat):FO 50 (sn n):=mk (an:=⟨fun _=>none,
 fun b=>match b with
  |0=>some ([.slot 10 I],true)
  |2=>some ([.slot 51 I],true)
  |_=>none,
 fun _=>none,
 fun _=>[]⟩) (n:=n) Tryz.func50 rfl (cn (ax n) nl) fun x=>by kernel_rfl
def sq(n:Nat):Mv:=⟨⟨[.val false [(.sl 3 (.one I))]],[(false,[(.bool,0)])]⟩,fun x=>N.TF n x⟩
theorem pL(n:Nat):FO 51 (sq n):=mk (an:=⟨fun _=>none,
 fun b=>match b with
  |0=>some ([.slot 7 I],true)
  |_=>none,
 fun _=>none,
 fun _=>[]⟩) (n:=n) Tryz.func51 rfl (cn (ax n) nl) fun x=>by kernel_rfl
def tE(n:Nat):Mv:=⟨⟨[.val true [I,(.sl 54 k10)],.val false [I]],[(false,[(I,0)])]⟩,fun x=>N.Qe n x.1 x.2.1 x.2.2⟩
theorem mY(n:Nat):FO 72 (tE n):=mk (an:=⟨fun _=>none,
 fun b=>match b with
  |0=>some ([.slot 10 I],true)
  |_=>none,
 fun _=>none,
 fun _=>[]⟩) (n:=n) Tryz.func72 rfl nl fun x=>by kernel_rfl
def px(n:Nat):Mv:=⟨⟨[.val true [(.sl 84 k8)],.val false [I]],[(false,[(I,0)])]⟩,fun x=>N.WU n x.1 x.2⟩
theorem lr(n:Nat):FO 104 (px n):=mk (an:=⟨fun _=>none,
 fun b=>match b with
  |0=>some ([.slot 10 I],true)
  |_=>none,
 fun _=>none,
 fun _=>[]⟩) (n:=n) Tryz.func104 rfl nl fun x=>by kernel_rfl
def tG(n:Nat):Mv:=⟨⟨[.val false [(.sl 3 (.one I))],.val false [I]],[(false,[(.bool,0)])]⟩,fun x=>N.Qm n x.1 x.2⟩
theorem oN(n:Nat):FO 75 (tG n):=mk (an:=⟨fun _=>none,
 fun b=>match b with
  |0=>some ([.slot 9 I],true)
  |_=>none,
 fun _=>none,
 fun _=>[]⟩) (n:=n) Tryz.func75 rfl nl fun x=>by kernel_rfl
def sR(n:Nat):Mv:=⟨⟨[.val false [(.sl 102 k3)]],[(false,[((.sl 3 (.one I)),2)])]⟩,fun x=>N.VT n x⟩
theorem pB(n:Nat):FO 29 (sR n):=mk (an:=⟨fun _=>none,
 fun b=>match b with
  |0=>some ([.own 3 3 (.one I) 2 false,.slot 8 I],false)
  |_=>none,
 fun b=>match b with
  |7=>some ([.own 3 3 (.one I) 2 false],false)
  |_=>none,
 fun _=>[]⟩) (n:=n) Tryz.func29 rfl (cn (oN n) nl) fun x=>by kernel_rfl
def pz(n:Nat):Mv:=⟨⟨[.val false [(.sl 41 k6)],.val false [I]],[(false,[(I,0)])]⟩,fun x=>N.Sw n x.1 x.2⟩
theorem m7(n:Nat):FO 105 (pz n):=mk (an:=⟨fun _=>none,
 fun b=>match b with
  |0=>some ([.slot 9 I],true)
  |_=>none,
 fun _=>none,
 fun _=>[]⟩) (n:=n) Tryz.func105 rfl nl fun x=>by kernel_rfl
def p7(n:Nat):Mv:=⟨⟨[.val true [I,I,(.sl 3 (.one I)),(.sl 84 k8),I,(.sl 54 k10),(.sl 41 k6),(.sl 80 k5),(.sl 3 (.one I)),(.sl 3 (.one I)),I],.val true [I,I,I,I]],[(false,[(I,0)])]⟩,fun x=>N.Wn n x.1 x.2.1 x.2.2.1 x.2.2.2.1 x.2.2.2.2.1 x.2.2.2.2.2.1 x.2.2.2.2.2.2.1 x.2.2.2.2.2.2.2.1 x.2.2.2.2.2.2.2.2.1 x.2.2.2.2.2.2.2.2.2.1 x.2.2.2.2.2.2.2.2.2.2.1 x.2.2.2.2.2.2.2.2.2.2.2.1 x.2.2.2.2.2.2.2.2.2.2.2.2.1 x.2.2.2.2.2.2.2.2.2.2.2.2.2.1 x.2.2.2.2.2.2.2.2.2.2.2.2.2.2⟩
theorem m8(n:Nat):FO 106 (p7 n):=mk (an:=Vk) (n:=n) Tryz.func106 rfl (cn (mY n) (cn (lr n) nl)) fun x=>by kernel_rfl
def ss(n:Nat):Mv:=⟨⟨[.val true [I,I,(.sl 3 (.one I)),(.sl 84 k8),I,(.sl 54 k10),(.sl 41 k6),(.sl 80 k5),(.sl 3 (.one I)),(.sl 3 (.one I)),I],.val true [I,I,I,I]],[(false,[(.bool,0)])]⟩,fun x=>N.SX n x.1 x.2.1 x.2.2.1 x.2.2.2.1 x.2.2.2.2.1 x.2.2.2.2.2.1 x.2.2.2.2.2.2.1 x.2.2.2.2.2.2.2.1 x.2.2.2.2.2.2.2.2.1 x.2.2.2.2.2.2.2.2.2.1 x.2.2.2.2.2.2.2.2.2.2.1 x.2.2.2.2.2.2.2.2.2.2.2.1 x.2.2.2.2.2.2.2.2.2.2.2.2.1 x.2.2.2.2.2.2.2.2.2.2.2.2.2.1 x.2.2.2.2.2.2.2.2.2.2.2.2.2.2⟩
theorem pM(n:Nat):FO 52 (ss n):=mk (an:=Vk) (n:=n) Tryz.func52 rfl (cn (pB n) (cn (mY n) (cn (oN n) (cn (lr n) (cn (m7 n) (cn (m8 n) nl)))))) fun x=>by kernel_rfl
def sJ(n:Nat):Mv:=⟨⟨[.val true [I,I,(.sl 3 (.one I)),(.sl 84 k8),I,(.sl 54 k10),(.sl 41 k6),(.sl 80 k5),(.sl 3 (.one I)),(.sl 3 (.one I)),I]],[(false,[(.bool,0)])]⟩,fun x=>N.Sp n x.1 x.2.1 x.2.2.1 x.2.2.2.1 x.2.2.2.2.1 x.2.2.2.2.2.1 x.2.2.2.2.2.2.1 x.2.2.2.2.2.2.2.1 x.2.2.2.2.2.2.2.2.1 x.2.2.2.2.2.2.2.2.2.1 x.2.2.2.2.2.2.2.2.2.2⟩
theorem nU(n:Nat):FO 16 (sJ n):=mk (an:=⟨fun _=>none,
 fun b=>match b with
  |0=>some ([.slot 56 I],true)
  |_=>none,
 fun _=>none,
 fun _=>[]⟩) (n:=n) Tryz.func16 rfl (cn (ax n) (cn (mX n) (cn (oK n) (cn (pJ n) (cn (oL n) (cn (pK n) (cn (pL n) (cn (pM n) nl)))))))) fun x=>by kernel_rfl
def su(n:Nat):Mv:=⟨⟨[.val true [I,I,(.sl 88 k3)],.val false [I]],[(false,[(I,0)]),(false,[(.bool,0)])]⟩,fun x=>N.Qf n x.1 x.2.1 x.2.2.1 x.2.2.2⟩
theorem oM(n:Nat):FO 53 (su n):=mk (an:=⟨fun b=>match b with
  |4=>some [.slot 4 I,.slot 5 .bool]
  |_=>none,
 fun b=>match b with
  |0=>some ([.slot 6 I],false)
  |_=>none,
 fun _=>none,
 fun _=>[]⟩) (n:=n) Tryz.func53 rfl nl fun x=>by kernel_rfl
def sU(n:Nat):Mv:=⟨⟨[.val true [(.sl 84 k8)],.val false [I]],[(false,[(I,0)])]⟩,fun x=>N.Xf n x.1 x.2⟩
theorem pE(n:Nat):FO 36 (sU n):=mk (an:=⟨fun _=>none,
 fun b=>match b with
  |0=>some ([.slot 5 I,.slot 17 I],false)
  |_=>none,
 fun b=>match b with
  |7=>some ([.slot 5 I],false)
  |_=>none,
 fun _=>[]⟩) (n:=n) Tryz.func36 rfl (cn (oK n) (cn (oM n) nl)) fun x=>by kernel_rfl
def sK(n:Nat):Mv:=⟨⟨[.val true [I,I,(.sl 3 (.one I)),(.sl 84 k8),I,(.sl 54 k10),(.sl 41 k6),(.sl 80 k5),(.sl 3 (.one I)),(.sl 3 (.one I)),I]],[(false,[(.bool,0)])]⟩,fun x=>N.VR n x.1 x.2.1 x.2.2.1 x.2.2.2.1 x.2.2.2.2.1 x.2.2.2.2.2.1 x.2.2.2.2.2.2.1 x.2.2.2.2.2.2.2.1 x.2.2.2.2.2.2.2.2.1 x.2.2.2.2.2.2.2.2.2.1 x.2.2.2.2.2.2.2.2.2.2⟩
theorem nX(n:Nat):FO 17 (sK n):=mk (an:=⟨fun _=>none,
 fun b=>match b with
  |0=>some ([.slot 3 I],true)
  |_=>none,
 fun _=>none,
 fun _=>[]⟩) (n:=n) Tryz.func17 rfl (cn (pE n) (cn (ax n) nl)) fun x=>by kernel_rfl
def qM(n:Nat):Mv:=⟨⟨[.val false [(.sl 102 k3)]],[(false,[((.sl 102 k3),2)])]⟩,fun x=>N.WT x⟩
theorem nD(n:Nat):FO 124 (qM n):=mk (an:=Vk) (n:=n) Tryz.func124 rfl nl fun x=>by kernel_rfl
def tF(n:Nat):Mv:=⟨⟨[.val true [I,I,(.sl 129 k1),(.sl 102 k3),I]],[(true,[(I,0),(I,0),((.sl 129 k1),2),((.sl 102 k3),2),(I,0)])]⟩,fun x=>N.RQ x.1 x.2.1 x.2.2.1 x.2.2.2.1 x.2.2.2.2⟩
theorem pY(n:Nat):FO 73 (tF n):=mk (an:=Vk) (n:=n) Tryz.func73 rfl (cn (lz n) (cn (nD n) nl)) fun x=>by kernel_rfl
def sQ(n:Nat):Mv:=⟨⟨[.val true [I,(.sl 54 k10)],.val false [I]],[(true,[(I,0),(I,0),((.sl 129 k1),2),((.sl 102 k3),2),(I,0)]),(false,[(.bool,0)])]⟩,fun x=>N.UD n x.1 x.2.1 x.2.2⟩
theorem o9(n:Nat):FO 27 (sQ n):=mk (an:=Vk) (n:=n) Tryz.func27 rfl (cn (mY n) (cn (pY n) nl)) fun x=>by kernel_rfl
def p8(n:Nat):Mv:=⟨⟨[.val true [I,I,(.sl 129 k1),(.sl 102 k3),I],.val false [I]],[(false,[((.sl 102 k3),2)])]⟩,fun x=>N.Vo n x.1 x.2.1 x.2.2.1 x.2.2.2.1 x.2.2.2.2.1 x.2.2.2.2.2⟩
theorem m9(n:Nat):FO 107 (p8 n):=mk (an:=⟨fun _=>none,
 fun b=>match b with
  |0=>some ([.own 5 102 k3 2 false,.slot 11 I],false)
  |_=>none,
 fun b=>match b with
  |7=>some ([.own 5 102 k3 2 false],false)
  |_=>none,
 fun _=>[]⟩) (n:=n) Tryz.func107 rfl nl fun x=>by kernel_rfl
def sv(n:Nat):Mv:=⟨⟨[.val true [I,I,(.sl 3 (.one I)),(.sl 84 k8),I,(.sl 54 k10),(.sl 41 k6),(.sl 80 k5),(.sl 3 (.one I)),(.sl 3 (.one I)),I],.val false [I],.val false [I]],[(false,[(I,0)])]⟩,fun x=>N.Wo n x.1 x.2.1 x.2.2.1 x.2.2.2.1 x.2.2.2.2.1 x.2.2.2.2.2.1 x.2.2.2.2.2.2.1 x.2.2.2.2.2.2.2.1 x.2.2.2.2.2.2.2.2.1 x.2.2.2.2.2.2.2.2.2.1 x.2.2.2.2.2.2.2.2.2.2.1 x.2.2.2.2.2.2.2.2.2.2.2.1 x.2.2.2.2.2.2.2.2.2.2.2.2⟩
theorem pN(n:Nat):FO 54 (sv n):=mk (an:=⟨fun _=>none,
 fun b=>match b with
  |0=>some ([.slot 7 I,.slot 17 I],false)
  |2=>some ([.slot 7 I,.slot 47 I],false)
  |_=>none,
 fun b=>match b with
  |7=>some ([.slot 7 I],false)
  |13=>some ([.slot 7 I],false)
  |_=>none,
 fun _=>[]⟩) (n:=n) Tryz.func54 rfl (cn (o9 n) (cn (ax n) (cn (m9 n) nl))) fun x=>by kernel_rfl
def sL(n:Nat):Mv:=⟨⟨[.val true [I,I,(.sl 3 (.one I)),(.sl 84 k8),I,(.sl 54 k10),(.sl 41 k6),(.sl 80 k5),(.sl 3 (.one I)),(.sl 3 (.one I)),I]],[(false,[(.bool,0)])]⟩,fun x=>N.WO n x.1 x.2.1 x.2.2.1 x.2.2.2.1 x.2.2.2.2.1 x.2.2.2.2.2.1 x.2.2.2.2.2.2.1 x.2.2.2.2.2.2.2.1 x.2.2.2.2.2.2.2.2.1 x.2.2.2.2.2.2.2.2.2.1 x.2.2.2.2.2.2.2.2.2.2⟩
theorem nk(n:Nat):FO 18 (sL n):=mk (an:=⟨fun _=>none,
 fun b=>match b with
  |0=>some ([.slot 13 I],true)
  |2=>some ([.slot 5 I],true)
  |_=>none,
 fun b=>match b with
  |27=>some ([.slot 6 I],false)
  |_=>none,
 fun _=>[]⟩) (n:=n) Tryz.func18 rfl (cn (oM n) (cn (pN n) nl)) fun x=>by kernel_rfl
def sM(n:Nat):Mv:=⟨⟨[.val true [I,I,(.sl 3 (.one I)),(.sl 84 k8),I,(.sl 54 k10),(.sl 41 k6),(.sl 80 k5),(.sl 3 (.one I)),(.sl 3 (.one I)),I]],[(false,[(.bool,0)])]⟩,fun x=>N.VS n x.1 x.2.1 x.2.2.1 x.2.2.2.1 x.2.2.2.2.1 x.2.2.2.2.2.1 x.2.2.2.2.2.2.1 x.2.2.2.2.2.2.2.1 x.2.2.2.2.2.2.2.2.1 x.2.2.2.2.2.2.2.2.2.1 x.2.2.2.2.2.2.2.2.2.2⟩
theorem nv(n:Nat):FO 19 (sM n):=mk (an:=⟨fun _=>none,
 fun b=>match b with
  |0=>some ([.slot 17 I],true)
  |2=>some ([.slot 5 .bool,.slot 24 I],false)
  |_=>none,
 fun _=>none,
 fun _=>[]⟩) (n:=n) Tryz.func19 rfl (cn (oL n) nl) fun x=>by kernel_rfl
def sN(n:Nat):Mv:=⟨⟨[.val true [I,I,(.sl 3 (.one I)),(.sl 84 k8),I,(.sl 54 k10),(.sl 41 k6),(.sl 80 k5),(.sl 3 (.one I)),(.sl 3 (.one I)),I]],[(false,[(.bool,0)])]⟩,fun x=>N.XM n x.1 x.2.1 x.2.2.1 x.2.2.2.1 x.2.2.2.2.1 x.2.2.2.2.2.1 x.2.2.2.2.2.2.1 x.2.2.2.2.2.2.2.1 x.2.2.2.2.2.2.2.2.1 x.2.2.2.2.2.2.2.2.2.1 x.2.2.2.2.2.2.2.2.2.2⟩
theorem n9(n:Nat):FO 20 (sN n):=mk (an:=⟨fun _=>none,
 fun b=>match b with
  |0=>some ([.slot 12 I],true)
  |2=>some ([.slot 5 .bool,.slot 19 I],false)
  |_=>none,
 fun _=>none,
 fun _=>[]⟩) (n:=n) Tryz.func20 rfl nl fun x=>by kernel_rfl
def sI(n:Nat):Mv:=⟨⟨[.val true [I,I,(.sl 3 (.one I)),(.sl 84 k8),I,(.sl 54 k10),(.sl 41 k6),(.sl 80 k5),(.sl 3 (.one I)),(.sl 3 (.one I)),I]],[(false,[(I,0)])]⟩,fun x=>N.Zv n x.1 x.2.1 x.2.2.1 x.2.2.2.1 x.2.2.2.2.1 x.2.2.2.2.2.1 x.2.2.2.2.2.2.1 x.2.2.2.2.2.2.2.1 x.2.2.2.2.2.2.2.2.1 x.2.2.2.2.2.2.2.2.2.1 x.2.2.2.2.2.2.2.2.2.2⟩
theorem o6(n:Nat):FO 15 (sI n):=mk (an:=Vk) (n:=n) Tryz.func15 rfl (cn (nU n) (cn (nX n) (cn (nk n) (cn (nv n) (cn (n9 n) nl))))) fun x=>by kernel_rfl
def sw(n:Nat):Mv:=⟨⟨[.val true [I,I,(.sl 3 (.one I)),(.sl 84 k8),I,(.sl 54 k10),(.sl 41 k6),(.sl 80 k5),(.sl 3 (.one I)),(.sl 3 (.one I)),I]],[(false,[(.bool,0)])]⟩,fun x=>N.Tv n x.1 x.2.1 x.2.2.1 x.2.2.2.1 x.2.2.2.2.1 x.2.2.2.2.2.1 x.2.2.2.2.2.2.1 x.2.2.2.2.2.2.2.1 x.2.2.2.2.2.2.2.2.1 x.2.2.2.2.2.2.2.2.2.1 x.2.2.2.2.2.2.2.2.2.2⟩
theorem pO(n:Nat):FO 55 (sw n):=mk (an:=⟨fun _=>none,
 fun b=>match b with
  |0=>some ([.slot 3 I],true)
  |_=>none,
 fun _=>none,
 fun _=>[]⟩) (n:=n) Tryz.func55 rfl (cn (XS n) (cn (ly n) nl)) fun x=>by kernel_rfl
def qB(n:Nat):Mv:=⟨⟨[.val true [I,I,(.sl 3 (.one I)),(.sl 84 k8),I,(.sl 54 k10),(.sl 41 k6),(.sl 80 k5),(.sl 3 (.one I)),(.sl 3 (.one I)),I],.val false [I],.val false [I]],[(false,[(I,0)])]⟩,fun x=>N.VJ n x.1 x.2.1 x.2.2.1 x.2.2.2.1 x.2.2.2.2.1 x.2.2.2.2.2.1 x.2.2.2.2.2.2.1 x.2.2.2.2.2.2.2.1 x.2.2.2.2.2.2.2.2.1 x.2.2.2.2.2.2.2.2.2.1 x.2.2.2.2.2.2.2.2.2.2.1 x.2.2.2.2.2.2.2.2.2.2.2.1 x.2.2.2.2.2.2.2.2.2.2.2.2⟩
theorem nA(n:Nat):FO 110 (qB n):=mk (an:=⟨fun _=>none,
 fun b=>match b with
  |0=>some ([.slot 7 I,.slot 8 I],false)
  |2=>some ([.slot 7 I,.slot 12 I],false)
  |_=>none,
 fun b=>match b with
  |7=>some ([.slot 7 I],false)
  |13=>some ([.slot 7 I],false)
  |_=>none,
 fun _=>[]⟩) (n:=n) Tryz.func110 rfl (cn (XS n) (cn (mA n) nl)) fun x=>by kernel_rfl
def sx(n:Nat):Mv:=⟨⟨[.val true [I,I,(.sl 3 (.one I)),(.sl 84 k8),I,(.sl 54 k10),(.sl 41 k6),(.sl 80 k5),(.sl 3 (.one I)),(.sl 3 (.one I)),I]],[(false,[(.bool,0)])]⟩,fun x=>N.Xo n x.1 x.2.1 x.2.2.1 x.2.2.2.1 x.2.2.2.2.1 x.2.2.2.2.2.1 x.2.2.2.2.2.2.1 x.2.2.2.2.2.2.2.1 x.2.2.2.2.2.2.2.2.1 x.2.2.2.2.2.2.2.2.2.1 x.2.2.2.2.2.2.2.2.2.2⟩
theorem pP(n:Nat):FO 56 (sx n):=mk (an:=⟨fun _=>none,
 fun b=>match b with
  |0=>some ([.slot 3 I],true)
  |2=>some ([.slot 5 I],true)
  |_=>none,
 fun _=>none,
 fun _=>[]⟩) (n:=n) Tryz.func56 rfl (cn (hY n) (cn (nA n) nl)) fun x=>by kernel_rfl
def sy(n:Nat):Mv:=⟨⟨[.val true [I,I,(.sl 3 (.one I)),(.sl 84 k8),I,(.sl 54 k10),(.sl 41 k6),(.sl 80 k5),(.sl 3 (.one I)),(.sl 3 (.one I)),I]],[(false,[(.bool,0)])]⟩,fun x=>N.Wv n x.1 x.2.1 x.2.2.1 x.2.2.2.1 x.2.2.2.2.1 x.2.2.2.2.2.1 x.2.2.2.2.2.2.1 x.2.2.2.2.2.2.2.1 x.2.2.2.2.2.2.2.2.1 x.2.2.2.2.2.2.2.2.2.1 x.2.2.2.2.2.2.2.2.2.2⟩
theorem pQ(n:Nat):FO 57 (sy n):=mk (an:=⟨fun _=>none,
 fun b=>match b with
  |0=>some ([.slot 3 I],true)
  |2=>some ([.slot 4 .bool,.slot 5 I],false)
  |_=>none,
 fun _=>none,
 fun _=>[]⟩) (n:=n) Tryz.func57 rfl (cn (lH n) (cn (XS n) nl)) fun x=>by kernel_rfl
def sz(n:Nat):Mv:=⟨⟨[.val true [I,I,(.sl 3 (.one I)),(.sl 84 k8),I,(.sl 54 k10),(.sl 41 k6),(.sl 80 k5),(.sl 3 (.one I)),(.sl 3 (.one I)),I]],[(false,[(.bool,0)])]⟩,fun x=>N.Yj n x.1 x.2.1 x.2.2.1 x.2.2.2.1 x.2.2.2.2.1 x.2.2.2.2.2.1 x.2.2.2.2.2.2.1 x.2.2.2.2.2.2.2.1 x.2.2.2.2.2.2.2.2.1 x.2.2.2.2.2.2.2.2.2.1 x.2.2.2.2.2.2.2.2.2.2⟩
theorem pR(n:Nat):FO 58 (sz n):=mk (an:=⟨fun _=>none,
 fun b=>match b with
  |0=>some ([.slot 3 I],true)
  |2=>some ([.slot 5 .bool,.slot 6 I],false)
  |_=>none,
 fun _=>none,
 fun _=>[]⟩) (n:=n) Tryz.func58 rfl nl fun x=>by kernel_rfl
def sO(n:Nat):Mv:=⟨⟨[.val true [I,I,(.sl 3 (.one I)),(.sl 84 k8),I,(.sl 54 k10),(.sl 41 k6),(.sl 80 k5),(.sl 3 (.one I)),(.sl 3 (.one I)),I]],[(false,[(I,0)])]⟩,fun x=>N.aF n x.1 x.2.1 x.2.2.1 x.2.2.2.1 x.2.2.2.2.1 x.2.2.2.2.2.1 x.2.2.2.2.2.2.1 x.2.2.2.2.2.2.2.1 x.2.2.2.2.2.2.2.2.1 x.2.2.2.2.2.2.2.2.2.1 x.2.2.2.2.2.2.2.2.2.2⟩
theorem o7(n:Nat):FO 21 (sO n):=mk (an:=Vk) (n:=n) Tryz.func21 rfl (cn (lE n) (cn (pO n) (cn (pP n) (cn (pQ n) (cn (pR n) nl))))) fun x=>by kernel_rfl
def s4(n:Nat):Mv:=⟨⟨[.val false [(.sl 5 (.one (.int .u8)))]],[(false,[(.bool,0)])]⟩,fun x=>N.YJ n x⟩
theorem sE(n:Nat):FO 4 (s4 n):=mk (an:=Vk) (n:=n) Tryz.func4 rfl (cn (sF n) (cn (o5 n) (cn (o6 n) (cn (nU n) (cn (nX n) (cn (nk n) (cn (nv n) (cn (n9 n) (cn (o7 n) nl))))))))) fun x=>by kernel_rfl
end Go.Proofs.YtccgnkaemdnniaaGreat.Ev
