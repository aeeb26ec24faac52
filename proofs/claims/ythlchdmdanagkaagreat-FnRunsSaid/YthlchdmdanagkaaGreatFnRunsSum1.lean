/- Summaries. Conditions: none. -/
import Derived.Test.YthlchdmdanagkaaGreatFnRunsSum0
set_option linter.all false
namespace Go.Proofs.YthlchdmdanagkaaGreat.Ev
open Go Go.Ev Go.Proofs
set_option maxRecDepth 100000
def wj(n:Nat):Mb:=⟨⟨[.val true Sx,.val false [T7]],[(false,V7)]⟩,u4 (N.Zx n)⟩
theorem sy(n:Nat):FO 132 (wj n):=mk (Ws [] [(0,[.slot 18 I,.box 15 [some (I,0),some (I,0),some (Pw,0),some (T7,0),some (Pw,2)]],false),(2,[.slot 33 I,.box 15 [some (I,0),some (I,0),some (Pw,0),some (T7,0),some (Pw,2)]],false)] [(13,[.box 15 [some (I,0),some (I,0),some (Pw,0),some (T7,0),some (Pw,2)]],false)] []) n Tryz.func132 rfl (cn (p8 n) (cn (tT n) (cn (tU n) nl)))
def wk(n:Nat):Mb:=⟨⟨[.val true mH],[(false,QL)]⟩,u5 N.aZ⟩
theorem sz(n:Nat):FO 133 (wk n):=mk Un n Tryz.func133 rfl nl
def wJ(n:Nat):Mb:=⟨⟨[.val true Sx,.val false [T7]],[(false,[(T7,2)])]⟩,u4 (N.VD n)⟩
theorem sR(n:Nat):FO 101 (wJ n):=mk (Ws [] [(0,[.slot 20 I,.own 5 43 k6 2 false],false)] [(7,[.own 5 43 k6 2 false],false)] []) n Tryz.func101 rfl (cn (p8 n) (cn (rZ n) (cn (sy n) (cn (sz n) nl))))
def zl(n:Nat):Mb:=⟨⟨[.val true bX,.val false [I]],[(true,qM),(false,QL)]⟩,u3 (N.Qz n)⟩
theorem wE(n:Nat):FO 89 (zl n):=mk Un n Tryz.func89 rfl (cn (qA n) (cn (qj n) nl))
def zm(n:Nat):Mb:=⟨⟨[.val true n7,.val false [I]],[(false,[(jo,2)])]⟩,u6 (N.VH n)⟩
theorem wF(n:Nat):FO 90 (zm n):=mk (Ws [] [(0,[.own 5 117 k3 2 false,.slot 11 I],false)] [(7,[.own 5 117 k3 2 false],false)] []) n Tryz.func90 rfl nl
def zo(n:Nat):Mb:=⟨⟨[.val true [TA],.val false [I],.val false [I],.val false [I]],[(false,RM),(false,RM)]⟩,u4 (N.Yy n)⟩
theorem wH(n:Nat):FO 94 (zo n):=mk Un n Tryz.func94 rfl (cn (rT n) (cn (ae n) (cn (nX n) nl)))
def zB(n:Nat):Mb:=⟨⟨[.val true [I,I,qL],.val false [I]],[(false,RM),(false,QL)]⟩,u4 (N.Qq n)⟩
theorem uT(n:Nat):FO 46 (zB n):=mk (Ws [(4,[.slot 4 I,.slot 5 .bool])] [(0,[.slot 6 I],false)] [] []) n Tryz.func46 rfl nl
def xk(n:Nat):Mb:=⟨⟨[.val true [TA],.val false [I],.val false [I],.val false [I],.val false [I]],[(true,ZB),(false,RM)]⟩,u5 (N.Vx n)⟩
theorem uL(n:Nat):FO 206 (xk n):=mk Un n Tryz.func206 rfl (cn (ae n) (cn (uT n) (cn (qB n) (cn (wH n) nl))))
def xg(n:Nat):Mb:=⟨⟨[.val true [TA],.val false [I],.val false [I],.val false [I]],[(true,ZB),(false,RM)]⟩,u4 (N.XC n)⟩
theorem uI(n:Nat):FO 191 (xg n):=mk Un n Tryz.func191 rfl (cn (ae n) (cn (qB n) (cn (uL n) nl)))
def xV(n:Nat):Mb:=⟨⟨[.val true [TA],.val false [I],.val false [I],.val false [I]],[(true,ZB),(false,RM)]⟩,u4 (N.XE n)⟩
theorem tw(n:Nat):FO 174 (xV n):=mk (Ws [] [] [(24,[.box 10 [some (TA,2)]],false)] []) n Tryz.func174 rfl (cn (uT n) (cn (nX n) (cn (uI n) nl)))
def pL(n:Nat):Mb:=⟨⟨[.val true [TA],.val false [jo],.fn 174],[(true,ZB),(false,QL)]⟩,u2 (N.VO n)⟩
theorem nT(n:Nat):FO 173 (pL n):=mk (U8 [(0,[.slot 17 I,.box 6 [some (TA,2)],.box 8 [some (TA,2)]],true)]) n Tryz.func173 rfl (cn (qB n) (cn (tw n) nl))
def xL(n:Nat):Mb:=⟨⟨[.val true [TA],.val false [jo]],[(true,ZB),(false,QL)]⟩,u2 (N.XD n)⟩
theorem tV(n:Nat):FO 158 (xL n):=mk Un n Tryz.func158 rfl (cn (nT n) nl)
def wq(n:Nat):Mb:=⟨⟨[.box [(I,0),(I,0),(Pw,2),(TA,2),(I,0),(ZO,2),(T7,3),(X4,3),(Pw,2),(Pw,2),(I,0)],.val true [I,I,I,I]],[]⟩,sB (N.SM n)⟩
theorem tA(n:Nat):FO 134 (wq n):=mk (U8 [(0,[.slot 42 I,.box 0 [some (I,0),some (I,0),some (Pw,2),some (TA,2),some (I,0),some (ZO,2),some (T7,3),some (X4,3),some (Pw,2),some (Pw,2),some (I,0)]],false)]) n Tryz.func134 rfl (cn (wE n) (cn (wF n) (cn (tV n) nl)))
def xW(n:Nat):Mb:=⟨⟨[.val true bX,.val false [I],.val false [I]],[(true,kz),(false,QL)]⟩,u4 (N.ZZ n)⟩
theorem tz(n:Nat):FO 175 (xW n):=mk Un n Tryz.func175 rfl (cn (uQ n) (cn (qA n) (cn (uX n) nl)))
def xM(n:Nat):Mb:=⟨⟨[.val true bX,.val false [I]],[(true,kz),(false,QL)]⟩,u3 (N.X8 n)⟩
theorem tW(n:Nat):FO 159 (xM n):=mk Un n Tryz.func159 rfl (cn (tz n) nl)
def wu(n:Nat):Mb:=⟨⟨[.box dv,.val false [I]],[]⟩,vH (N.Tj n)⟩
theorem tB(n:Nat):FO 135 (wu n):=mk (U8 [(0,[.slot 40 I],true)]) n Tryz.func135 rfl (cn (ra n) (cn (tW n) nl))
def wK(n:Nat):Mb:=⟨⟨[.box dv,.val false [I]],[(false,QL)]⟩,vH (N.SZ n)⟩
theorem sS(n:Nat):FO 102 (wK n):=mk (Ws [] [] [(15,[.box 0 [some (I,0),some (I,0),some (Pw,2),some (TA,2),some (I,0),some (ZO,2),some (T7,2),some (X4,2),some (Pw,2),some (Pw,2),some (I,0)]],true)] []) n Tryz.func102 rfl (cn (rY n) (cn (uW n) (cn (tA n) (cn (tB n) nl))))
def zH(n:Nat):Mb:=⟨⟨[.box dv],[]⟩,qy (N.Sa n)⟩
theorem vm(n:Nat):FO 57 (zH n):=mk (Ws [(13,[.slot 9 .bool,.box 0 [some (I,0),some (I,0),some (Pw,2),some (TA,2),some (I,0),some (ZO,2),some (T7,2),some (X4,2),some (Pw,2),some (Pw,2),some (I,0)]])] [(0,[.own 4 3 (.one I) 2 false,.slot 55 I],false),(2,[.slot 8 I,.box 0 [some (I,0),some (I,0),some (Pw,2),some (TA,2),some (I,0),some (ZO,2),some (T7,2),some (X4,2),some (Pw,2),some (Pw,2),some (I,0)]],false)] [(7,[.own 4 3 (.one I) 2 false],false)] []) n Tryz.func57 rfl (cn (nY n) (cn (rY n) (cn (sQ n) (cn (sR n) (cn (sS n) nl)))))
def yd(n:Nat):Mb:=⟨⟨[.val true aA],[(true,dv)]⟩,qy (N.Zy n)⟩
theorem vW(n:Nat):FO 24 (yd n):=mk (Ws [] [] [(9,[.box 3 [some (I,0),some (I,0),some (Pw,2),some (TA,2),some (I,0),some (ZO,2),some (T7,2),some (X4,2),some (Pw,2),some (Pw,2),some (I,0)]],false)] []) n Tryz.func24 rfl (cn (yU n) (cn (uS n) (cn (vm n) nl)))
def yW(n:Nat):Mb:=⟨⟨[.val true aA,.val false [I]],[(true,dv)]⟩,vH (N.Yg n)⟩
theorem vP(n:Nat):FO 10 (yW n):=mk (U8 [(0,[.slot 13 I,.box 5 [some (I,0),some (I,0),some (Pw,2),some (TA,2),some (I,0),some (ZO,2),some (T7,2),some (X4,2),some (Pw,2),some (Pw,2),some (I,0)]],false)]) n Tryz.func10 rfl (cn (vW n) (cn (ae n) (cn (uS n) nl)))
def zC(n:Nat):Mb:=⟨⟨[.val true Sx],[(false,[(.str,0)])]⟩,u3 (N.TU n)⟩
theorem vg(n:Nat):FO 48 (zC n):=mk (Ws [] [(0,[.own 3 5 (.one (.int .u8)) 2 false,.slot 4 I],false)] [(7,[.own 3 5 (.one (.int .u8)) 2 false],false)] []) n Tryz.func48 rfl (cn (nU n) nl)
def yb(n:Nat):Mb:=⟨⟨[.val true [TA],.val true [TA]],[(false,QL)]⟩,u2 (N.VW n)⟩
theorem vU(n:Nat):FO 22 (yb n):=mk (U8 [(0,[.slot 5 I],true),(2,[.slot 8 I],true)]) n Tryz.func22 rfl nl
def zD(n:Nat):Mb:=⟨⟨[.val false [T7],.val false [T7]],[(false,QL)]⟩,u2 (N.WM n)⟩
theorem vh(n:Nat):FO 49 (zD n):=mk (U8 [(0,[.slot 5 I],true)]) n Tryz.func49 rfl nl
def zE(n:Nat):Mb:=⟨⟨[.val false [X4],.val false [X4]],[(false,QL)]⟩,u2 (N.VX n)⟩
theorem vk(n:Nat):FO 50 (zE n):=mk (U8 [(0,[.slot 5 I],true)]) n Tryz.func50 rfl nl
def yc(n:Nat):Mb:=⟨⟨[.val false [Pw],.val false [Pw]],[(false,QL)]⟩,u2 (N.UJ n)⟩
theorem vV(n:Nat):FO 23 (yc n):=mk (U8 [(0,[.slot 5 I],true)]) n Tryz.func23 rfl nl
def yY(n:Nat):Mb:=⟨⟨[.val true aA,.val true aA],[(false,QL)]⟩,z8 (N.VV n)⟩
theorem vR(n:Nat):FO 17 (yY n):=mk Un n Tryz.func17 rfl (cn (vU n) (cn (vV n) (cn (vg n) (cn (vh n) (cn (vk n) nl)))))
def yZ(n:Nat):Mb:=⟨⟨[.val true aA],[(false,QL)]⟩,qy (N.Zw n)⟩
theorem vS(n:Nat):FO 18 (yZ n):=mk (U8 [(0,[.slot 8 I],true)]) n Tryz.func18 rfl nl
def s4(n:Nat):Mb:=⟨⟨[.val false [jn]],[(false,QL)]⟩,N.Zd n⟩
theorem yR(n:Nat):FO 4 (s4 n):=mk (U8 [(0,[.slot 8 .bool,.slot 9 I],false)]) n Tryz.func4 rfl (cn (yS n) (cn (yT n) (cn (vP n) (cn (vQ n) (cn (vR n) (cn (vS n) nl))))))
end Go.Proofs.YthlchdmdanagkaaGreat.Ev
