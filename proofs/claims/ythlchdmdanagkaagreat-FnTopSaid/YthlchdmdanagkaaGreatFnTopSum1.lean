/- Summaries of the functions. Conditions: none. -/
import Derived.Test.YthlchdmdanagkaaGreatFnTopSum0
set_option linter.all false
namespace Go.Proofs.YthlchdmdanagkaaGreat.Ev
open Go Go.Ev Go.Proofs
set_option maxRecDepth 100000
def wK(n:Nat):Mb:=⟨⟨[.val true S6,.val false [T4]],[(false,Vv)]⟩,u4 (N.Zo n)⟩
theorem sP(n:Nat):FO 132 (wK n):=mk (Vw [] [(0,[.slot 18 I,.box 15 [some (I,0),some (I,0),some (Px,0),some (T4,0),some (Px,2)]],false),(2,[.slot 33 I,.box 15 [some (I,0),some (I,0),some (Px,0),some (T4,0),some (Px,2)]],false)] [(13,[.box 15 [some (I,0),some (I,0),some (Px,0),some (T4,0),some (Px,2)]],false)] []) n Tryz.func132 rfl (cn (oT n) (cn (sz n) (cn (tA n) nl)))
def wL(n:Nat):Mb:=⟨⟨[.val true lV],[(false,QM)]⟩,u5 N.aL⟩
theorem sQ(n:Nat):FO 133 (wL n):=mk UN n Tryz.func133 rfl nl
def vk(n:Nat):Mb:=⟨⟨[.val true S6,.val false [T4]],[(false,[(T4,2)])]⟩,u4 (N.U5 n)⟩
theorem ry(n:Nat):FO 101 (vk n):=mk (Vw [] [(0,[.slot 20 I,.own 5 43 k6 2 false],false)] [(7,[.own 5 43 k6 2 false],false)] []) n Tryz.func101 rfl (cn (oT n) (cn (rC n) (cn (sP n) (cn (sQ n) nl))))
def zO(n:Nat):Mb:=⟨⟨[.val true bK,.val false [I]],[(true,pr),(false,QM)]⟩,u3 (N.Qx n)⟩
theorem uF(n:Nat):FO 89 (zO n):=mk UN n Tryz.func89 rfl (cn (pU n) (cn (qM n) nl))
def zP(n:Nat):Mb:=⟨⟨[.val true nP,.val false [I]],[(false,[(jQ,2)])]⟩,u6 (N.U9 n)⟩
theorem uG(n:Nat):FO 90 (zP n):=mk (Vw [] [(0,[.own 5 117 k3 2 false,.slot 11 I],false)] [(7,[.own 5 117 k3 2 false],false)] []) n Tryz.func90 rfl nl
def zR(n:Nat):Mb:=⟨⟨[.val true [S7],.val false [I],.val false [I],.val false [I]],[(false,RA),(false,RA)]⟩,u4 (N.Yq n)⟩
theorem vg(n:Nat):FO 94 (zR n):=mk UN n Tryz.func94 rfl (cn (pR n) (cn (ZZ n) (cn (mv n) nl)))
def yd(n:Nat):Mb:=⟨⟨[.val true [I,I,pq],.val false [I]],[(false,RA),(false,QM)]⟩,u4 (N.Qp n)⟩
theorem pS(n:Nat):FO 46 (yd n):=mk (Vw [(4,[.slot 4 I,.slot 5 .bool])] [(0,[.slot 6 I],false)] [] []) n Tryz.func46 rfl nl
def xK(n:Nat):Mb:=⟨⟨[.val true [S7],.val false [I],.val false [I],.val false [I],.val false [I]],[(true,Y4),(false,RA)]⟩,u5 (N.Vm n)⟩
theorem tc(n:Nat):FO 206 (xK n):=mk UN n Tryz.func206 rfl (cn (ZZ n) (cn (pS n) (cn (pV n) (cn (vg n) nl))))
def xI(n:Nat):Mb:=⟨⟨[.val true [S7],.val false [I],.val false [I],.val false [I]],[(true,Y4),(false,RA)]⟩,u4 (N.Wx n)⟩
theorem tX(n:Nat):FO 191 (xI n):=mk UN n Tryz.func191 rfl (cn (ZZ n) (cn (pV n) (cn (tc n) nl)))
def w8(n:Nat):Mb:=⟨⟨[.val true [S7],.val false [I],.val false [I],.val false [I]],[(true,Y4),(false,RA)]⟩,u4 (N.Wz n)⟩
theorem tN(n:Nat):FO 174 (w8 n):=mk (Vw [] [] [(24,[.box 10 [some (S7,2)]],false)] []) n Tryz.func174 rfl (cn (pS n) (cn (mv n) (cn (tX n) nl)))
def ov(n:Nat):Mb:=⟨⟨[.val true [S7],.val false [jQ],.fn 174],[(true,Y4),(false,QM)]⟩,u2 (N.VG n)⟩
theorem mq(n:Nat):FO 173 (ov n):=mk (Vh [(0,[.slot 17 I,.box 6 [some (S7,2)],.box 8 [some (S7,2)]],true)]) n Tryz.func173 rfl (cn (pV n) (cn (tN n) nl))
def wq(n:Nat):Mb:=⟨⟨[.val true [S7],.val false [jQ]],[(true,Y4),(false,QM)]⟩,u2 (N.Wy n)⟩
theorem tB(n:Nat):FO 158 (wq n):=mk UN n Tryz.func158 rfl (cn (mq n) nl)
def wM(n:Nat):Mb:=⟨⟨[.box [(I,0),(I,0),(Px,2),(S7,2),(I,0),(ZH,2),(T4,3),(YM,3),(Px,2),(Px,2),(I,0)],.val true [I,I,I,I]],[]⟩,rS (N.SN n)⟩
theorem sR(n:Nat):FO 134 (wM n):=mk (Vh [(0,[.slot 42 I,.box 0 [some (I,0),some (I,0),some (Px,2),some (S7,2),some (I,0),some (ZH,2),some (T4,3),some (YM,3),some (Px,2),some (Px,2),some (I,0)]],false)]) n Tryz.func134 rfl (cn (uF n) (cn (uG n) (cn (tB n) nl)))
def w9(n:Nat):Mb:=⟨⟨[.val true bK,.val false [I],.val false [I]],[(true,kM),(false,QM)]⟩,u4 (N.ZR n)⟩
theorem tO(n:Nat):FO 175 (w9 n):=mk UN n Tryz.func175 rfl (cn (tv n) (cn (pU n) (cn (uD n) nl)))
def wu(n:Nat):Mb:=⟨⟨[.val true bK,.val false [I]],[(true,kM),(false,QM)]⟩,u3 (N.Xw n)⟩
theorem tC(n:Nat):FO 159 (wu n):=mk UN n Tryz.func159 rfl (cn (tO n) nl)
def wN(n:Nat):Mb:=⟨⟨[.box dY,.val false [I]],[]⟩,uf (N.Tc n)⟩
theorem sS(n:Nat):FO 135 (wN n):=mk (Vh [(0,[.slot 40 I],true)]) n Tryz.func135 rfl (cn (rD n) (cn (tC n) nl))
def vl(n:Nat):Mb:=⟨⟨[.box dY,.val false [I]],[(false,QM)]⟩,uf (N.RN n)⟩
theorem rz(n:Nat):FO 102 (vl n):=mk (Vw [] [] [(15,[.box 0 [some (I,0),some (I,0),some (Px,2),some (S7,2),some (I,0),some (ZH,2),some (T4,2),some (YM,2),some (Px,2),some (Px,2),some (I,0)]],true)] []) n Tryz.func102 rfl (cn (rB n) (cn (uC n) (cn (sR n) (cn (sS n) nl))))
def yh(n:Nat):Mb:=⟨⟨[.box dY],[]⟩,nZ (N.Sb n)⟩
theorem vN(n:Nat):FO 57 (yh n):=mk (Vw [(13,[.slot 9 .bool,.box 0 [some (I,0),some (I,0),some (Px,2),some (S7,2),some (I,0),some (ZH,2),some (T4,2),some (YM,2),some (Px,2),some (Px,2),some (I,0)]])] [(0,[.own 4 3 (.one I) 2 false,.slot 55 I],false),(2,[.slot 8 I,.box 0 [some (I,0),some (I,0),some (Px,2),some (S7,2),some (I,0),some (ZH,2),some (T4,2),some (YM,2),some (Px,2),some (Px,2),some (I,0)]],false)] [(7,[.own 4 3 (.one I) 2 false],false)] []) n Tryz.func57 rfl (cn (mw n) (cn (rB n) (cn (ru n) (cn (ry n) (cn (rz n) nl)))))
def yH(n:Nat):Mb:=⟨⟨[.val true Y3],[(true,dY)]⟩,nZ (N.Zp n)⟩
theorem vC(n:Nat):FO 24 (yH n):=mk (Vw [] [] [(9,[.box 3 [some (I,0),some (I,0),some (Px,2),some (S7,2),some (I,0),some (ZH,2),some (T4,2),some (YM,2),some (Px,2),some (Px,2),some (I,0)]],false)] []) n Tryz.func24 rfl (cn (vd n) (cn (tz n) (cn (vN n) nl)))
def xz(n:Nat):Mb:=⟨⟨[.val true Y3,.val false [I]],[(true,dY)]⟩,uf (N.ah n)⟩
theorem uw(n:Nat):FO 10 (xz n):=mk (Vh [(0,[.slot 13 I,.box 5 [some (I,0),some (I,0),some (Px,2),some (S7,2),some (I,0),some (ZH,2),some (T4,2),some (YM,2),some (Px,2),some (Px,2),some (I,0)]],false)]) n Tryz.func10 rfl (cn (vC n) (cn (ZZ n) (cn (tz n) nl)))
def yI(n:Nat):Mb:=⟨⟨[.val true [S7],.val false [I]],[(false,RA)]⟩,u2 (N.Ym n)⟩
theorem vD(n:Nat):FO 25 (yI n):=mk (Vw [] [(0,[.slot 5 I,.slot 17 I],false)] [(7,[.slot 5 I],false)] []) n Tryz.func25 rfl (cn (pR n) (cn (pS n) nl))
def yC(n:Nat):Mb:=⟨⟨[.val true Y3],[(false,QM)]⟩,nZ (N.WT n)⟩
theorem sM(n:Nat):FO 13 (yC n):=mk (Vh [(0,[.slot 3 I],true)]) n Tryz.func13 rfl (cn (vD n) (cn (ZZ n) nl))
def ye(n:Nat):Mb:=⟨⟨[.val true Y3,.val false [I],.val false [I]],[(false,RA)]⟩,xf (N.X0 n)⟩
theorem vL(n:Nat):FO 47 (ye n):=mk (Vw [] [(0,[.slot 7 I,.slot 17 I],false),(2,[.slot 7 I,.slot 47 I],false)] [(7,[.slot 7 I],false),(13,[.slot 7 I],false)] []) n Tryz.func47 rfl (cn (ZZ n) (cn (uF n) (cn (uG n) nl)))
def yD(n:Nat):Mb:=⟨⟨[.val true Y3],[(false,QM)]⟩,nZ (N.XW n)⟩
theorem sW(n:Nat):FO 14 (yD n):=mk (Vw [] [(0,[.slot 13 I],true),(2,[.slot 5 I],true)] [(27,[.slot 6 I],false)] []) n Tryz.func14 rfl (cn (pS n) (cn (vL n) nl))
def yE(n:Nat):Mb:=⟨⟨[.val true Y3],[(false,QM)]⟩,nZ (N.WU n)⟩
theorem su(n:Nat):FO 15 (yE n):=mk (Vh [(0,[.slot 17 I],true),(2,[.slot 5 .bool,.slot 24 I],false)]) n Tryz.func15 rfl (cn (oT n) nl)
def yF(n:Nat):Mb:=⟨⟨[.val true Y3],[(false,QM)]⟩,nZ (N.YU n)⟩
theorem tD(n:Nat):FO 16 (yF n):=mk (Vh [(0,[.slot 12 I],true),(2,[.slot 5 .bool,.slot 19 I],false)]) n Tryz.func16 rfl nl
def yB(n:Nat):Mb:=⟨⟨[.val true Y3],[(false,RA)]⟩,nZ (N.YX n)⟩
theorem vA(n:Nat):FO 12 (yB n):=mk UN n Tryz.func12 rfl (cn (vd n) (cn (sM n) (cn (sW n) (cn (su n) (cn (tD n) nl)))))
def s3(n:Nat):Mb:=⟨⟨[.val false [jP]],[(false,QM)]⟩,N.aM n⟩
theorem xu(n:Nat):FO 3 (s3 n):=mk UN n Tryz.func3 rfl (cn (xv n) (cn (xw n) (cn (uc n) (cn (vd n) (cn (uw n) (cn (uz n) (cn (vA n) (cn (sM n) (cn (sW n) (cn (su n) (cn (tD n) nl)))))))))))
end Go.Proofs.YthlchdmdanagkaaGreat.Ev
