/- Summaries of the functions. Conditions: none. -/
import Derived.Test.YthlchdmdanagkaaGreatFnRestockedSum0
set_option linter.all false
namespace Go.Proofs.YthlchdmdanagkaaGreat.Ev
open Go Go.Ev Go.Proofs
set_option maxRecDepth 100000
def vQ(n:Nat):NB:=⟨⟨[.val false ja],[(false,WR),(false,RV)]⟩,N.Xw n⟩
theorem rQ(n:Nat):FO 131 (vQ n):=mk (V8 [(0,[.own 5 3 (.one I) 2 false,.slot 6 I,.slot 17 I],false),(2,[.own 5 3 (.one I) 2 false,.slot 6 I,.slot 24 I],false)]) n Tryz.func131 rfl (cn (r6 n) (cn (r7 n) nl))
def uf(n:Nat):NB:=⟨⟨[.val true Th,.val true [Sw],.val false [T8],.val false [Ye]],[(false,[(T8,2)]),(false,[(Ye,2)])]⟩,u6 (N.WT n)⟩
theorem qt(n:Nat):FO 100 (uf n):=mk (V6 [] [(0,[.own 14 24 (.one QV) 2 false,.slot 62 I],false),(2,[.own 17 3 (.one I) 2 false,.slot 68 I],false),(4,[.slot 110 I,.own 10 43 k6 2 false,.own 11 65 k5 2 false],false)] [(19,[.own 10 43 k6 2 false,.own 11 65 k5 2 false],false),(48,[.slot 20 I],false)] []) n Tryz.func100 rfl (cn (na n) (cn (oZ n) (cn (oa n) (cn (ss n) (cn (mJ n) (cn (qG n) (cn (qH n) (cn (rM n) (cn (rO n) (cn (rP n) (cn (rQ n) nl)))))))))))
def vx(n:Nat):NB:=⟨⟨[.val false [T8]],[(false,WR)]⟩,N.Xx n⟩
theorem r8(n:Nat):FO 156 (vx n):=td (V8 [(0,[.slot 7 I,.box 3 [some (QV,2)]],false)]) n Tryz.func156 rfl (Nz nl oF (by kernel_rfl):Jn Tryz.prog TT (Nq _ 168 169 jQ []))
def tE(n:Nat):NB:=⟨⟨[.val true Th,.val true kf],[(false,WR)]⟩,u8 (N.UA n)⟩
theorem sI(n:Nat):FO 170 (tE n):=td (V6 [] [(0,[.slot 58 I,.box 6 [some (QV,2)]],false)] [(15,[.box 5 [some (QV,2)]],false),(42,[.box 6 [some (QV,2)]],false)] []) n Tryz.func170 rfl (Nz (cn (na n) (cn (sw n) (cn (mK n) (cn (pT n) (cn (pU n) (cn (pV n) nl)))))) kW (by kernel_rfl):Jn Tryz.prog TT (Nq _ 168 190 eh [212]))
def tF(n:Nat):NB:=⟨⟨[.box qO,.val false [I]],[(false,Qv)]⟩,u6 (N.UI n)⟩
theorem sJ(n:Nat):FO 171 (tF n):=mk VD n Tryz.func171 rfl (cn (mK n) nl)
def tG(n:Nat):NB:=⟨⟨[.box qO,.val false [I],.val false [I]],[(false,RV)]⟩,u7 (N.Sa n)⟩
theorem sK(n:Nat):FO 172 (tG n):=mk (V8 [(0,[.slot 14 I],true)]) n Tryz.func172 rfl nl
def mU(n:Nat):NB:=⟨⟨[.box qO,.val false [I],.val false [I]],[(false,Qv)]⟩,u7 (N.Qc n)⟩
def pH:An:=V6 [(4,[.slot 45 .bool,.box 0 [some (I,0),some (I,0),some (QV,0),some (T8,0),some (QV,2)]]),(7,[.slot 64 .bool,.box 0 [some (I,0),some (I,0),some (QV,0),some (T8,0),some (QV,2)]])] [(0,[.slot 23 I,.box 0 [some (I,0),some (I,0),some (QV,0),some (T8,0),some (QV,2)]],true)] [(7,[.box 0 [some (I,0),some (I,0),some (QV,0),some (T8,0),some (QV,2)]],true)] []
theorem qh(n:Nat)(x:(mU n).s.ins.D):MQ (find tbl) (plain [(157,mU n),(170,tE n),(171,tF n),(172,tG n)]) pH n Tryz.f157 (mU n).s x=N.Qc (n+1) x.1 x.2.1 x.2.2.1 x.2.2.2.1 x.2.2.2.2.1 x.2.2.2.2.2.1 x.2.2.2.2.2.2:=by kernel_rfl
theorem r9(n:Nat):FO 157 (mU n):=by
 induction n with
 |zero=>exact⟨O2,_,_,Tryz.func157,rfl,by kernel_rfl⟩
 |succ n ih=>exact mk (an:=pH) (n:=n) (sm:=(mU n).s) (F:=λ(x:(mU n).s.ins.D)=>N.Qc (n+1) x.1 x.2.1 x.2.2.1 x.2.2.2.1 x.2.2.2.2.1 x.2.2.2.2.2.1 x.2.2.2.2.2.2) Tryz.func157 rfl (cn ih (cn (sI n) (cn (sJ n) (cn (sK n) nl)))) (qh n)
def vR(n:Nat):NB:=⟨⟨[.val true Th,.val false [T8]],[(false,WR)]⟩,u4 (N.Z2 n)⟩
theorem rR(n:Nat):FO 132 (vR n):=mk (V6 [] [(0,[.slot 18 I,.box 15 [some (I,0),some (I,0),some (QV,0),some (T8,0),some (QV,2)]],false),(2,[.slot 33 I,.box 15 [some (I,0),some (I,0),some (QV,0),some (T8,0),some (QV,2)]],false)] [(13,[.box 15 [some (I,0),some (I,0),some (QV,0),some (T8,0),some (QV,2)]],false)] []) n Tryz.func132 rfl (cn (oa n) (cn (r8 n) (cn (r9 n) nl)))
def vS(n:Nat):NB:=⟨⟨[.val true kf],[(false,Qv)]⟩,u5 N.aY⟩
theorem rS(n:Nat):FO 133 (vS n):=mk VD n Tryz.func133 rfl nl
def ug(n:Nat):NB:=⟨⟨[.val true Th,.val false [T8]],[(false,[(T8,2)])]⟩,u4 (N.VZ n)⟩
theorem qu(n:Nat):FO 101 (ug n):=mk (V6 [] [(0,[.slot 20 I,.own 5 43 k6 2 false],false)] [(7,[.own 5 43 k6 2 false],false)] []) n Tryz.func101 rfl (cn (oa n) (cn (qG n) (cn (rR n) (cn (rS n) nl))))
def yZ(n:Nat):NB:=⟨⟨[.val true bP,.val false [I]],[(true,o6),(false,Qv)]⟩,u3 (N.UD n)⟩
theorem ua(n:Nat):FO 89 (yZ n):=mk VD n Tryz.func89 rfl (cn (og n) (cn (pR n) nl))
def ya(n:Nat):NB:=⟨⟨[.val true mc,.val false [I]],[(false,[(iO,2)])]⟩,u6 (N.XP n)⟩
theorem uc(n:Nat):FO 90 (ya n):=mk (V6 [] [(0,[.own 5 117 k3 2 false,.slot 11 I],false)] [(7,[.own 5 117 k3 2 false],false)] []) n Tryz.func90 rfl nl
def wS(n:Nat):NB:=⟨⟨[.val true [Sw],.val false [I],.val false [I],.val false [I],.val false [I]],[(true,Yy),(false,RV)]⟩,u5 (N.WG n)⟩
theorem sY(n:Nat):FO 206 (wS n):=mk VD n Tryz.func206 rfl (cn (ab n) (cn (oc n) (cn (ng n) (cn (s7 n) nl))))
def wQ(n:Nat):NB:=⟨⟨[.val true [Sw],.val false [I],.val false [I],.val false [I]],[(true,Yy),(false,RV)]⟩,u4 (N.XQ n)⟩
theorem sV(n:Nat):FO 191 (wQ n):=mk VD n Tryz.func191 rfl (cn (ab n) (cn (ng n) (cn (sY n) nl)))
def wG(n:Nat):NB:=⟨⟨[.val true [Sw],.val false [I],.val false [I],.val false [I]],[(true,Yy),(false,RV)]⟩,u4 (N.XT n)⟩
theorem sL(n:Nat):FO 174 (wG n):=mk (V6 [] [] [(24,[.box 10 [some (Sw,2)]],false)] []) n Tryz.func174 rfl (cn (oc n) (cn (mJ n) (cn (sV n) nl)))
def n9(n:Nat):NB:=⟨⟨[.val true [Sw],.val false [iO],.fn 174],[(true,Yy),(false,Qv)]⟩,u2 (N.Vj n)⟩
theorem mH(n:Nat):FO 173 (n9 n):=mk (V8 [(0,[.slot 17 I,.box 6 [some (Sw,2)],.box 8 [some (Sw,2)]],true)]) n Tryz.func173 rfl (cn (ng n) (cn (sL n) nl))
def vy(n:Nat):NB:=⟨⟨[.val true [Sw],.val false [iO]],[(true,Yy),(false,Qv)]⟩,u2 (N.XS n)⟩
theorem sA(n:Nat):FO 158 (vy n):=mk VD n Tryz.func158 rfl (cn (mH n) nl)
def vT(n:Nat):NB:=⟨⟨[.box [(I,0),(I,0),(QV,2),(Sw,2),(I,0),(ZY,2),(T8,3),(Ye,3),(QV,2),(QV,2),(I,0)],.val true [I,I,I,I]],[]⟩,qV (N.S0 n)⟩
theorem rT(n:Nat):FO 134 (vT n):=mk (V8 [(0,[.slot 42 I,.box 0 [some (I,0),some (I,0),some (QV,2),some (Sw,2),some (I,0),some (ZY,2),some (T8,3),some (Ye,3),some (QV,2),some (QV,2),some (I,0)]],false)]) n Tryz.func134 rfl (cn (ua n) (cn (uc n) (cn (sA n) nl)))
def wH(n:Nat):NB:=⟨⟨[.val true bP,.val false [I],.val false [I]],[(true,jb),(false,Qv)]⟩,u4 (N.Zh n)⟩
theorem sM(n:Nat):FO 175 (wH n):=mk VD n Tryz.func175 rfl (cn (sq n) (cn (og n) (cn (sy n) nl)))
def vz(n:Nat):NB:=⟨⟨[.val true bP,.val false [I]],[(true,jb),(false,Qv)]⟩,u3 (N.YL n)⟩
theorem sB(n:Nat):FO 159 (vz n):=mk VD n Tryz.func159 rfl (cn (sM n) nl)
def vU(n:Nat):NB:=⟨⟨[.box dX,.val false [I]],[]⟩,wY (N.UB n)⟩
theorem rU(n:Nat):FO 135 (vU n):=mk (V8 [(0,[.slot 40 I],true)]) n Tryz.func135 rfl (cn (qH n) (cn (sB n) nl))
def uh(n:Nat):NB:=⟨⟨[.box dX,.val false [I]],[(false,Qv)]⟩,wY (N.Rv n)⟩
theorem qv(n:Nat):FO 102 (uh n):=mk (V6 [] [] [(15,[.box 0 [some (I,0),some (I,0),some (QV,2),some (Sw,2),some (I,0),some (ZY,2),some (T8,2),some (Ye,2),some (QV,2),some (QV,2),some (I,0)]],true)] []) n Tryz.func102 rfl (cn (qF n) (cn (sx n) (cn (rT n) (cn (rU n) nl))))
def xu(n:Nat):NB:=⟨⟨[.box dX],[]⟩,pd (N.Uw n)⟩
theorem uK(n:Nat):FO 57 (xu n):=mk (V6 [(13,[.slot 9 .bool,.box 0 [some (I,0),some (I,0),some (QV,2),some (Sw,2),some (I,0),some (ZY,2),some (T8,2),some (Ye,2),some (QV,2),some (QV,2),some (I,0)]])] [(0,[.own 4 3 (.one I) 2 false,.slot 55 I],false),(2,[.slot 8 I,.box 0 [some (I,0),some (I,0),some (QV,2),some (Sw,2),some (I,0),some (ZY,2),some (T8,2),some (Ye,2),some (QV,2),some (QV,2),some (I,0)]],false)] [(7,[.own 4 3 (.one I) 2 false],false)] []) n Tryz.func57 rfl (cn (mK n) (cn (qF n) (cn (qt n) (cn (qu n) (cn (qv n) nl)))))
def xO(n:Nat):NB:=⟨⟨[.val true ah],[(true,dX)]⟩,pd (N.Z3 n)⟩
theorem tz(n:Nat):FO 24 (xO n):=mk (V6 [] [] [(9,[.box 3 [some (I,0),some (I,0),some (QV,2),some (Sw,2),some (I,0),some (ZY,2),some (T8,2),some (Ye,2),some (QV,2),some (QV,2),some (I,0)]],false)] []) n Tryz.func24 rfl (cn (ub n) (cn (su n) (cn (uK n) nl)))
def xP(n:Nat):NB:=⟨⟨[.val true [Sw],.val false [I]],[(false,RV)]⟩,u2 (N.WD n)⟩
theorem sj(n:Nat):FO 25 (xP n):=mk (V6 [] [(0,[.slot 5 I,.slot 17 I],false)] [(7,[.slot 5 I],false)] []) n Tryz.func25 rfl (cn (oZ n) (cn (oc n) nl))
def xI(n:Nat):NB:=⟨⟨[.val true ah],[(false,Qv)]⟩,pd (N.Ri n)⟩
theorem te(n:Nat):FO 13 (xI n):=mk (V8 [(0,[.slot 3 I],true)]) n Tryz.func13 rfl (cn (sj n) (cn (ab n) nl))
def s5(n:Nat):NB:=⟨⟨[.val false [fM]],[(false,Qv)]⟩,N.WK n⟩
theorem xF(n:Nat):FO 5 (s5 n):=mk VD n Tryz.func5 rfl (cn (xG n) (cn (ub n) (cn (te n) (cn (tn n) (cn (tu n) (cn (sd n) (cn (tv n) (cn (tw n) (cn (tz n) (cn (sj n) nl))))))))))
end Go.Proofs.YthlchdmdanagkaaGreat.Ev
