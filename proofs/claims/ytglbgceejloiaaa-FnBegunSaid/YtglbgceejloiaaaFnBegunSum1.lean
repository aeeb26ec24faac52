/- Summaries of the functions. Conditions: none. -/
import Derived.Test.YtglbgceejloiaaaFnBegunSum0
namespace Go.Proofs.Ytglbgceejloiaaa.Ev
open Go Go.Ev Go.Proofs
set_option linter.unusedVariables false
set_option maxRecDepth 100000
def VW:Sm:=⟨[.val true [I,I,(.sl 3 (.one I)),(.sl 104 k7),I,(.sl 54 k10),(.sl 43 k5),(.sl 75 k4),(.sl 3 (.one I)),(.sl 3 (.one I)),I], .val false [I], .val false [I]],[(false,[(I,0)])]⟩
def WO:An:=⟨fun _=>none,
 fun b=>match b with
  | 0=>some ([.slot 7 I, .slot 17 I],false)
  | 2=>some ([.slot 7 I, .slot 47 I],false)
  | _=>none,
 fun b=>match b with
  | 7=>some ([.slot 7 I],false)
  | 13=>some ([.slot 7 I],false)
  | _=>none,
 fun _=>[]⟩
def bQ (n:Nat):Mz:=⟨VW,fun x=>N.Rf n x.1 x.2.1 x.2.2.1 x.2.2.2.1 x.2.2.2.2.1 x.2.2.2.2.2.1 x.2.2.2.2.2.2.1 x.2.2.2.2.2.2.2.1 x.2.2.2.2.2.2.2.2.1 x.2.2.2.2.2.2.2.2.2.1 x.2.2.2.2.2.2.2.2.2.2.1 x.2.2.2.2.2.2.2.2.2.2.2.1 x.2.2.2.2.2.2.2.2.2.2.2.2⟩
def XL (n:Nat):List (FuncId×Mz):=[(19,fA n),(71,Uo n),(168,bV n)]
theorem Vw:Mw Try.prog 137:=⟨_,_,Try.func137,rfl,by kernel_rfl⟩
theorem aG (n:Nat) (x:VW.ins.D):L9 (find tbl) (plain (XL n)) WO n Try.f137 VW x=N.Rf n x.1 x.2.1 x.2.2.1 x.2.2.2.1 x.2.2.2.2.1 x.2.2.2.2.2.1 x.2.2.2.2.2.2.1 x.2.2.2.2.2.2.2.1 x.2.2.2.2.2.2.2.2.1 x.2.2.2.2.2.2.2.2.2.1 x.2.2.2.2.2.2.2.2.2.2.1 x.2.2.2.2.2.2.2.2.2.2.2.1 x.2.2.2.2.2.2.2.2.2.2.2.2:=by kernel_rfl
theorem af (n:Nat):K6 Try.prog TT 137 (bQ n):=OJ (an:=WO) (n:=n) Try.func137 rfl (by kernel_rfl) PF (OI (OQ (dX n) Wg (OQ (TE n) RI (OQ (ak n) V1 Oc)))) follows (aG n)
def YC:Sm:=⟨[.val true [I,I,(.sl 3 (.one I)),(.sl 104 k7),I,(.sl 54 k10),(.sl 43 k5),(.sl 75 k4),(.sl 3 (.one I)),(.sl 3 (.one I)),I]],[(false,[(.bool,0)])]⟩
def Y5:An:=⟨fun _=>none,
 fun b=>match b with
  | 0=>some ([.slot 13 I],true)
  | 2=>some ([.slot 5 I],true)
  | _=>none,
 fun b=>match b with
  | 27=>some ([.slot 6 I],false)
  | _=>none,
 fun _=>[]⟩
def fR (n:Nat):Mz:=⟨YC,fun x=>N.RU n x.1 x.2.1 x.2.2.1 x.2.2.2.1 x.2.2.2.2.1 x.2.2.2.2.2.1 x.2.2.2.2.2.2.1 x.2.2.2.2.2.2.2.1 x.2.2.2.2.2.2.2.2.1 x.2.2.2.2.2.2.2.2.2.1 x.2.2.2.2.2.2.2.2.2.2⟩
def Zr (n:Nat):List (FuncId×Mz):=[(94,eO n),(137,bQ n)]
theorem Wv:Mw Try.prog 74:=⟨_,_,Try.func74,rfl,by kernel_rfl⟩
theorem dF (n:Nat) (x:YC.ins.D):L9 (find tbl) (plain (Zr n)) Y5 n Try.f74 YC x=N.RU n x.1 x.2.1 x.2.2.1 x.2.2.2.1 x.2.2.2.2.1 x.2.2.2.2.2.1 x.2.2.2.2.2.2.1 x.2.2.2.2.2.2.2.1 x.2.2.2.2.2.2.2.2.1 x.2.2.2.2.2.2.2.2.2.1 x.2.2.2.2.2.2.2.2.2.2:=by kernel_rfl
theorem dx (n:Nat):K6 Try.prog TT 74 (fR n):=OJ (an:=Y5) (n:=n) Try.func74 rfl (by kernel_rfl) PF (OI (OQ (bD n) U4 (OQ (af n) Vw Oc))) follows (dF n)
def YD:Sm:=⟨[.val true [I,I,(.sl 3 (.one I)),(.sl 104 k7),I,(.sl 54 k10),(.sl 43 k5),(.sl 75 k4),(.sl 3 (.one I)),(.sl 3 (.one I)),I]],[(false,[(.bool,0)])]⟩
def Y6:An:=⟨fun _=>none,
 fun b=>match b with
  | 0=>some ([.slot 17 I],true)
  | 2=>some ([.slot 5 .bool, .slot 24 I],false)
  | _=>none,
 fun _=>none,
 fun _=>[]⟩
def fS (n:Nat):Mz:=⟨YD,fun x=>N.RC n x.1 x.2.1 x.2.2.1 x.2.2.2.1 x.2.2.2.2.1 x.2.2.2.2.2.1 x.2.2.2.2.2.2.1 x.2.2.2.2.2.2.2.1 x.2.2.2.2.2.2.2.2.1 x.2.2.2.2.2.2.2.2.2.1 x.2.2.2.2.2.2.2.2.2.2⟩
def Zs (n:Nat):List (FuncId×Mz):=[(34,eH n)]
theorem Ww:Mw Try.prog 75:=⟨_,_,Try.func75,rfl,by kernel_rfl⟩
theorem dG (n:Nat) (x:YD.ins.D):L9 (find tbl) (plain (Zs n)) Y6 n Try.f75 YD x=N.RC n x.1 x.2.1 x.2.2.1 x.2.2.2.1 x.2.2.2.2.1 x.2.2.2.2.2.1 x.2.2.2.2.2.2.1 x.2.2.2.2.2.2.2.1 x.2.2.2.2.2.2.2.2.1 x.2.2.2.2.2.2.2.2.2.1 x.2.2.2.2.2.2.2.2.2.2:=by kernel_rfl
theorem dy (n:Nat):K6 Try.prog TT 75 (fS n):=OJ (an:=Y6) (n:=n) Try.func75 rfl (by kernel_rfl) PF (OI (OQ (aw n) Ux Oc)) follows (dG n)
def YE:Sm:=⟨[.val true [I,I,(.sl 3 (.one I)),(.sl 104 k7),I,(.sl 54 k10),(.sl 43 k5),(.sl 75 k4),(.sl 3 (.one I)),(.sl 3 (.one I)),I]],[(false,[(.bool,0)])]⟩
def Y7:An:=⟨fun _=>none,
 fun b=>match b with
  | 0=>some ([.slot 12 I],true)
  | 2=>some ([.slot 5 .bool, .slot 19 I],false)
  | _=>none,
 fun _=>none,
 fun _=>[]⟩
def fT (n:Nat):Mz:=⟨YE,fun x=>N.Rn n x.1 x.2.1 x.2.2.1 x.2.2.2.1 x.2.2.2.2.1 x.2.2.2.2.2.1 x.2.2.2.2.2.2.1 x.2.2.2.2.2.2.2.1 x.2.2.2.2.2.2.2.2.1 x.2.2.2.2.2.2.2.2.2.1 x.2.2.2.2.2.2.2.2.2.2⟩
def Zt (n:Nat):List (FuncId×Mz):=[]
theorem Wx:Mw Try.prog 76:=⟨_,_,Try.func76,rfl,by kernel_rfl⟩
theorem dH (n:Nat) (x:YE.ins.D):L9 (find tbl) (plain (Zt n)) Y7 n Try.f76 YE x=N.Rn n x.1 x.2.1 x.2.2.1 x.2.2.2.1 x.2.2.2.2.1 x.2.2.2.2.2.1 x.2.2.2.2.2.2.1 x.2.2.2.2.2.2.2.1 x.2.2.2.2.2.2.2.2.1 x.2.2.2.2.2.2.2.2.2.1 x.2.2.2.2.2.2.2.2.2.2:=by kernel_rfl
theorem dz (n:Nat):K6 Try.prog TT 76 (fT n):=OJ (an:=Y7) (n:=n) Try.func76 rfl (by kernel_rfl) PF (OI Oc) follows (dH n)
def Xi:Sm:=⟨[.val true [I,I,(.sl 3 (.one I)),(.sl 104 k7),I,(.sl 54 k10),(.sl 43 k5),(.sl 75 k4),(.sl 3 (.one I)),(.sl 3 (.one I)),I]],[(false,[(I,0)])]⟩
def Yb:An:=⟨fun _=>none,
 fun _=>none,
 fun _=>none,
 fun _=>[]⟩
def eh (n:Nat):Mz:=⟨Xi,fun x=>N.Rp n x.1 x.2.1 x.2.2.1 x.2.2.2.1 x.2.2.2.2.1 x.2.2.2.2.2.1 x.2.2.2.2.2.2.1 x.2.2.2.2.2.2.2.1 x.2.2.2.2.2.2.2.2.1 x.2.2.2.2.2.2.2.2.2.1 x.2.2.2.2.2.2.2.2.2.2⟩
def ZM (n:Nat):List (FuncId×Mz):=[(12,eF n),(73,fQ n),(74,fR n),(75,fS n),(76,fT n)]
theorem Wc:Mw Try.prog 13:=⟨_,_,Try.func13,rfl,by kernel_rfl⟩
theorem cL (n:Nat) (x:Xi.ins.D):L9 (find tbl) (plain (ZM n)) Yb n Try.f13 Xi x=N.Rp n x.1 x.2.1 x.2.2.1 x.2.2.2.1 x.2.2.2.2.1 x.2.2.2.2.2.1 x.2.2.2.2.2.2.1 x.2.2.2.2.2.2.2.1 x.2.2.2.2.2.2.2.2.1 x.2.2.2.2.2.2.2.2.2.1 x.2.2.2.2.2.2.2.2.2.2:=by kernel_rfl
theorem dU (n:Nat):K6 Try.prog TT 13 (eh n):=OJ (an:=Yb) (n:=n) Try.func13 rfl (by kernel_rfl) PF (OI (OQ (aS n) Uv (OQ (dw n) Wu (OQ (dx n) Wv (OQ (dy n) Ww (OQ (dz n) Wx Oc)))))) follows (cL n)
def Xj:Sm:=⟨[.val true [I,I,(.sl 3 (.one I)),(.sl 104 k7),I,(.sl 54 k10),(.sl 43 k5),(.sl 75 k4),(.sl 3 (.one I)),(.sl 3 (.one I)),I]],[(false,[(.bool,0)])]⟩
def Yc:An:=⟨fun _=>none,
 fun b=>match b with
  | 0=>some ([.slot 8 I],true)
  | _=>none,
 fun _=>none,
 fun _=>[]⟩
def ek (n:Nat):Mz:=⟨Xj,fun x=>N.Ro n x.1 x.2.1 x.2.2.1 x.2.2.2.1 x.2.2.2.2.1 x.2.2.2.2.2.1 x.2.2.2.2.2.2.1 x.2.2.2.2.2.2.2.1 x.2.2.2.2.2.2.2.2.1 x.2.2.2.2.2.2.2.2.2.1 x.2.2.2.2.2.2.2.2.2.2⟩
def ZN (n:Nat):List (FuncId×Mz):=[]
theorem We:Mw Try.prog 14:=⟨_,_,Try.func14,rfl,by kernel_rfl⟩
theorem cM (n:Nat) (x:Xj.ins.D):L9 (find tbl) (plain (ZN n)) Yc n Try.f14 Xj x=N.Ro n x.1 x.2.1 x.2.2.1 x.2.2.2.1 x.2.2.2.2.1 x.2.2.2.2.2.1 x.2.2.2.2.2.2.1 x.2.2.2.2.2.2.2.1 x.2.2.2.2.2.2.2.2.1 x.2.2.2.2.2.2.2.2.2.1 x.2.2.2.2.2.2.2.2.2.2:=by kernel_rfl
theorem dV (n:Nat):K6 Try.prog TT 14 (ek n):=OJ (an:=Yc) (n:=n) Try.func14 rfl (by kernel_rfl) PF (OI Oc) follows (cM n)
def Xk:Sm:=⟨[.val true [(.sl 104 k7)], .val true [(.sl 104 k7)]],[(false,[(.bool,0)])]⟩
def Yd:An:=⟨fun _=>none,
 fun b=>match b with
  | 0=>some ([.slot 5 I],true)
  | 2=>some ([.slot 8 I],true)
  | _=>none,
 fun _=>none,
 fun _=>[]⟩
def eu (n:Nat):Mz:=⟨Xk,fun x=>N.Ps n x.1 x.2⟩
def ZO (n:Nat):List (FuncId×Mz):=[]
theorem Wf:Mw Try.prog 15:=⟨_,_,Try.func15,rfl,by kernel_rfl⟩
theorem cN (n:Nat) (x:Xk.ins.D):L9 (find tbl) (plain (ZO n)) Yd n Try.f15 Xk x=N.Ps n x.1 x.2:=by kernel_rfl
theorem dW (n:Nat):K6 Try.prog TT 15 (eu n):=OJ (an:=Yd) (n:=n) Try.func15 rfl (by kernel_rfl) PF (OI Oc) follows (cN n)
def eP:Sm:=⟨[.val false [(.sl 5 (.one (.int .u8)))]],[(false,[(.bool,0)])]⟩
def eV:An:=⟨fun _=>none,
 fun b=>match b with
  | 0=>some ([.slot 10 I],true)
  | _=>none,
 fun _=>none,
 fun _=>[]⟩
def s3 (n:Nat):Mz:=⟨eP,fun x=>N.RQ n x⟩
def cE (n:Nat):List (FuncId×Mz):=[(7,s7 n),(8,s8 n),(9,s9 n),(10,ed n),(11,eE n),(12,eF n),(13,eh n),(14,ek n),(15,eu n)]
theorem eZ:Mw Try.prog 3:=⟨_,_,Try.func3,rfl,by kernel_rfl⟩
theorem fi (n:Nat) (x:eP.ins.D):L9 (find tbl) (plain (cE n)) eV n Try.f3 eP x=N.RQ n x:=by kernel_rfl
theorem gD (n:Nat):K6 Try.prog TT 3 (s3 n):=OJ (an:=eV) (n:=n) Try.func3 rfl (by kernel_rfl) PF (OI (OQ (gE n) ZG (OQ (gF n) ZH (OQ (gG n) ZI (OQ (dT n) Wb (OQ (aP n) Uu (OQ (aS n) Uv (OQ (dU n) Wc (OQ (dV n) We (OQ (dW n) Wf Oc)))))))))) follows (fi n)
end Go.Proofs.Ytglbgceejloiaaa.Ev
