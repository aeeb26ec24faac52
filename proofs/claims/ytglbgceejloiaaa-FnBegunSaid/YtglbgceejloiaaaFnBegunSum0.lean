/- Tables of types;summaries of the functions. Conditions: none. -/
import Derived.Test.YtglbgceejloiaaaLib4
import Derived.Test.YtglbgceejloiaaaFnBegunNat
import Derived.Test.YtglbgceejloiaaaProg
import Derived.KernelRfl
namespace Go.Proofs.Ytglbgceejloiaaa.Ev
open Go Go.Ev Go.Proofs
set_option linter.unusedVariables false
set_option maxRecDepth 100000
abbrev I:L := .int .i64
abbrev TT:List (String×Array Value):=[]
def k0:Ls:=(.cons .str (.one (.int .u64)))
def k1:Ls:=(.cons I (.one I))
def k2:Ls:=(.cons I (.cons I (.one I)))
def k3:Ls:=(.cons I (.cons I (.cons .bool (.one (.int .u8)))))
def k4:Ls:=(.cons I (.cons I (.cons I (.one I))))
def k5:Ls:=(.cons I (.cons I (.cons I (.cons .bool (.one I)))))
def k6:Ls:=(.cons I (.cons I (.one (.sl 3 (.one I)))))
def k7:Ls:=(.cons I (.cons I (.one (.sl 109 k2))))
def k8:Ls:=(.cons (.sl 5 (.one (.int .u8))) (.cons I (.one I)))
def k9:Ls:=(.cons I (.cons I (.one (.sl 218 k2))))
def k10:Ls:=(.cons I (.cons I (.cons (.sl 61 k1) (.cons (.sl 170 k2) (.one I)))))
def fy:Ls:=(.cons I (.one (.sl 54 k10)))
def gA:Ls:=(.cons I (.cons I (.cons (.sl 3 (.one I)) (.cons (.sl 104 k7) (.cons I (.cons (.sl 54 k10) (.cons (.sl 43 k5) (.cons (.sl 75 k4) (.cons (.sl 3 (.one I)) (.cons (.sl 3 (.one I)) (.one I)))))))))))
def tbl:List (Nat×Ty):=[
 (3,⟨false,(.one I),[],false⟩),
 (4,⟨false,(.one .bool),[],false⟩),
 (5,⟨false,(.one (.int .u8)),[],false⟩),
 (9,⟨false,(.one .str),[],false⟩),
 (22,⟨false,(.one (.sl 5 (.one (.int .u8)))),[],false⟩),
 (24,⟨false,(.one (.sl 3 (.one I))),[],false⟩),
 (26,⟨true,k6,[(0,3),(1,3),(2,24)],false⟩),
 (27,⟨false,(.one (.sl 104 k7)),[],false⟩),
 (29,⟨true,(.one (.sl 104 k7)),[(0,27)],false⟩),
 (32,⟨false,(.one (.sl 54 k10)),[],false⟩),
 (34,⟨true,fy,[(0,3),(1,32)],false⟩),
 (35,⟨false,(.one (.sl 43 k5)),[],false⟩),
 (36,⟨false,(.one (.sl 75 k4)),[],false⟩),
 (38,⟨true,gA,[(0,26),(3,29),(4,34),(6,35),(7,36),(8,24),(9,24),(10,3)],false⟩),
 (43,⟨true,k5,[(0,3),(1,3),(2,3),(3,4),(4,3)],true⟩),
 (47,⟨false,(.one (.sl 61 k1)),[],false⟩),
 (52,⟨false,(.one (.sl 170 k2)),[],false⟩),
 (54,⟨true,k10,[(0,3),(1,3),(2,47),(3,52),(4,3)],false⟩),
 (61,⟨true,k1,[(0,3),(1,3)],true⟩),
 (75,⟨true,k4,[(0,3),(1,3),(2,3),(3,3)],true⟩),
 (102,⟨false,(.one (.sl 109 k2)),[],false⟩),
 (104,⟨true,k7,[(0,3),(1,3),(2,102)],false⟩),
 (109,⟨true,k2,[(0,3),(1,3),(2,3)],true⟩),
 (161,⟨true,k8,[(0,22),(1,3),(2,3)],false⟩),
 (170,⟨true,k2,[(0,3),(1,3),(2,3)],true⟩),
 (197,⟨false,(.one (.sl 9 (.one .str))),[],false⟩)]
theorem PF:tbl.all (fun p=>Oi Try.prog p.1 p.2)=true:=by kernel_rfl
theorem follows:Try.prog.follows .mixedOrders=true:=by kernel_rfl
def eQ:Sm:=⟨[.val false [(.sl 5 (.one (.int .u8)))]],[(false,[(.bool,0)])]⟩
def eW:An:=⟨fun _=>none,
 fun _=>none,
 fun _=>none,
 fun _=>[]⟩
def s7 (n:Nat):Mz:=⟨eQ,fun x=>N.Sc x⟩
def cF (n:Nat):List (FuncId×Mz):=[]
theorem ZG:Mw Try.prog 7:=⟨_,_,Try.func7,rfl,by kernel_rfl⟩
theorem fj (n:Nat) (x:eQ.ins.D):L9 (find tbl) (plain (cF n)) eW n Try.f7 eQ x=N.Sc x:=by kernel_rfl
theorem gE (n:Nat):K6 Try.prog TT 7 (s7 n):=OJ (an:=eW) (n:=n) Try.func7 rfl (by kernel_rfl) PF (OI Oc) follows (fj n)
def Xr:Sm:=⟨[.val false [(.sl 5 (.one (.int .u8)))]],[(false,[((.sl 5 (.one (.int .u8))),0),(I,0),(I,0)])]⟩
def Yk:An:=⟨fun _=>none,
 fun b=>match b with
  | 0=>some ([.slot 3 I, .slot 4 I],false)
  | _=>none,
 fun _=>none,
 fun _=>[]⟩
def fE (n:Nat):Mz:=⟨Xr,fun x=>N.RZ n x⟩
def ZV (n:Nat):List (FuncId×Mz):=[]
theorem Wj:Mw Try.prog 53:=⟨_,_,Try.func53,rfl,by kernel_rfl⟩
theorem cU (n:Nat) (x:Xr.ins.D):L9 (find tbl) (plain (ZV n)) Yk n Try.f53 Xr x=N.RZ n x:=by kernel_rfl
theorem da (n:Nat):K6 Try.prog TT 53 (fE n):=OJ (an:=Yk) (n:=n) Try.func53 rfl (by kernel_rfl) PF (OI Oc) follows (cU n)
def Va:Sm:=⟨[.box [((.sl 5 (.one (.int .u8))),0),(I,0),(I,0)]],[(false,[(I,0)])]⟩
def WT:An:=⟨fun _=>none,
 fun _=>none,
 fun b=>match b with
  | 12=>some ([.slot 3 I, .box 0 [some ((.sl 5 (.one (.int .u8))),0),some (I,0),some (I,0)]],false)
  | _=>none,
 fun _=>[]⟩
def bU (n:Nat):Mz:=⟨Va,fun x=>N.Pz x.1 x.2.1 x.2.2⟩
def XP (n:Nat):List (FuncId×Mz):=[]
theorem V0:Mw Try.prog 167:=⟨_,_,Try.func167,rfl,by kernel_rfl⟩
theorem aK (n:Nat) (x:Va.ins.D):L9 (find tbl) (plain (XP n)) WT n Try.f167 Va x=N.Pz x.1 x.2.1 x.2.2:=by kernel_rfl
theorem aj (n:Nat):K6 Try.prog TT 167 (bU n):=OJ (an:=WT) (n:=n) Try.func167 rfl (by kernel_rfl) PF (OI Oc) follows (aK n)
def VL:Sm:=⟨[.box [((.sl 5 (.one (.int .u8))),0),(I,0),(I,0)], .val false [I]],[(false,[(I,0)])]⟩
def WD:An:=⟨fun _=>none,
 fun _=>none,
 fun _=>none,
 fun _=>[]⟩
def UJ (n:Nat):Mz:=⟨VL,fun x=>N.PK x.1 x.2.1 x.2.2.1 x.2.2.2⟩
def XB (n:Nat):List (FuncId×Mz):=[(167,bU n)]
theorem Rt:Mw Try.prog 127:=⟨_,_,Try.func127,rfl,by kernel_rfl⟩
theorem Z6 (n:Nat) (x:VL.ins.D):L9 (find tbl) (plain (XB n)) WD n Try.f127 VL x=N.PK x.1 x.2.1 x.2.2.1 x.2.2.2:=by kernel_rfl
theorem Tf (n:Nat):K6 Try.prog TT 127 (UJ n):=OJ (an:=WD) (n:=n) Try.func127 rfl (by kernel_rfl) PF (OI (OQ (aj n) V0 Oc)) follows (Z6 n)
def Xv:Sm:=⟨[.box [((.sl 5 (.one (.int .u8))),0),(I,0),(I,0)], .val false [I]],[(false,[(.bool,0)])]⟩
def Yo:An:=⟨fun _=>none,
 fun _=>none,
 fun _=>none,
 fun _=>[]⟩
def bY (n:Nat):Mz:=⟨Xv,fun x=>N.Pg x.1 x.2.1 x.2.2.1 x.2.2.2⟩
def ZZ (n:Nat):List (FuncId×Mz):=[(127,UJ n)]
theorem T4:Mw Try.prog 57:=⟨_,_,Try.func57,rfl,by kernel_rfl⟩
theorem cY (n:Nat) (x:Xv.ins.D):L9 (find tbl) (plain (ZZ n)) Yo n Try.f57 Xv x=N.Pg x.1 x.2.1 x.2.2.1 x.2.2.2:=by kernel_rfl
theorem V6 (n:Nat):K6 Try.prog TT 57 (bY n):=OJ (an:=Yo) (n:=n) Try.func57 rfl (by kernel_rfl) PF (OI (OQ (Tf n) Rt Oc)) follows (cY n)
def VZ:Sm:=⟨[.box [((.sl 5 (.one (.int .u8))),0),(I,0),(I,0)], .val false [(.sl 9 (.one .str))]],[(false,[(.str,0)])]⟩
def WS:An:=⟨fun _=>none,
 fun _=>none,
 fun _=>none,
 fun _=>[]⟩
def bT (n:Nat):Mz:=⟨VZ,fun x=>N.Ra x.1 x.2.1 x.2.2.1 x.2.2.2⟩
def XO (n:Nat):List (FuncId×Mz):=[(127,UJ n)]
theorem Vz:Mw Try.prog 166:=⟨_,_,Try.func166,rfl,by kernel_rfl⟩
theorem aJ (n:Nat) (x:VZ.ins.D):L9 (find tbl) (plain (XO n)) WS n Try.f166 VZ x=N.Ra x.1 x.2.1 x.2.2.1 x.2.2.2:=by kernel_rfl
theorem ai (n:Nat):K6 Try.prog TT 166 (bT n):=OJ (an:=WS) (n:=n) Try.func166 rfl (by kernel_rfl) PF (OI (OQ (Tf n) Rt Oc)) follows (aJ n)
def Vc:Sm:=⟨[.val false [.str], .val false [(.int .u8)]],[(false,[((.sl 9 (.one .str)),2)])]⟩
def WV:An:=⟨fun _=>none,
 fun b=>match b with
  | 0=>some ([.own 5 9 (.one .str) 2 false, .slot 6 I, .slot 7 I],false)
  | _=>none,
 fun b=>match b with
  | 7=>some ([.own 5 9 (.one .str) 2 false, .slot 6 I],false)
  | _=>none,
 fun _=>[]⟩
def bW (n:Nat):Mz:=⟨Vc,fun x=>N.Qy n x.1 x.2⟩
def XR (n:Nat):List (FuncId×Mz):=[]
theorem V2:Mw Try.prog 184:=⟨_,_,Try.func184,rfl,by kernel_rfl⟩
theorem aM (n:Nat) (x:Vc.ins.D):L9 (find tbl) (plain (XR n)) WV n Try.f184 Vc x=N.Qy n x.1 x.2:=by kernel_rfl
theorem ao (n:Nat):K6 Try.prog TT 184 (bW n):=OJ (an:=WV) (n:=n) Try.func184 rfl (by kernel_rfl) PF (OI Oc) follows (aM n)
def X5:Sm:=⟨[.val false [I], .val false [I], .val false [I]],[(false,[(.bool,0)])]⟩
def Yy:An:=⟨fun _=>none,
 fun _=>none,
 fun _=>none,
 fun _=>[]⟩
def YV (n:Nat):Mz:=⟨X5,fun x=>N.Pb x.1 x.2.1 x.2.2⟩
def Zk (n:Nat):List (FuncId×Mz):=[]
theorem TK:Mw Try.prog 67:=⟨_,_,Try.func67,rfl,by kernel_rfl⟩
theorem cy (n:Nat) (x:X5.ins.D):L9 (find tbl) (plain (Zk n)) Yy n Try.f67 X5 x=N.Pb x.1 x.2.1 x.2.2:=by kernel_rfl
theorem VE (n:Nat):K6 Try.prog TT 67 (YV n):=OJ (an:=Yy) (n:=n) Try.func67 rfl (by kernel_rfl) PF (OI Oc) follows (cy n)
def Vd:Sm:=⟨[.val false [(.int .u8)]],[(false,[(I,0)])]⟩
def WW:An:=⟨fun _=>none,
 fun b=>match b with
  | 0=>some ([.slot 3 I],true)
  | _=>none,
 fun _=>none,
 fun _=>[]⟩
def bX (n:Nat):Mz:=⟨Vd,fun x=>N.RF n x⟩
def XS (n:Nat):List (FuncId×Mz):=[]
theorem V3:Mw Try.prog 185:=⟨_,_,Try.func185,rfl,by kernel_rfl⟩
theorem aN (n:Nat) (x:Vd.ins.D):L9 (find tbl) (plain (XS n)) WW n Try.f185 Vd x=N.RF n x:=by kernel_rfl
theorem aq (n:Nat):K6 Try.prog TT 185 (bX n):=OJ (an:=WW) (n:=n) Try.func185 rfl (by kernel_rfl) PF (OI Oc) follows (aN n)
def VY:Sm:=⟨[.val false [.str]],[(true,[(I,0),(I,0),((.sl 3 (.one I)),2)]),(false,[(I,0)])]⟩
def WR:An:=⟨fun _=>none,
 fun b=>match b with
  | 0=>some ([.slot 6 I, .box 2 [some (I,0),some (I,0),some ((.sl 3 (.one I)),2)], .box 5 [some (I,0),some (I,0),some ((.sl 3 (.one I)),2)]],true)
  | 2=>some ([.slot 8 I, .box 2 [some (I,0),some (I,0),some ((.sl 3 (.one I)),2)], .box 5 [some (I,0),some (I,0),some ((.sl 3 (.one I)),2)]],true)
  | _=>none,
 fun _=>none,
 fun _=>[]⟩
def bS (n:Nat):Mz:=⟨VY,fun x=>N.Pd n x⟩
def XN (n:Nat):List (FuncId×Mz):=[(67,YV n),(184,bW n),(185,bX n)]
theorem Vy:Mw Try.prog 165:=⟨_,_,Try.func165,rfl,by kernel_rfl⟩
theorem aI (n:Nat) (x:VY.ins.D):L9 (find tbl) (plain (XN n)) WR n Try.f165 VY x=N.Pd n x:=by kernel_rfl
theorem ah (n:Nat):K6 Try.prog TT 165 (bS n):=OJ (an:=WR) (n:=n) Try.func165 rfl (by kernel_rfl) PF (OI (OQ (VE n) TK (OQ (ao n) V2 (OQ (aq n) V3 Oc)))) follows (aI n)
def YF:Sm:=⟨[.box [((.sl 5 (.one (.int .u8))),0),(I,0),(I,0)], .val false [(.sl 3 (.one I))]],[(false,[(I,0)])]⟩
def Y8:An:=⟨fun _=>none,
 fun _=>none,
 fun _=>none,
 fun _=>[]⟩
def YW (n:Nat):Mz:=⟨YF,fun x=>N.PX x.1 x.2.1 x.2.2.1 x.2.2.2⟩
def Zu (n:Nat):List (FuncId×Mz):=[(127,UJ n)]
theorem TL:Mw Try.prog 79:=⟨_,_,Try.func79,rfl,by kernel_rfl⟩
theorem dI (n:Nat) (x:YF.ins.D):L9 (find tbl) (plain (Zu n)) Y8 n Try.f79 YF x=N.PX x.1 x.2.1 x.2.2.1 x.2.2.2:=by kernel_rfl
theorem VF (n:Nat):K6 Try.prog TT 79 (YW n):=OJ (an:=Y8) (n:=n) Try.func79 rfl (by kernel_rfl) PF (OI (OQ (Tf n) Rt Oc)) follows (dI n)
def VK:Sm:=⟨[.box [((.sl 5 (.one (.int .u8))),0),(I,0),(I,0)]],[(true,[(I,0),(I,0),((.sl 3 (.one I)),2)])]⟩
def WC:An:=⟨fun _=>none,
 fun b=>match b with
  | 0=>some ([.slot 6 I, .box 0 [some ((.sl 5 (.one (.int .u8))),0),some (I,0),some (I,0)], .box 5 [some (I,0),some (I,0),some ((.sl 3 (.one I)),2)]],false)
  | _=>none,
 fun _=>none,
 fun _=>[]⟩
def bH (n:Nat):Mz:=⟨VK,fun x=>N.Qx n x.1 x.2.1 x.2.2⟩
def XA (n:Nat):List (FuncId×Mz):=[(57,bY n),(79,YW n),(127,UJ n),(165,bS n),(166,bT n)]
theorem Vn:Mw Try.prog 126:=⟨_,_,Try.func126,rfl,by kernel_rfl⟩
theorem Z5 (n:Nat) (x:VK.ins.D):L9 (find tbl) (plain (XA n)) WC n Try.f126 VK x=N.Qx n x.1 x.2.1 x.2.2:=by kernel_rfl
theorem aT (n:Nat):K6 Try.prog TT 126 (bH n):=OJ (an:=WC) (n:=n) Try.func126 rfl (by kernel_rfl) PF (OI (OQ (V6 n) T4 (OQ (VF n) TL (OQ (Tf n) Rt (OQ (ah n) Vy (OQ (ai n) Vz Oc)))))) follows (Z5 n)
def X3:Sm:=⟨[.val true [I,I,(.sl 3 (.one I))]],[(true,[(I,0),(I,0),((.sl 3 (.one I)),2)])]⟩
def Yw:An:=⟨fun _=>none,
 fun _=>none,
 fun _=>none,
 fun _=>[]⟩
def eK (n:Nat):Mz:=⟨X3,fun x=>N.Qh x.1 x.2.1 x.2.2⟩
def Zi (n:Nat):List (FuncId×Mz):=[]
theorem U0:Mw Try.prog 65:=⟨_,_,Try.func65,rfl,by kernel_rfl⟩
theorem ct (n:Nat) (x:X3.ins.D):L9 (find tbl) (plain (Zi n)) Yw n Try.f65 X3 x=N.Qh x.1 x.2.1 x.2.2:=by kernel_rfl
theorem az (n:Nat):K6 Try.prog TT 65 (eK n):=OJ (an:=Yw) (n:=n) Try.func65 rfl (by kernel_rfl) PF (OI Oc) follows (ct n)
def Xs:Sm:=⟨[.box [((.sl 5 (.one (.int .u8))),0),(I,0),(I,0)]],[(true,[(I,0),(I,0),((.sl 3 (.one I)),2)])]⟩
def Yl:An:=⟨fun _=>none,
 fun _=>none,
 fun b=>match b with
  | 9=>some ([.box 0 [some ((.sl 5 (.one (.int .u8))),0),some (I,0),some (I,0)], .box 3 [some (I,0),some (I,0),some ((.sl 3 (.one I)),2)]],false)
  | _=>none,
 fun _=>[]⟩
def fF (n:Nat):Mz:=⟨Xs,fun x=>N.P4 n x.1 x.2.1 x.2.2⟩
def ZW (n:Nat):List (FuncId×Mz):=[(65,eK n),(79,YW n),(126,bH n),(127,UJ n)]
theorem Wk:Mw Try.prog 54:=⟨_,_,Try.func54,rfl,by kernel_rfl⟩
theorem cV (n:Nat) (x:Xs.ins.D):L9 (find tbl) (plain (ZW n)) Yl n Try.f54 Xs x=N.P4 n x.1 x.2.1 x.2.2:=by kernel_rfl
theorem db (n:Nat):K6 Try.prog TT 54 (fF n):=OJ (an:=Yl) (n:=n) Try.func54 rfl (by kernel_rfl) PF (OI (OQ (az n) U0 (OQ (VF n) TL (OQ (aT n) Vn (OQ (Tf n) Rt Oc))))) follows (cV n)
def VM:Sm:=⟨[.box [((.sl 5 (.one (.int .u8))),0),(I,0),(I,0)]],[(true,[((.sl 104 k7),2)])]⟩
def WE:An:=⟨fun _=>none,
 fun b=>match b with
  | 0=>some ([.slot 4 I, .box 0 [some ((.sl 5 (.one (.int .u8))),0),some (I,0),some (I,0)], .box 3 [some ((.sl 104 k7),2)]],false)
  | 2=>some ([.slot 6 I, .box 0 [some ((.sl 5 (.one (.int .u8))),0),some (I,0),some (I,0)], .box 5 [some (I,0),some (I,0),some ((.sl 109 k2),2)]],false)
  | _=>none,
 fun b=>match b with
  | 7=>some ([.box 0 [some ((.sl 5 (.one (.int .u8))),0),some (I,0),some (I,0)], .box 3 [some ((.sl 104 k7),2)]],false)
  | 13=>some ([.box 0 [some ((.sl 5 (.one (.int .u8))),0),some (I,0),some (I,0)], .box 5 [some (I,0),some (I,0),some ((.sl 109 k2),2)]],false)
  | _=>none,
 fun _=>[]⟩
def bI (n:Nat):Mz:=⟨VM,fun x=>N.RH n x.1 x.2.1 x.2.2⟩
def XC (n:Nat):List (FuncId×Mz):=[(57,bY n),(79,YW n),(127,UJ n)]
theorem Vo:Mw Try.prog 128:=⟨_,_,Try.func128,rfl,by kernel_rfl⟩
theorem Z7 (n:Nat) (x:VM.ins.D):L9 (find tbl) (plain (XC n)) WE n Try.f128 VM x=N.RH n x.1 x.2.1 x.2.2:=by kernel_rfl
theorem aU (n:Nat):K6 Try.prog TT 128 (bI n):=OJ (an:=WE) (n:=n) Try.func128 rfl (by kernel_rfl) PF (OI (OQ (V6 n) T4 (OQ (VF n) TL (OQ (Tf n) Rt Oc)))) follows (Z7 n)
def X4:Sm:=⟨[.val true [(.sl 104 k7)]],[(true,[((.sl 104 k7),2)])]⟩
def Yx:An:=⟨fun _=>none,
 fun b=>match b with
  | 0=>some ([.slot 4 I, .box 3 [some ((.sl 104 k7),2)]],false)
  | _=>none,
 fun _=>none,
 fun _=>[]⟩
def eL (n:Nat):Mz:=⟨X4,fun x=>N.Qi n x⟩
def Zj (n:Nat):List (FuncId×Mz):=[]
theorem U1:Mw Try.prog 66:=⟨_,_,Try.func66,rfl,by kernel_rfl⟩
theorem cu (n:Nat) (x:X4.ins.D):L9 (find tbl) (plain (Zj n)) Yx n Try.f66 X4 x=N.Qi n x:=by kernel_rfl
theorem bA (n:Nat):K6 Try.prog TT 66 (eL n):=OJ (an:=Yx) (n:=n) Try.func66 rfl (by kernel_rfl) PF (OI Oc) follows (cu n)
def VN:Sm:=⟨[.box [((.sl 5 (.one (.int .u8))),0),(I,0),(I,0)], .val true [(.sl 104 k7)]],[(true,[((.sl 104 k7),0)])]⟩
def WG:An:=⟨fun _=>none,
 fun _=>none,
 fun b=>match b with
  | 18=>some ([.box 0 [some ((.sl 5 (.one (.int .u8))),0),some (I,0),some (I,0)], .box 5 [some ((.sl 104 k7),0)]],false)
  | _=>none,
 fun _=>[]⟩
def bJ (n:Nat):Mz:=⟨VN,fun x=>N.RG n x.1 x.2.1 x.2.2.1 x.2.2.2⟩
def XD (n:Nat):List (FuncId×Mz):=[(66,eL n),(79,YW n),(127,UJ n)]
theorem Vp:Mw Try.prog 129:=⟨_,_,Try.func129,rfl,by kernel_rfl⟩
theorem Z8 (n:Nat) (x:VN.ins.D):L9 (find tbl) (plain (XD n)) WG n Try.f129 VN x=N.RG n x.1 x.2.1 x.2.2.1 x.2.2.2:=by kernel_rfl
theorem aV (n:Nat):K6 Try.prog TT 129 (bJ n):=OJ (an:=WG) (n:=n) Try.func129 rfl (by kernel_rfl) PF (OI (OQ (bA n) U1 (OQ (VF n) TL (OQ (Tf n) Rt Oc)))) follows (Z8 n)
def Xt:Sm:=⟨[.box [((.sl 5 (.one (.int .u8))),0),(I,0),(I,0)]],[(true,[((.sl 104 k7),0)])]⟩
def Ym:An:=⟨fun _=>none,
 fun _=>none,
 fun b=>match b with
  | 9=>some ([.box 0 [some ((.sl 5 (.one (.int .u8))),0),some (I,0),some (I,0)], .box 3 [some ((.sl 104 k7),0)]],false)
  | _=>none,
 fun _=>[]⟩
def fG (n:Nat):Mz:=⟨Xt,fun x=>N.QH n x.1 x.2.1 x.2.2⟩
def ZX (n:Nat):List (FuncId×Mz):=[(57,bY n),(128,bI n),(129,bJ n)]
theorem Wl:Mw Try.prog 55:=⟨_,_,Try.func55,rfl,by kernel_rfl⟩
theorem cW (n:Nat) (x:Xt.ins.D):L9 (find tbl) (plain (ZX n)) Ym n Try.f55 Xt x=N.QH n x.1 x.2.1 x.2.2:=by kernel_rfl
theorem dc (n:Nat):K6 Try.prog TT 55 (fG n):=OJ (an:=Ym) (n:=n) Try.func55 rfl (by kernel_rfl) PF (OI (OQ (V6 n) T4 (OQ (aU n) Vo (OQ (aV n) Vp Oc)))) follows (cW n)
def Xu:Sm:=⟨[.val true [I,I,(.sl 3 (.one I))]],[(false,[(.bool,0)])]⟩
def Yn:An:=⟨fun _=>none,
 fun b=>match b with
  | 0=>some ([.slot 3 I],true)
  | _=>none,
 fun _=>none,
 fun _=>[]⟩
def bw (n:Nat):Mz:=⟨Xu,fun x=>N.Pn n x.1 x.2.1 x.2.2⟩
def ZY (n:Nat):List (FuncId×Mz):=[(67,YV n)]
theorem UO:Mw Try.prog 56:=⟨_,_,Try.func56,rfl,by kernel_rfl⟩
theorem cX (n:Nat) (x:Xu.ins.D):L9 (find tbl) (plain (ZY n)) Yn n Try.f56 Xu x=N.Pn n x.1 x.2.1 x.2.2:=by kernel_rfl
theorem XY (n:Nat):K6 Try.prog TT 56 (bw n):=OJ (an:=Yn) (n:=n) Try.func56 rfl (by kernel_rfl) PF (OI (OQ (VE n) TK Oc)) follows (cX n)
def X7:Sm:=⟨[.val true [I,I,(.sl 3 (.one I))], .val false [I]],[(false,[((.sl 3 (.one I)),2)])]⟩
def Y0:An:=⟨fun _=>none,
 fun b=>match b with
  | 0=>some ([.own 5 3 (.one I) 2 false, .slot 6 I],false)
  | _=>none,
 fun b=>match b with
  | 7=>some ([.own 5 3 (.one I) 2 false],false)
  | _=>none,
 fun _=>[]⟩
def eM (n:Nat):Mz:=⟨X7,fun x=>N.QN n x.1 x.2.1 x.2.2.1 x.2.2.2⟩
def Zm (n:Nat):List (FuncId×Mz):=[(56,bw n)]
theorem U2:Mw Try.prog 69:=⟨_,_,Try.func69,rfl,by kernel_rfl⟩
theorem dA (n:Nat) (x:X7.ins.D):L9 (find tbl) (plain (Zm n)) Y0 n Try.f69 X7 x=N.QN n x.1 x.2.1 x.2.2.1 x.2.2.2:=by kernel_rfl
theorem bB (n:Nat):K6 Try.prog TT 69 (eM n):=OJ (an:=Y0) (n:=n) Try.func69 rfl (by kernel_rfl) PF (OI (OQ (XY n) UO Oc)) follows (dA n)
def Xw:Sm:=⟨[.box [((.sl 5 (.one (.int .u8))),0),(I,0),(I,0)], .val true [I,I,(.sl 3 (.one I))]],[(true,[((.sl 104 k7),2)])]⟩
def Yp:An:=⟨fun _=>none,
 fun b=>match b with
  | 0=>some ([.slot 7 I, .box 0 [some ((.sl 5 (.one (.int .u8))),0),some (I,0),some (I,0)], .box 5 [some ((.sl 104 k7),2)]],false)
  | 2=>some ([.slot 9 I, .box 0 [some ((.sl 5 (.one (.int .u8))),0),some (I,0),some (I,0)], .box 8 [some (I,0),some (I,0),some ((.sl 109 k2),2)]],false)
  | _=>none,
 fun b=>match b with
  | 13=>some ([.box 0 [some ((.sl 5 (.one (.int .u8))),0),some (I,0),some (I,0)], .box 8 [some (I,0),some (I,0),some ((.sl 109 k2),2)]],false)
  | _=>none,
 fun _=>[]⟩
def fH (n:Nat):Mz:=⟨Xw,fun x=>N.Qw n x.1 x.2.1 x.2.2.1 x.2.2.2.1 x.2.2.2.2.1 x.2.2.2.2.2⟩
def Zb (n:Nat):List (FuncId×Mz):=[(69,eM n),(79,YW n)]
theorem Wm:Mw Try.prog 58:=⟨_,_,Try.func58,rfl,by kernel_rfl⟩
theorem cZ (n:Nat) (x:Xw.ins.D):L9 (find tbl) (plain (Zb n)) Yp n Try.f58 Xw x=N.Qw n x.1 x.2.1 x.2.2.1 x.2.2.2.1 x.2.2.2.2.1 x.2.2.2.2.2:=by kernel_rfl
theorem de (n:Nat):K6 Try.prog TT 58 (fH n):=OJ (an:=Yp) (n:=n) Try.func58 rfl (by kernel_rfl) PF (OI (OQ (bB n) U2 (OQ (VF n) TL Oc))) follows (cZ n)
def eR:Sm:=⟨[.val false [(.sl 5 (.one (.int .u8)))]],[(true,[(I,0),(I,0),((.sl 3 (.one I)),0)]),(true,[((.sl 104 k7),0)])]⟩
def eX:An:=⟨fun b=>match b with
  | 4=>some [.slot 19 .bool, .box 8 [some ((.sl 5 (.one (.int .u8))),0),some (I,0),some (I,0)]]
  | _=>none,
 fun _=>none,
 fun b=>match b with
  | 15=>some ([.box 5 [some (I,0),some (I,0),some ((.sl 3 (.one I)),0)], .box 6 [some ((.sl 104 k7),0)], .box 8 [some ((.sl 5 (.one (.int .u8))),0),some (I,0),some (I,0)]],false)
  | _=>none,
 fun _=>[]⟩
def s8 (n:Nat):Mz:=⟨eR,fun x=>N.Pm n x⟩
def cG (n:Nat):List (FuncId×Mz):=[(53,fE n),(54,fF n),(55,fG n),(56,bw n),(57,bY n),(58,fH n)]
theorem ZH:Mw Try.prog 8:=⟨_,_,Try.func8,rfl,by kernel_rfl⟩
theorem fk (n:Nat) (x:eR.ins.D):L9 (find tbl) (plain (cG n)) eX n Try.f8 eR x=N.Pm n x:=by kernel_rfl
theorem gF (n:Nat):K6 Try.prog TT 8 (s8 n):=OJ (an:=eX) (n:=n) Try.func8 rfl (by kernel_rfl) PF (OI (OQ (da n) Wj (OQ (db n) Wk (OQ (dc n) Wl (OQ (XY n) UO (OQ (V6 n) T4 (OQ (de n) Wm Oc))))))) follows (fk n)
def X9:Sm:=⟨[.val false [I], .val false [I], .val false [I]],[(false,[(.bool,0)])]⟩
def Y2:An:=⟨fun _=>none,
 fun _=>none,
 fun _=>none,
 fun _=>[]⟩
def Uo (n:Nat):Mz:=⟨X9,fun x=>N.PJ x.1 x.2.1 x.2.2⟩
def Zo (n:Nat):List (FuncId×Mz):=[]
theorem RI:Mw Try.prog 71:=⟨_,_,Try.func71,rfl,by kernel_rfl⟩
theorem dC (n:Nat) (x:X9.ins.D):L9 (find tbl) (plain (Zo n)) Y2 n Try.f71 X9 x=N.PJ x.1 x.2.1 x.2.2:=by kernel_rfl
theorem TE (n:Nat):K6 Try.prog TT 71 (Uo n):=OJ (an:=Y2) (n:=n) Try.func71 rfl (by kernel_rfl) PF (OI Oc) follows (dC n)
def Xx:Sm:=⟨[.val true [I,I,(.sl 3 (.one I))]],[(false,[(.bool,0)])]⟩
def Yq:An:=⟨fun _=>none,
 fun b=>match b with
  | 0=>some ([.slot 29 I],true)
  | _=>none,
 fun _=>none,
 fun _=>[]⟩
def YU (n:Nat):Mz:=⟨Xx,fun x=>N.Pk n x.1 x.2.1 x.2.2⟩
def Zc (n:Nat):List (FuncId×Mz):=[(71,Uo n)]
theorem TJ:Mw Try.prog 59:=⟨_,_,Try.func59,rfl,by kernel_rfl⟩
theorem ca (n:Nat) (x:Xx.ins.D):L9 (find tbl) (plain (Zc n)) Yq n Try.f59 Xx x=N.Pk n x.1 x.2.1 x.2.2:=by kernel_rfl
theorem VD (n:Nat):K6 Try.prog TT 59 (YU n):=OJ (an:=Yq) (n:=n) Try.func59 rfl (by kernel_rfl) PF (OI (OQ (TE n) RI Oc)) follows (ca n)
def YL:Sm:=⟨[.val true [I,I,(.sl 109 k2)]],[(false,[(.bool,0)])]⟩
def ZE:An:=⟨fun _=>none,
 fun b=>match b with
  | 0=>some ([.slot 24 I],true)
  | _=>none,
 fun _=>none,
 fun _=>[]⟩
def fX (n:Nat):Mz:=⟨YL,fun x=>N.RX n x.1 x.2.1 x.2.2⟩
def Z0 (n:Nat):List (FuncId×Mz):=[(71,Uo n)]
theorem W4:Mw Try.prog 93:=⟨_,_,Try.func93,rfl,by kernel_rfl⟩
theorem dO (n:Nat) (x:YL.ins.D):L9 (find tbl) (plain (Z0 n)) ZE n Try.f93 YL x=N.RX n x.1 x.2.1 x.2.2:=by kernel_rfl
theorem eD (n:Nat):K6 Try.prog TT 93 (fX n):=OJ (an:=ZE) (n:=n) Try.func93 rfl (by kernel_rfl) PF (OI (OQ (TE n) RI Oc)) follows (dO n)
def Xn:Sm:=⟨[.val true [(.sl 104 k7)]],[(false,[(.bool,0)])]⟩
def Yg:An:=⟨fun _=>none,
 fun b=>match b with
  | 0=>some ([.slot 10 I],true)
  | 2=>some ([.slot 39 I],true)
  | _=>none,
 fun _=>none,
 fun _=>[]⟩
def bq (n:Nat):Mz:=⟨Xn,fun x=>N.P0 n x⟩
def ZR (n:Nat):List (FuncId×Mz):=[(93,fX n)]
theorem UN:Mw Try.prog 21:=⟨_,_,Try.func21,rfl,by kernel_rfl⟩
theorem cQ (n:Nat) (x:Xn.ins.D):L9 (find tbl) (plain (ZR n)) Yg n Try.f21 Xn x=N.P0 n x:=by kernel_rfl
theorem XX (n:Nat):K6 Try.prog TT 21 (bq n):=OJ (an:=Yg) (n:=n) Try.func21 rfl (by kernel_rfl) PF (OI (OQ (eD n) W4 Oc)) follows (cQ n)
def Xy:Sm:=⟨[.val true [(.sl 104 k7)]],[(false,[(.bool,0)])]⟩
def Yr:An:=⟨fun _=>none,
 fun b=>match b with
  | 0=>some ([.slot 10 I],true)
  | 2=>some ([.slot 17 I],true)
  | _=>none,
 fun _=>none,
 fun _=>[]⟩
def fJ (n:Nat):Mz:=⟨Xy,fun x=>N.Qr n x⟩
def Zd (n:Nat):List (FuncId×Mz):=[]
theorem Wn:Mw Try.prog 60:=⟨_,_,Try.func60,rfl,by kernel_rfl⟩
theorem cf (n:Nat) (x:Xy.ins.D):L9 (find tbl) (plain (Zd n)) Yr n Try.f60 Xy x=N.Qr n x:=by kernel_rfl
theorem dg (n:Nat):K6 Try.prog TT 60 (fJ n):=OJ (an:=Yr) (n:=n) Try.func60 rfl (by kernel_rfl) PF (OI Oc) follows (cf n)
def VO:Sm:=⟨[.val true [I,I,(.sl 3 (.one I))], .val false [I]],[(false,[(.bool,0)])]⟩
def WH:An:=⟨fun _=>none,
 fun _=>none,
 fun _=>none,
 fun _=>[]⟩
def bK (n:Nat):Mz:=⟨VO,fun x=>N.RE x.1 x.2.1 x.2.2.1 x.2.2.2⟩
def XE (n:Nat):List (FuncId×Mz):=[(71,Uo n)]
theorem Vq:Mw Try.prog 130:=⟨_,_,Try.func130,rfl,by kernel_rfl⟩
theorem Z9 (n:Nat) (x:VO.ins.D):L9 (find tbl) (plain (XE n)) WH n Try.f130 VO x=N.RE x.1 x.2.1 x.2.2.1 x.2.2.2:=by kernel_rfl
theorem aW (n:Nat):K6 Try.prog TT 130 (bK n):=OJ (an:=WH) (n:=n) Try.func130 rfl (by kernel_rfl) PF (OI (OQ (TE n) RI Oc)) follows (Z9 n)
def Xz:Sm:=⟨[.val true [I,I,(.sl 3 (.one I))], .val false [I]],[(false,[(I,0)])]⟩
def Ys:An:=⟨fun _=>none,
 fun _=>none,
 fun _=>none,
 fun _=>[]⟩
def eI (n:Nat):Mz:=⟨Xz,fun x=>N.Pl n x.1 x.2.1 x.2.2.1 x.2.2.2⟩
def Ze (n:Nat):List (FuncId×Mz):=[(59,YU n),(130,bK n)]
theorem Uy:Mw Try.prog 61:=⟨_,_,Try.func61,rfl,by kernel_rfl⟩
theorem cg (n:Nat) (x:Xz.ins.D):L9 (find tbl) (plain (Ze n)) Ys n Try.f61 Xz x=N.Pl n x.1 x.2.1 x.2.2.1 x.2.2.2:=by kernel_rfl
theorem ax (n:Nat):K6 Try.prog TT 61 (eI n):=OJ (an:=Ys) (n:=n) Try.func61 rfl (by kernel_rfl) PF (OI (OQ (VD n) TJ (OQ (aW n) Vq Oc))) follows (cg n)
def VQ:Sm:=⟨[.val false [(.sl 3 (.one I))]],[(false,[((.sl 3 (.one I)),2)])]⟩
def WI:An:=⟨fun _=>none,
 fun _=>none,
 fun _=>none,
 fun _=>[]⟩
def bL (n:Nat):Mz:=⟨VQ,fun x=>N.Q7 x⟩
def XF (n:Nat):List (FuncId×Mz):=[]
theorem Vr:Mw Try.prog 131:=⟨_,_,Try.func131,rfl,by kernel_rfl⟩
theorem aA (n:Nat) (x:VQ.ins.D):L9 (find tbl) (plain (XF n)) WI n Try.f131 VQ x=N.Q7 x:=by kernel_rfl
theorem aX (n:Nat):K6 Try.prog TT 131 (bL n):=OJ (an:=WI) (n:=n) Try.func131 rfl (by kernel_rfl) PF (OI Oc) follows (aA n)
def X0:Sm:=⟨[.val true [I,I,(.sl 3 (.one I))]],[(true,[(I,0),(I,0),((.sl 3 (.one I)),2)])]⟩
def Yt:An:=⟨fun _=>none,
 fun _=>none,
 fun _=>none,
 fun _=>[]⟩
def fK (n:Nat):Mz:=⟨X0,fun x=>N.QF x.1 x.2.1 x.2.2⟩
def Zf (n:Nat):List (FuncId×Mz):=[(131,bL n)]
theorem Wo:Mw Try.prog 62:=⟨_,_,Try.func62,rfl,by kernel_rfl⟩
theorem ck (n:Nat) (x:X0.ins.D):L9 (find tbl) (plain (Zf n)) Yt n Try.f62 X0 x=N.QF x.1 x.2.1 x.2.2:=by kernel_rfl
theorem dh (n:Nat):K6 Try.prog TT 62 (fK n):=OJ (an:=Yt) (n:=n) Try.func62 rfl (by kernel_rfl) PF (OI (OQ (aX n) Vr Oc)) follows (ck n)
def X1:Sm:=⟨[.val true [(.sl 104 k7)]],[(true,[((.sl 104 k7),2)])]⟩
def Yu:An:=⟨fun _=>none,
 fun b=>match b with
  | 0=>some ([.slot 9 I, .box 3 [some ((.sl 104 k7),2)]],false)
  | _=>none,
 fun _=>none,
 fun _=>[]⟩
def fL (n:Nat):Mz:=⟨X1,fun x=>N.QG n x⟩
def Zg (n:Nat):List (FuncId×Mz):=[]
theorem Wp:Mw Try.prog 63:=⟨_,_,Try.func63,rfl,by kernel_rfl⟩
theorem cm (n:Nat) (x:X1.ins.D):L9 (find tbl) (plain (Zg n)) Yu n Try.f63 X1 x=N.QG n x:=by kernel_rfl
theorem di (n:Nat):K6 Try.prog TT 63 (fL n):=OJ (an:=Yu) (n:=n) Try.func63 rfl (by kernel_rfl) PF (OI Oc) follows (cm n)
def Xg:Sm:=⟨[.val true [I,I,(.sl 3 (.one I))], .val false [I]],[(false,[((.sl 3 (.one I)),2)])]⟩
def YZ:An:=⟨fun _=>none,
 fun b=>match b with
  | 0=>some ([.own 5 3 (.one I) 2 false, .slot 15 I],false)
  | _=>none,
 fun b=>match b with
  | 7=>some ([.own 5 3 (.one I) 2 false],false)
  | _=>none,
 fun _=>[]⟩
def eE (n:Nat):Mz:=⟨Xg,fun x=>N.QJ n x.1 x.2.1 x.2.2.1 x.2.2.2⟩
def ZK (n:Nat):List (FuncId×Mz):=[(59,YU n)]
theorem Uu:Mw Try.prog 11:=⟨_,_,Try.func11,rfl,by kernel_rfl⟩
theorem cJ (n:Nat) (x:Xg.ins.D):L9 (find tbl) (plain (ZK n)) YZ n Try.f11 Xg x=N.QJ n x.1 x.2.1 x.2.2.1 x.2.2.2:=by kernel_rfl
theorem aP (n:Nat):K6 Try.prog TT 11 (eE n):=OJ (an:=YZ) (n:=n) Try.func11 rfl (by kernel_rfl) PF (OI (OQ (VD n) TJ Oc)) follows (cJ n)
def YM:Sm:=⟨[.val true [I,I,(.sl 109 k2)], .val false [I]],[(false,[(I,0)]),(false,[(.bool,0)])]⟩
def ZF:An:=⟨fun b=>match b with
  | 4=>some [.slot 4 I, .slot 5 .bool]
  | _=>none,
 fun b=>match b with
  | 0=>some ([.slot 6 I],false)
  | _=>none,
 fun _=>none,
 fun _=>[]⟩
def eO (n:Nat):Mz:=⟨YM,fun x=>N.QM n x.1 x.2.1 x.2.2.1 x.2.2.2⟩
def Z1 (n:Nat):List (FuncId×Mz):=[]
theorem U4:Mw Try.prog 94:=⟨_,_,Try.func94,rfl,by kernel_rfl⟩
theorem dP (n:Nat) (x:YM.ins.D):L9 (find tbl) (plain (Z1 n)) ZF n Try.f94 YM x=N.QM n x.1 x.2.1 x.2.2.1 x.2.2.2:=by kernel_rfl
theorem bD (n:Nat):K6 Try.prog TT 94 (eO n):=OJ (an:=ZF) (n:=n) Try.func94 rfl (by kernel_rfl) PF (OI Oc) follows (dP n)
def X2:Sm:=⟨[.val true [(.sl 104 k7)], .val false [I]],[(false,[(I,0)])]⟩
def Yv:An:=⟨fun _=>none,
 fun b=>match b with
  | 0=>some ([.slot 5 I, .slot 17 I],false)
  | _=>none,
 fun b=>match b with
  | 7=>some ([.slot 5 I],false)
  | _=>none,
 fun _=>[]⟩
def eJ (n:Nat):Mz:=⟨X2,fun x=>N.Q2 n x.1 x.2⟩
def Zh (n:Nat):List (FuncId×Mz):=[(21,bq n),(94,eO n)]
theorem Uz:Mw Try.prog 64:=⟨_,_,Try.func64,rfl,by kernel_rfl⟩
theorem cq (n:Nat) (x:X2.ins.D):L9 (find tbl) (plain (Zh n)) Yv n Try.f64 X2 x=N.Q2 n x.1 x.2:=by kernel_rfl
theorem ay (n:Nat):K6 Try.prog TT 64 (eJ n):=OJ (an:=Yv) (n:=n) Try.func64 rfl (by kernel_rfl) PF (OI (OQ (XX n) UN (OQ (bD n) U4 Oc))) follows (cq n)
def eS:Sm:=⟨[.val true [I,I,(.sl 3 (.one I))], .val true [(.sl 104 k7)]],[(true,[(I,0),(I,0),((.sl 3 (.one I)),2),((.sl 104 k7),2),(I,0),((.sl 54 k10),2),((.sl 43 k5),2),((.sl 75 k4),2),((.sl 3 (.one I)),2),((.sl 3 (.one I)),2),(I,0)]),(false,[(.bool,0)])]⟩
def eY:An:=⟨fun _=>none,
 fun b=>match b with
  | 0=>some ([.slot 28 I, .box 4 [some (I,0),some (I,0),some ((.sl 3 (.one I)),2),some ((.sl 104 k7),2),some (I,0),some ((.sl 54 k10),2),some ((.sl 43 k5),2),some ((.sl 75 k4),2),some ((.sl 3 (.one I)),2),some ((.sl 3 (.one I)),2),some (I,0)]],true)
  | 2=>some ([.slot 50 I, .box 8 [some (I,0),some (I,0),some ((.sl 3 (.one I)),2),some ((.sl 104 k7),2),some (I,0),some ((.sl 54 k10),2),some ((.sl 43 k5),2),some ((.sl 75 k4),2),some ((.sl 3 (.one I)),2),some ((.sl 3 (.one I)),2),some (I,0)]],false)
  | 4=>some ([.slot 11 I, .box 8 [some (I,0),some (I,0),some ((.sl 3 (.one I)),2),some ((.sl 104 k7),2),some (I,0),some ((.sl 54 k10),2),some ((.sl 43 k5),2),some ((.sl 75 k4),2),some ((.sl 3 (.one I)),2),some ((.sl 3 (.one I)),2),some (I,0)]],false)
  | _=>none,
 fun b=>match b with
  | 13=>some ([.box 8 [some (I,0),some (I,0),some ((.sl 3 (.one I)),2),some ((.sl 104 k7),2),some (I,0),some ((.sl 54 k10),2),some ((.sl 43 k5),2),some ((.sl 75 k4),2),some ((.sl 3 (.one I)),2),some ((.sl 3 (.one I)),2),some (I,0)]],false)
  | _=>none,
 fun _=>[]⟩
def s9 (n:Nat):Mz:=⟨eS,fun x=>N.QS n x.1 x.2.1 x.2.2.1 x.2.2.2⟩
def cH (n:Nat):List (FuncId×Mz):=[(11,eE n),(21,bq n),(59,YU n),(60,fJ n),(61,eI n),(62,fK n),(63,fL n),(64,eJ n)]
theorem ZI:Mw Try.prog 9:=⟨_,_,Try.func9,rfl,by kernel_rfl⟩
theorem fm (n:Nat) (x:eS.ins.D):L9 (find tbl) (plain (cH n)) eY n Try.f9 eS x=N.QS n x.1 x.2.1 x.2.2.1 x.2.2.2:=by kernel_rfl
theorem gG (n:Nat):K6 Try.prog TT 9 (s9 n):=OJ (an:=eY) (n:=n) Try.func9 rfl (by kernel_rfl) PF (OI (OQ (aP n) Uu (OQ (XX n) UN (OQ (VD n) TJ (OQ (dg n) Wn (OQ (ax n) Uy (OQ (dh n) Wo (OQ (di n) Wp (OQ (ay n) Uz Oc))))))))) follows (fm n)
def VI:Sm:=⟨[.val false [(.sl 109 k2)]],[(false,[(.bool,0)])]⟩
def WA:An:=⟨fun _=>none,
 fun b=>match b with
  | 0=>some ([.slot 3 I],true)
  | _=>none,
 fun _=>none,
 fun _=>[]⟩
def bF (n:Nat):Mz:=⟨VI,fun x=>N.QU n x⟩
def W8 (n:Nat):List (FuncId×Mz):=[(67,YV n)]
theorem Vl:Mw Try.prog 112:=⟨_,_,Try.func112,rfl,by kernel_rfl⟩
theorem Z3 (n:Nat) (x:VI.ins.D):L9 (find tbl) (plain (W8 n)) WA n Try.f112 VI x=N.QU n x:=by kernel_rfl
theorem aQ (n:Nat):K6 Try.prog TT 112 (bF n):=OJ (an:=WA) (n:=n) Try.func112 rfl (by kernel_rfl) PF (OI (OQ (VE n) TK Oc)) follows (Z3 n)
def Xo:Sm:=⟨[.val true [(.sl 104 k7)]],[(false,[(.bool,0)])]⟩
def Yh:An:=⟨fun _=>none,
 fun b=>match b with
  | 0=>some ([.slot 3 I],true)
  | 2=>some ([.slot 5 I],true)
  | _=>none,
 fun _=>none,
 fun _=>[]⟩
def eG (n:Nat):Mz:=⟨Xo,fun x=>N.QO n x⟩
def ZS (n:Nat):List (FuncId×Mz):=[(67,YV n),(112,bF n)]
theorem Uw:Mw Try.prog 32:=⟨_,_,Try.func32,rfl,by kernel_rfl⟩
theorem cR (n:Nat) (x:Xo.ins.D):L9 (find tbl) (plain (ZS n)) Yh n Try.f32 Xo x=N.QO n x:=by kernel_rfl
theorem au (n:Nat):K6 Try.prog TT 32 (eG n):=OJ (an:=Yh) (n:=n) Try.func32 rfl (by kernel_rfl) PF (OI (OQ (VE n) TK (OQ (aQ n) Vl Oc))) follows (cR n)
def VR:Sm:=⟨[.val true [I,I,(.sl 109 k2)], .val false [I]],[(true,[(I,0),(I,0),(I,0)])]⟩
def WJ:An:=⟨fun _=>none,
 fun b=>match b with
  | 0=>some ([.slot 5 I, .box 4 [some (I,0),some (I,0),some (I,0)]],true)
  | _=>none,
 fun _=>none,
 fun _=>[]⟩
def bM (n:Nat):Mz:=⟨VR,fun x=>N.Q0 n x.1 x.2.1 x.2.2.1 x.2.2.2⟩
def XG (n:Nat):List (FuncId×Mz):=[]
theorem Vs:Mw Try.prog 132:=⟨_,_,Try.func132,rfl,by kernel_rfl⟩
theorem aB (n:Nat) (x:VR.ins.D):L9 (find tbl) (plain (XG n)) WJ n Try.f132 VR x=N.Q0 n x.1 x.2.1 x.2.2.1 x.2.2.2:=by kernel_rfl
theorem aY (n:Nat):K6 Try.prog TT 132 (bM n):=OJ (an:=WJ) (n:=n) Try.func132 rfl (by kernel_rfl) PF (OI Oc) follows (aB n)
def X6:Sm:=⟨[.val true [(.sl 104 k7)], .val false [I]],[(false,[(I,0)])]⟩
def Yz:An:=⟨fun _=>none,
 fun b=>match b with
  | 0=>some ([.slot 5 I, .slot 6 I],false)
  | _=>none,
 fun _=>none,
 fun _=>[]⟩
def fM (n:Nat):Mz:=⟨X6,fun x=>N.RY n x.1 x.2⟩
def Zl (n:Nat):List (FuncId×Mz):=[(32,eG n),(132,bM n)]
theorem Wq:Mw Try.prog 68:=⟨_,_,Try.func68,rfl,by kernel_rfl⟩
theorem cz (n:Nat) (x:X6.ins.D):L9 (find tbl) (plain (Zl n)) Yz n Try.f68 X6 x=N.RY n x.1 x.2:=by kernel_rfl
theorem dm (n:Nat):K6 Try.prog TT 68 (fM n):=OJ (an:=Yz) (n:=n) Try.func68 rfl (by kernel_rfl) PF (OI (OQ (au n) Uw (OQ (aY n) Vs Oc))) follows (cz n)
def Xf:Sm:=⟨[.val true [I,I,(.sl 3 (.one I))], .val true [(.sl 104 k7)]],[(true,[(I,0),(I,0),((.sl 3 (.one I)),2),((.sl 104 k7),2),(I,0),((.sl 54 k10),2),((.sl 43 k5),2),((.sl 75 k4),2),((.sl 3 (.one I)),2),((.sl 3 (.one I)),2),(I,0)]),(false,[(.bool,0)])]⟩
def YY:An:=⟨fun _=>none,
 fun b=>match b with
  | 0=>some ([.slot 7 I, .box 4 [some (I,0),some (I,0),some ((.sl 3 (.one I)),2),some ((.sl 104 k7),2),some (I,0),some ((.sl 54 k10),2),some ((.sl 43 k5),2),some ((.sl 75 k4),2),some ((.sl 3 (.one I)),2),some ((.sl 3 (.one I)),2),some (I,0)]],true)
  | 2=>some ([.slot 8 I, .box 4 [some (I,0),some (I,0),some ((.sl 3 (.one I)),2),some ((.sl 104 k7),2),some (I,0),some ((.sl 54 k10),2),some ((.sl 43 k5),2),some ((.sl 75 k4),2),some ((.sl 3 (.one I)),2),some ((.sl 3 (.one I)),2),some (I,0)]],true)
  | 4=>some ([.slot 9 I, .box 6 [some (I,0),some (I,0),some ((.sl 3 (.one I)),2),some ((.sl 104 k7),2),some (I,0),some ((.sl 54 k10),2),some ((.sl 43 k5),2),some ((.sl 75 k4),2),some ((.sl 3 (.one I)),2),some ((.sl 3 (.one I)),2),some (I,0)]],false)
  | 6=>some ([.slot 11 I, .box 6 [some (I,0),some (I,0),some ((.sl 3 (.one I)),2),some ((.sl 104 k7),2),some (I,0),some ((.sl 54 k10),2),some ((.sl 43 k5),2),some ((.sl 75 k4),2),some ((.sl 3 (.one I)),2),some ((.sl 3 (.one I)),2),some (I,0)]],false)
  | _=>none,
 fun _=>none,
 fun _=>[]⟩
def ed (n:Nat):Mz:=⟨Xf,fun x=>N.QT n x.1 x.2.1 x.2.2.1 x.2.2.2⟩
def ZJ (n:Nat):List (FuncId×Mz):=[(32,eG n),(56,bw n),(65,eK n),(66,eL n),(67,YV n),(68,fM n),(69,eM n)]
theorem Wb:Mw Try.prog 10:=⟨_,_,Try.func10,rfl,by kernel_rfl⟩
theorem cI (n:Nat) (x:Xf.ins.D):L9 (find tbl) (plain (ZJ n)) YY n Try.f10 Xf x=N.QT n x.1 x.2.1 x.2.2.1 x.2.2.2:=by kernel_rfl
theorem dT (n:Nat):K6 Try.prog TT 10 (ed n):=OJ (an:=YY) (n:=n) Try.func10 rfl (by kernel_rfl) PF (OI (OQ (au n) Uw (OQ (XY n) UO (OQ (az n) U0 (OQ (bA n) U1 (OQ (VE n) TK (OQ (dm n) Wq (OQ (bB n) U2 Oc)))))))) follows (cI n)
def YG:Sm:=⟨[.val false [(.sl 61 k1)]],[(false,[(.bool,0)])]⟩
def Y9:An:=⟨fun _=>none,
 fun b=>match b with
  | 0=>some ([.slot 7 I],true)
  | _=>none,
 fun _=>none,
 fun _=>[]⟩
def fU (n:Nat):Mz:=⟨YG,fun x=>N.Rv n x⟩
def Zv (n:Nat):List (FuncId×Mz):=[(71,Uo n)]
theorem Wy:Mw Try.prog 81:=⟨_,_,Try.func81,rfl,by kernel_rfl⟩
theorem dJ (n:Nat) (x:YG.ins.D):L9 (find tbl) (plain (Zv n)) Y9 n Try.f81 YG x=N.Rv n x:=by kernel_rfl
theorem eA (n:Nat):K6 Try.prog TT 81 (fU n):=OJ (an:=Y9) (n:=n) Try.func81 rfl (by kernel_rfl) PF (OI (OQ (TE n) RI Oc)) follows (dJ n)
def YH:Sm:=⟨[.val false [(.sl 61 k1)]],[(false,[((.sl 61 k1),2)])]⟩
def ZA:An:=⟨fun _=>none,
 fun _=>none,
 fun _=>none,
 fun _=>[]⟩
def eN (n:Nat):Mz:=⟨YH,fun x=>N.Qs x⟩
def Zw (n:Nat):List (FuncId×Mz):=[]
theorem U3:Mw Try.prog 85:=⟨_,_,Try.func85,rfl,by kernel_rfl⟩
theorem dK (n:Nat) (x:YH.ins.D):L9 (find tbl) (plain (Zw n)) ZA n Try.f85 YH x=N.Qs x:=by kernel_rfl
theorem bC (n:Nat):K6 Try.prog TT 85 (eN n):=OJ (an:=ZA) (n:=n) Try.func85 rfl (by kernel_rfl) PF (OI Oc) follows (dK n)
def YK:Sm:=⟨[.val false [(.sl 170 k2)], .val false [(.sl 61 k1)]],[(false,[(.bool,0)])]⟩
def ZD:An:=⟨fun _=>none,
 fun b=>match b with
  | 0=>some ([.slot 16 I, .own 5 61 k1 2 false],true)
  | 2=>some ([.slot 8 .bool, .slot 22 I, .own 5 61 k1 2 false],false)
  | 4=>some ([.slot 59 I],true)
  | _=>none,
 fun _=>none,
 fun _=>[]⟩
def fW (n:Nat):Mz:=⟨YK,fun x=>N.Ry n x.1 x.2⟩
def Zz (n:Nat):List (FuncId×Mz):=[(71,Uo n),(85,eN n)]
theorem W0:Mw Try.prog 92:=⟨_,_,Try.func92,rfl,by kernel_rfl⟩
theorem dN (n:Nat) (x:YK.ins.D):L9 (find tbl) (plain (Zz n)) ZD n Try.f92 YK x=N.Ry n x.1 x.2:=by kernel_rfl
theorem eC (n:Nat):K6 Try.prog TT 92 (fW n):=OJ (an:=ZD) (n:=n) Try.func92 rfl (by kernel_rfl) PF (OI (OQ (TE n) RI (OQ (bC n) U3 Oc))) follows (dN n)
def Xm:Sm:=⟨[.val true [I,(.sl 54 k10)]],[(false,[(.bool,0)])]⟩
def Yf:An:=⟨fun _=>none,
 fun b=>match b with
  | 0=>some ([.slot 18 I],true)
  | _=>none,
 fun _=>none,
 fun _=>[]⟩
def fC (n:Nat):Mz:=⟨Xm,fun x=>N.Rd n x.1 x.2⟩
def ZQ (n:Nat):List (FuncId×Mz):=[(71,Uo n),(81,fU n),(92,fW n)]
theorem Wh:Mw Try.prog 20:=⟨_,_,Try.func20,rfl,by kernel_rfl⟩
theorem cP (n:Nat) (x:Xm.ins.D):L9 (find tbl) (plain (ZQ n)) Yf n Try.f20 Xm x=N.Rd n x.1 x.2:=by kernel_rfl
theorem dY (n:Nat):K6 Try.prog TT 20 (fC n):=OJ (an:=Yf) (n:=n) Try.func20 rfl (by kernel_rfl) PF (OI (OQ (TE n) RI (OQ (eA n) Wy (OQ (eC n) W0 Oc)))) follows (cP n)
def VJ:Sm:=⟨[.val true [I,I,(.sl 3 (.one I))], .val true [I,I,I, .bool,I]],[(false,[(.bool,0)])]⟩
def WB:An:=⟨fun _=>none,
 fun _=>none,
 fun _=>none,
 fun _=>[]⟩
def bG (n:Nat):Mz:=⟨VJ,fun x=>N.P8 n x.1 x.2.1 x.2.2.1 x.2.2.2.1 x.2.2.2.2.1 x.2.2.2.2.2.1 x.2.2.2.2.2.2.1 x.2.2.2.2.2.2.2⟩
def W9 (n:Nat):List (FuncId×Mz):=[(61,eI n)]
theorem Vm:Mw Try.prog 113:=⟨_,_,Try.func113,rfl,by kernel_rfl⟩
theorem Z4 (n:Nat) (x:VJ.ins.D):L9 (find tbl) (plain (W9 n)) WB n Try.f113 VJ x=N.P8 n x.1 x.2.1 x.2.2.1 x.2.2.2.1 x.2.2.2.2.1 x.2.2.2.2.2.1 x.2.2.2.2.2.2.1 x.2.2.2.2.2.2.2:=by kernel_rfl
theorem aR (n:Nat):K6 Try.prog TT 113 (bG n):=OJ (an:=WB) (n:=n) Try.func113 rfl (by kernel_rfl) PF (OI (OQ (ax n) Uy Oc)) follows (Z4 n)
def Xq:Sm:=⟨[.val true [I,I,(.sl 3 (.one I))], .val false [(.sl 43 k5)]],[(false,[(.bool,0)])]⟩
def Yj:An:=⟨fun _=>none,
 fun b=>match b with
  | 0=>some ([.slot 19 I],true)
  | 2=>some ([.slot 59 I],true)
  | _=>none,
 fun _=>none,
 fun _=>[]⟩
def eH (n:Nat):Mz:=⟨Xq,fun x=>N.Qg n x.1 x.2.1 x.2.2.1 x.2.2.2⟩
def ZU (n:Nat):List (FuncId×Mz):=[(59,YU n),(71,Uo n),(113,bG n)]
theorem Ux:Mw Try.prog 34:=⟨_,_,Try.func34,rfl,by kernel_rfl⟩
theorem cT (n:Nat) (x:Xq.ins.D):L9 (find tbl) (plain (ZU n)) Yj n Try.f34 Xq x=N.Qg n x.1 x.2.1 x.2.2.1 x.2.2.2:=by kernel_rfl
theorem aw (n:Nat):K6 Try.prog TT 34 (eH n):=OJ (an:=Yj) (n:=n) Try.func34 rfl (by kernel_rfl) PF (OI (OQ (VD n) TJ (OQ (TE n) RI (OQ (aR n) Vm Oc)))) follows (cT n)
def Xp:Sm:=⟨[.val false [(.sl 75 k4)]],[(false,[(.bool,0)])]⟩
def Yi:An:=⟨fun _=>none,
 fun b=>match b with
  | 0=>some ([.slot 10 I],true)
  | 2=>some ([.slot 51 I],true)
  | _=>none,
 fun _=>none,
 fun _=>[]⟩
def fD (n:Nat):Mz:=⟨Xp,fun x=>N.RP n x⟩
def ZT (n:Nat):List (FuncId×Mz):=[(71,Uo n)]
theorem Wi:Mw Try.prog 33:=⟨_,_,Try.func33,rfl,by kernel_rfl⟩
theorem cS (n:Nat) (x:Xp.ins.D):L9 (find tbl) (plain (ZT n)) Yi n Try.f33 Xp x=N.RP n x:=by kernel_rfl
theorem dZ (n:Nat):K6 Try.prog TT 33 (fD n):=OJ (an:=Yi) (n:=n) Try.func33 rfl (by kernel_rfl) PF (OI (OQ (TE n) RI Oc)) follows (cS n)
def X8:Sm:=⟨[.val false [(.sl 3 (.one I))]],[(false,[(.bool,0)])]⟩
def Y1:An:=⟨fun _=>none,
 fun b=>match b with
  | 0=>some ([.slot 7 I],true)
  | _=>none,
 fun _=>none,
 fun _=>[]⟩
def fN (n:Nat):Mz:=⟨X8,fun x=>N.P7 n x⟩
def Zn (n:Nat):List (FuncId×Mz):=[(71,Uo n)]
theorem Ws:Mw Try.prog 70:=⟨_,_,Try.func70,rfl,by kernel_rfl⟩
theorem dB (n:Nat) (x:X8.ins.D):L9 (find tbl) (plain (Zn n)) Y1 n Try.f70 X8 x=N.P7 n x:=by kernel_rfl
theorem dq (n:Nat):K6 Try.prog TT 70 (fN n):=OJ (an:=Y1) (n:=n) Try.func70 rfl (by kernel_rfl) PF (OI (OQ (TE n) RI Oc)) follows (dB n)
def YI:Sm:=⟨[.val true [I,(.sl 54 k10)], .val false [I]],[(false,[(I,0)])]⟩
def ZB:An:=⟨fun _=>none,
 fun b=>match b with
  | 0=>some ([.slot 10 I],true)
  | _=>none,
 fun _=>none,
 fun _=>[]⟩
def cA (n:Nat):Mz:=⟨YI,fun x=>N.Qt n x.1 x.2.1 x.2.2⟩
def Zx (n:Nat):List (FuncId×Mz):=[]
theorem UP:Mw Try.prog 90:=⟨_,_,Try.func90,rfl,by kernel_rfl⟩
theorem dL (n:Nat) (x:YI.ins.D):L9 (find tbl) (plain (Zx n)) ZB n Try.f90 YI x=N.Qt n x.1 x.2.1 x.2.2:=by kernel_rfl
theorem XZ (n:Nat):K6 Try.prog TT 90 (cA n):=OJ (an:=ZB) (n:=n) Try.func90 rfl (by kernel_rfl) PF (OI Oc) follows (dL n)
def VH:Sm:=⟨[.val true [(.sl 104 k7)], .val false [I]],[(false,[(I,0)])]⟩
def V9:An:=⟨fun _=>none,
 fun b=>match b with
  | 0=>some ([.slot 10 I],true)
  | _=>none,
 fun _=>none,
 fun _=>[]⟩
def Xd (n:Nat):Mz:=⟨VH,fun x=>N.Rz n x.1 x.2⟩
def W7 (n:Nat):List (FuncId×Mz):=[]
theorem Ub:Mw Try.prog 104:=⟨_,_,Try.func104,rfl,by kernel_rfl⟩
theorem Z2 (n:Nat) (x:VH.ins.D):L9 (find tbl) (plain (W7 n)) V9 n Try.f104 VH x=N.Rz n x.1 x.2:=by kernel_rfl
theorem WX (n:Nat):K6 Try.prog TT 104 (Xd n):=OJ (an:=V9) (n:=n) Try.func104 rfl (by kernel_rfl) PF (OI Oc) follows (Z2 n)
def VS:Sm:=⟨[.val false [(.sl 3 (.one I))], .val false [I]],[(false,[(.bool,0)])]⟩
def WK:An:=⟨fun _=>none,
 fun b=>match b with
  | 0=>some ([.slot 9 I],true)
  | _=>none,
 fun _=>none,
 fun _=>[]⟩
def Xe (n:Nat):Mz:=⟨VS,fun x=>N.Re n x.1 x.2⟩
def XH (n:Nat):List (FuncId×Mz):=[]
theorem Uc:Mw Try.prog 133:=⟨_,_,Try.func133,rfl,by kernel_rfl⟩
theorem aC (n:Nat) (x:VS.ins.D):L9 (find tbl) (plain (XH n)) WK n Try.f133 VS x=N.Re n x.1 x.2:=by kernel_rfl
theorem WY (n:Nat):K6 Try.prog TT 133 (Xe n):=OJ (an:=WK) (n:=n) Try.func133 rfl (by kernel_rfl) PF (OI Oc) follows (aC n)
def VT:Sm:=⟨[.val false [(.sl 170 k2)]],[(false,[((.sl 3 (.one I)),2)])]⟩
def WL:An:=⟨fun _=>none,
 fun b=>match b with
  | 0=>some ([.own 3 3 (.one I) 2 false, .slot 8 I],false)
  | _=>none,
 fun b=>match b with
  | 7=>some ([.own 3 3 (.one I) 2 false],false)
  | _=>none,
 fun _=>[]⟩
def bN (n:Nat):Mz:=⟨VT,fun x=>N.SD n x⟩
def XI (n:Nat):List (FuncId×Mz):=[(133,Xe n)]
theorem Vt:Mw Try.prog 134:=⟨_,_,Try.func134,rfl,by kernel_rfl⟩
theorem aD (n:Nat) (x:VT.ins.D):L9 (find tbl) (plain (XI n)) WL n Try.f134 VT x=N.SD n x:=by kernel_rfl
theorem aZ (n:Nat):K6 Try.prog TT 134 (bN n):=OJ (an:=WL) (n:=n) Try.func134 rfl (by kernel_rfl) PF (OI (OQ (WY n) Uc Oc)) follows (aD n)
def VU:Sm:=⟨[.val false [(.sl 43 k5)], .val false [I]],[(false,[(I,0)])]⟩
def WM:An:=⟨fun _=>none,
 fun b=>match b with
  | 0=>some ([.slot 9 I],true)
  | _=>none,
 fun _=>none,
 fun _=>[]⟩
def bO (n:Nat):Mz:=⟨VU,fun x=>N.R0 n x.1 x.2⟩
def XJ (n:Nat):List (FuncId×Mz):=[]
theorem Vu:Mw Try.prog 135:=⟨_,_,Try.func135,rfl,by kernel_rfl⟩
theorem aE (n:Nat) (x:VU.ins.D):L9 (find tbl) (plain (XJ n)) WM n Try.f135 VU x=N.R0 n x.1 x.2:=by kernel_rfl
theorem ab (n:Nat):K6 Try.prog TT 135 (bO n):=OJ (an:=WM) (n:=n) Try.func135 rfl (by kernel_rfl) PF (OI Oc) follows (aE n)
def VV:Sm:=⟨[.val true [I,I,(.sl 3 (.one I)),(.sl 104 k7),I,(.sl 54 k10),(.sl 43 k5),(.sl 75 k4),(.sl 3 (.one I)),(.sl 3 (.one I)),I], .val true [I,I,I,I]],[(false,[(I,0)])]⟩
def WN:An:=⟨fun _=>none,
 fun _=>none,
 fun _=>none,
 fun _=>[]⟩
def bP (n:Nat):Mz:=⟨VV,fun x=>N.SE n x.1 x.2.1 x.2.2.1 x.2.2.2.1 x.2.2.2.2.1 x.2.2.2.2.2.1 x.2.2.2.2.2.2.1 x.2.2.2.2.2.2.2.1 x.2.2.2.2.2.2.2.2.1 x.2.2.2.2.2.2.2.2.2.1 x.2.2.2.2.2.2.2.2.2.2.1 x.2.2.2.2.2.2.2.2.2.2.2.1 x.2.2.2.2.2.2.2.2.2.2.2.2.1 x.2.2.2.2.2.2.2.2.2.2.2.2.2.1 x.2.2.2.2.2.2.2.2.2.2.2.2.2.2⟩
def XK (n:Nat):List (FuncId×Mz):=[(90,cA n),(104,Xd n)]
theorem Vv:Mw Try.prog 136:=⟨_,_,Try.func136,rfl,by kernel_rfl⟩
theorem aF (n:Nat) (x:VV.ins.D):L9 (find tbl) (plain (XK n)) WN n Try.f136 VV x=N.SE n x.1 x.2.1 x.2.2.1 x.2.2.2.1 x.2.2.2.2.1 x.2.2.2.2.2.1 x.2.2.2.2.2.2.1 x.2.2.2.2.2.2.2.1 x.2.2.2.2.2.2.2.2.1 x.2.2.2.2.2.2.2.2.2.1 x.2.2.2.2.2.2.2.2.2.2.1 x.2.2.2.2.2.2.2.2.2.2.2.1 x.2.2.2.2.2.2.2.2.2.2.2.2.1 x.2.2.2.2.2.2.2.2.2.2.2.2.2.1 x.2.2.2.2.2.2.2.2.2.2.2.2.2.2:=by kernel_rfl
theorem ae (n:Nat):K6 Try.prog TT 136 (bP n):=OJ (an:=WN) (n:=n) Try.func136 rfl (by kernel_rfl) PF (OI (OQ (XZ n) UP (OQ (WX n) Ub Oc))) follows (aF n)
def YA:Sm:=⟨[.val true [I,I,(.sl 3 (.one I)),(.sl 104 k7),I,(.sl 54 k10),(.sl 43 k5),(.sl 75 k4),(.sl 3 (.one I)),(.sl 3 (.one I)),I], .val true [I,I,I,I]],[(false,[(.bool,0)])]⟩
def Y3:An:=⟨fun _=>none,
 fun _=>none,
 fun _=>none,
 fun _=>[]⟩
def fO (n:Nat):Mz:=⟨YA,fun x=>N.SF n x.1 x.2.1 x.2.2.1 x.2.2.2.1 x.2.2.2.2.1 x.2.2.2.2.2.1 x.2.2.2.2.2.2.1 x.2.2.2.2.2.2.2.1 x.2.2.2.2.2.2.2.2.1 x.2.2.2.2.2.2.2.2.2.1 x.2.2.2.2.2.2.2.2.2.2.1 x.2.2.2.2.2.2.2.2.2.2.2.1 x.2.2.2.2.2.2.2.2.2.2.2.2.1 x.2.2.2.2.2.2.2.2.2.2.2.2.2.1 x.2.2.2.2.2.2.2.2.2.2.2.2.2.2⟩
def Zp (n:Nat):List (FuncId×Mz):=[(90,cA n),(104,Xd n),(133,Xe n),(134,bN n),(135,bO n),(136,bP n)]
theorem Wt:Mw Try.prog 72:=⟨_,_,Try.func72,rfl,by kernel_rfl⟩
theorem dD (n:Nat) (x:YA.ins.D):L9 (find tbl) (plain (Zp n)) Y3 n Try.f72 YA x=N.SF n x.1 x.2.1 x.2.2.1 x.2.2.2.1 x.2.2.2.2.1 x.2.2.2.2.2.1 x.2.2.2.2.2.2.1 x.2.2.2.2.2.2.2.1 x.2.2.2.2.2.2.2.2.1 x.2.2.2.2.2.2.2.2.2.1 x.2.2.2.2.2.2.2.2.2.2.1 x.2.2.2.2.2.2.2.2.2.2.2.1 x.2.2.2.2.2.2.2.2.2.2.2.2.1 x.2.2.2.2.2.2.2.2.2.2.2.2.2.1 x.2.2.2.2.2.2.2.2.2.2.2.2.2.2:=by kernel_rfl
theorem dr (n:Nat):K6 Try.prog TT 72 (fO n):=OJ (an:=Y3) (n:=n) Try.func72 rfl (by kernel_rfl) PF (OI (OQ (XZ n) UP (OQ (WX n) Ub (OQ (WY n) Uc (OQ (aZ n) Vt (OQ (ab n) Vu (OQ (ae n) Vv Oc))))))) follows (dD n)
def Xh:Sm:=⟨[.val true [I,I,(.sl 3 (.one I)),(.sl 104 k7),I,(.sl 54 k10),(.sl 43 k5),(.sl 75 k4),(.sl 3 (.one I)),(.sl 3 (.one I)),I]],[(false,[(.bool,0)])]⟩
def Ya:An:=⟨fun _=>none,
 fun b=>match b with
  | 0=>some ([.slot 56 I],true)
  | _=>none,
 fun _=>none,
 fun _=>[]⟩
def eF (n:Nat):Mz:=⟨Xh,fun x=>N.QK n x.1 x.2.1 x.2.2.1 x.2.2.2.1 x.2.2.2.2.1 x.2.2.2.2.2.1 x.2.2.2.2.2.2.1 x.2.2.2.2.2.2.2.1 x.2.2.2.2.2.2.2.2.1 x.2.2.2.2.2.2.2.2.2.1 x.2.2.2.2.2.2.2.2.2.2⟩
def ZL (n:Nat):List (FuncId×Mz):=[(20,fC n),(21,bq n),(33,fD n),(34,eH n),(59,YU n),(70,fN n),(71,Uo n),(72,fO n)]
theorem Uv:Mw Try.prog 12:=⟨_,_,Try.func12,rfl,by kernel_rfl⟩
theorem cK (n:Nat) (x:Xh.ins.D):L9 (find tbl) (plain (ZL n)) Ya n Try.f12 Xh x=N.QK n x.1 x.2.1 x.2.2.1 x.2.2.2.1 x.2.2.2.2.1 x.2.2.2.2.2.1 x.2.2.2.2.2.2.1 x.2.2.2.2.2.2.2.1 x.2.2.2.2.2.2.2.2.1 x.2.2.2.2.2.2.2.2.2.1 x.2.2.2.2.2.2.2.2.2.2:=by kernel_rfl
theorem aS (n:Nat):K6 Try.prog TT 12 (eF n):=OJ (an:=Ya) (n:=n) Try.func12 rfl (by kernel_rfl) PF (OI (OQ (dY n) Wh (OQ (XX n) UN (OQ (dZ n) Wi (OQ (aw n) Ux (OQ (VD n) TJ (OQ (dq n) Ws (OQ (TE n) RI (OQ (dr n) Wt Oc))))))))) follows (cK n)
def YB:Sm:=⟨[.val true [I,I,(.sl 3 (.one I)),(.sl 104 k7),I,(.sl 54 k10),(.sl 43 k5),(.sl 75 k4),(.sl 3 (.one I)),(.sl 3 (.one I)),I]],[(false,[(.bool,0)])]⟩
def Y4:An:=⟨fun _=>none,
 fun b=>match b with
  | 0=>some ([.slot 3 I],true)
  | _=>none,
 fun _=>none,
 fun _=>[]⟩
def fQ (n:Nat):Mz:=⟨YB,fun x=>N.RA n x.1 x.2.1 x.2.2.1 x.2.2.2.1 x.2.2.2.2.1 x.2.2.2.2.2.1 x.2.2.2.2.2.2.1 x.2.2.2.2.2.2.2.1 x.2.2.2.2.2.2.2.2.1 x.2.2.2.2.2.2.2.2.2.1 x.2.2.2.2.2.2.2.2.2.2⟩
def Zq (n:Nat):List (FuncId×Mz):=[(64,eJ n),(71,Uo n)]
theorem Wu:Mw Try.prog 73:=⟨_,_,Try.func73,rfl,by kernel_rfl⟩
theorem dE (n:Nat) (x:YB.ins.D):L9 (find tbl) (plain (Zq n)) Y4 n Try.f73 YB x=N.RA n x.1 x.2.1 x.2.2.1 x.2.2.2.1 x.2.2.2.2.1 x.2.2.2.2.2.1 x.2.2.2.2.2.2.1 x.2.2.2.2.2.2.2.1 x.2.2.2.2.2.2.2.2.1 x.2.2.2.2.2.2.2.2.2.1 x.2.2.2.2.2.2.2.2.2.2:=by kernel_rfl
theorem dw (n:Nat):K6 Try.prog TT 73 (fQ n):=OJ (an:=Y4) (n:=n) Try.func73 rfl (by kernel_rfl) PF (OI (OQ (ay n) Uz (OQ (TE n) RI Oc))) follows (dE n)
def VX:Sm:=⟨[.val false [(.sl 170 k2)]],[(false,[((.sl 170 k2),2)])]⟩
def WQ:An:=⟨fun _=>none,
 fun _=>none,
 fun _=>none,
 fun _=>[]⟩
def bR (n:Nat):Mz:=⟨VX,fun x=>N.RW x⟩
def XM (n:Nat):List (FuncId×Mz):=[]
theorem Vx:Mw Try.prog 149:=⟨_,_,Try.func149,rfl,by kernel_rfl⟩
theorem aH (n:Nat) (x:VX.ins.D):L9 (find tbl) (plain (XM n)) WQ n Try.f149 VX x=N.RW x:=by kernel_rfl
theorem ag (n:Nat):K6 Try.prog TT 149 (bR n):=OJ (an:=WQ) (n:=n) Try.func149 rfl (by kernel_rfl) PF (OI Oc) follows (aH n)
def YJ:Sm:=⟨[.val true [I,I,(.sl 61 k1),(.sl 170 k2),I]],[(true,[(I,0),(I,0),((.sl 61 k1),2),((.sl 170 k2),2),(I,0)])]⟩
def ZC:An:=⟨fun _=>none,
 fun _=>none,
 fun _=>none,
 fun _=>[]⟩
def fV (n:Nat):Mz:=⟨YJ,fun x=>N.RV x.1 x.2.1 x.2.2.1 x.2.2.2.1 x.2.2.2.2⟩
def Zy (n:Nat):List (FuncId×Mz):=[(85,eN n),(149,bR n)]
theorem Wz:Mw Try.prog 91:=⟨_,_,Try.func91,rfl,by kernel_rfl⟩
theorem dM (n:Nat) (x:YJ.ins.D):L9 (find tbl) (plain (Zy n)) ZC n Try.f91 YJ x=N.RV x.1 x.2.1 x.2.2.1 x.2.2.2.1 x.2.2.2.2:=by kernel_rfl
theorem eB (n:Nat):K6 Try.prog TT 91 (fV n):=OJ (an:=ZC) (n:=n) Try.func91 rfl (by kernel_rfl) PF (OI (OQ (bC n) U3 (OQ (ag n) Vx Oc))) follows (dM n)
def Xl:Sm:=⟨[.val true [I,(.sl 54 k10)], .val false [I]],[(true,[(I,0),(I,0),((.sl 61 k1),2),((.sl 170 k2),2),(I,0)]),(false,[(.bool,0)])]⟩
def Ye:An:=⟨fun _=>none,
 fun _=>none,
 fun _=>none,
 fun _=>[]⟩
def fA (n:Nat):Mz:=⟨Xl,fun x=>N.Rw n x.1 x.2.1 x.2.2⟩
def ZP (n:Nat):List (FuncId×Mz):=[(90,cA n),(91,fV n)]
theorem Wg:Mw Try.prog 19:=⟨_,_,Try.func19,rfl,by kernel_rfl⟩
theorem cO (n:Nat) (x:Xl.ins.D):L9 (find tbl) (plain (ZP n)) Ye n Try.f19 Xl x=N.Rw n x.1 x.2.1 x.2.2:=by kernel_rfl
theorem dX (n:Nat):K6 Try.prog TT 19 (fA n):=OJ (an:=Ye) (n:=n) Try.func19 rfl (by kernel_rfl) PF (OI (OQ (XZ n) UP (OQ (eB n) Wz Oc))) follows (cO n)
def Vb:Sm:=⟨[.val true [I,I,(.sl 61 k1),(.sl 170 k2),I], .val false [I]],[(false,[((.sl 170 k2),2)])]⟩
def WU:An:=⟨fun _=>none,
 fun b=>match b with
  | 0=>some ([.own 5 170 k2 2 false, .slot 11 I],false)
  | _=>none,
 fun b=>match b with
  | 7=>some ([.own 5 170 k2 2 false],false)
  | _=>none,
 fun _=>[]⟩
def bV (n:Nat):Mz:=⟨Vb,fun x=>N.Rx n x.1 x.2.1 x.2.2.1 x.2.2.2.1 x.2.2.2.2.1 x.2.2.2.2.2⟩
def XQ (n:Nat):List (FuncId×Mz):=[]
theorem V1:Mw Try.prog 168:=⟨_,_,Try.func168,rfl,by kernel_rfl⟩
theorem aL (n:Nat) (x:Vb.ins.D):L9 (find tbl) (plain (XQ n)) WU n Try.f168 Vb x=N.Rx n x.1 x.2.1 x.2.2.1 x.2.2.2.1 x.2.2.2.2.1 x.2.2.2.2.2:=by kernel_rfl
theorem ak (n:Nat):K6 Try.prog TT 168 (bV n):=OJ (an:=WU) (n:=n) Try.func168 rfl (by kernel_rfl) PF (OI Oc) follows (aL n)
end Go.Proofs.Ytglbgceejloiaaa.Ev
