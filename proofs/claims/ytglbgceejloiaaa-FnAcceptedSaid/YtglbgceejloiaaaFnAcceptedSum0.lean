/- Tables of types;summaries of the functions. Conditions: none. -/
import Derived.Test.YtglbgceejloiaaaLib4
import Derived.Test.YtglbgceejloiaaaFnAcceptedNat
import Derived.Test.YtglbgceejloiaaaProg
import Derived.KernelRfl
namespace Go.Proofs.Ytglbgceejloiaaa.Ev
open Go Go.Ev Go.Proofs
set_option linter.unusedVariables false
set_option maxRecDepth 100000
abbrev I:L := .int .i64
abbrev TT:List (String×Array Value):=[]
def k0:Ls:=(.cons .str (.one (.int .u64)))
def k1:Ls:=(.cons I (.one I))
def k2:Ls:=(.cons I (.cons I (.one I)))
def k3:Ls:=(.cons I (.cons I (.cons .bool (.one (.int .u8)))))
def k4:Ls:=(.cons I (.cons I (.cons I (.one I))))
def k5:Ls:=(.cons I (.cons I (.cons I (.cons .bool (.one I)))))
def k6:Ls:=(.cons I (.cons I (.one (.sl 3 (.one I)))))
def k7:Ls:=(.cons I (.cons I (.one (.sl 109 k2))))
def k8:Ls:=(.cons (.sl 5 (.one (.int .u8))) (.cons I (.one I)))
def k9:Ls:=(.cons I (.cons I (.one (.sl 218 k2))))
def k10:Ls:=(.cons I (.cons I (.cons (.sl 61 k1) (.cons (.sl 170 k2) (.one I)))))
def kq:Ls:=(.cons I (.one (.sl 54 k10)))
def kz:Ls:=(.cons I (.cons I (.cons (.sl 3 (.one I)) (.cons (.sl 104 k7) (.cons I (.cons (.sl 54 k10) (.cons (.sl 43 k5) (.cons (.sl 75 k4) (.cons (.sl 3 (.one I)) (.cons (.sl 3 (.one I)) (.one I)))))))))))
def tbl:List (Nat×Ty):=[
 (3,⟨false,(.one I),[],false⟩),
 (4,⟨false,(.one .bool),[],false⟩),
 (5,⟨false,(.one (.int .u8)),[],false⟩),
 (22,⟨false,(.one (.sl 5 (.one (.int .u8)))),[],false⟩),
 (24,⟨false,(.one (.sl 3 (.one I))),[],false⟩),
 (27,⟨false,(.one (.sl 104 k7)),[],false⟩),
 (29,⟨true,(.one (.sl 104 k7)),[(0,27)],false⟩),
 (32,⟨false,(.one (.sl 54 k10)),[],false⟩),
 (34,⟨true,kq,[(0,3),(1,32)],false⟩),
 (47,⟨false,(.one (.sl 61 k1)),[],false⟩),
 (52,⟨false,(.one (.sl 170 k2)),[],false⟩),
 (54,⟨true,k10,[(0,3),(1,3),(2,47),(3,52),(4,3)],false⟩),
 (61,⟨true,k1,[(0,3),(1,3)],true⟩),
 (102,⟨false,(.one (.sl 109 k2)),[],false⟩),
 (104,⟨true,k7,[(0,3),(1,3),(2,102)],false⟩),
 (109,⟨true,k2,[(0,3),(1,3),(2,3)],true⟩),
 (161,⟨true,k8,[(0,22),(1,3),(2,3)],false⟩),
 (170,⟨true,k2,[(0,3),(1,3),(2,3)],true⟩),
 (177,⟨false,(.one (.sl 4 (.one .bool))),[],false⟩)]
theorem PL:tbl.all (fun p=>Oi Try.prog p.1 p.2)=true:=by kernel_rfl
theorem follows:Try.prog.follows .mixedOrders=true:=by kernel_rfl
def j7:Sm:=⟨[.val false [(.sl 5 (.one (.int .u8)))]],[(false,[(.bool,0)])]⟩
def kE:An:=⟨fun _=>none,
 fun _=>none,
 fun _=>none,
 fun _=>[]⟩
def s7 (n:Nat):Mz:=⟨j7,fun x=>N.Tk x⟩
def iX (n:Nat):List (FuncId×Mz):=[]
theorem dT:Mw Try.prog 7:=⟨_,_,Try.func7,rfl,by kernel_rfl⟩
theorem kh (n:Nat) (x:j7.ins.D):L9 (find tbl) (plain (iX n)) kE n Try.f7 j7 x=N.Tk x:=by kernel_rfl
theorem kv (n:Nat):K6 Try.prog TT 7 (s7 n):=OJ (an:=kE) (n:=n) Try.func7 rfl (by kernel_rfl) PL (OI Oc) follows (kh n)
def bP:Sm:=⟨[.val false [(.sl 5 (.one (.int .u8)))]],[(false,[((.sl 5 (.one (.int .u8))),0),(I,0),(I,0)])]⟩
def ck:An:=⟨fun _=>none,
 fun b=>match b with
  | 0=>some ([.slot 3 I, .slot 4 I],false)
  | _=>none,
 fun _=>none,
 fun _=>[]⟩
def kO (n:Nat):Mz:=⟨bP,fun x=>N.SP n x⟩
def di (n:Nat):List (FuncId×Mz):=[]
theorem Zn:Mw Try.prog 53:=⟨_,_,Try.func53,rfl,by kernel_rfl⟩
theorem iw (n:Nat) (x:bP.ins.D):L9 (find tbl) (plain (di n)) ck n Try.f53 bP x=N.SP n x:=by kernel_rfl
theorem ji (n:Nat):K6 Try.prog TT 53 (kO n):=OJ (an:=ck) (n:=n) Try.func53 rfl (by kernel_rfl) PL (OI Oc) follows (iw n)
def bW:Sm:=⟨[.val false [(.sl 5 (.one (.int .u8)))], .val false [I]],[(false,[(I,0)])]⟩
def dA:An:=⟨fun _=>none,
 fun _=>none,
 fun _=>none,
 fun _=>[]⟩
def kQ (n:Nat):Mz:=⟨bW,fun x=>N.R6 x.1 x.2⟩
def dz (n:Nat):List (FuncId×Mz):=[]
theorem Zp:Mw Try.prog 78:=⟨_,_,Try.func78,rfl,by kernel_rfl⟩
theorem jD (n:Nat) (x:bW.ins.D):L9 (find tbl) (plain (dz n)) dA n Try.f78 bW x=N.R6 x.1 x.2:=by kernel_rfl
theorem jl (n:Nat):K6 Try.prog TT 78 (kQ n):=OJ (an:=dA) (n:=n) Try.func78 rfl (by kernel_rfl) PL (OI Oc) follows (jD n)
def Xw:Sm:=⟨[.box [((.sl 5 (.one (.int .u8))),0),(I,0),(I,0)]],[(false,[(I,0)])]⟩
def ZG:An:=⟨fun _=>none,
 fun _=>none,
 fun b=>match b with
  | 12=>some ([.slot 3 I, .box 0 [some ((.sl 5 (.one (.int .u8))),0),some (I,0),some (I,0)]],false)
  | _=>none,
 fun _=>[]⟩
def gm (n:Nat):Mz:=⟨Xw,fun x=>N.QS x.1 x.2.1 x.2.2⟩
def aI (n:Nat):List (FuncId×Mz):=[]
theorem YX:Mw Try.prog 167:=⟨_,_,Try.func167,rfl,by kernel_rfl⟩
theorem fH (n:Nat) (x:Xw.ins.D):L9 (find tbl) (plain (aI n)) ZG n Try.f167 Xw x=N.QS x.1 x.2.1 x.2.2:=by kernel_rfl
theorem gA (n:Nat):K6 Try.prog TT 167 (gm n):=OJ (an:=ZG) (n:=n) Try.func167 rfl (by kernel_rfl) PL (OI Oc) follows (fH n)
def Xg:Sm:=⟨[.box [((.sl 5 (.one (.int .u8))),0),(I,0),(I,0)], .val false [I]],[(false,[(I,0)])]⟩
def Y0:An:=⟨fun _=>none,
 fun _=>none,
 fun _=>none,
 fun _=>[]⟩
def Vo (n:Nat):Mz:=⟨Xg,fun x=>N.PQ x.1 x.2.1 x.2.2.1 x.2.2.2⟩
def Z2 (n:Nat):List (FuncId×Mz):=[(167,gm n)]
theorem Sh:Mw Try.prog 127:=⟨_,_,Try.func127,rfl,by kernel_rfl⟩
theorem eV (n:Nat) (x:Xg.ins.D):L9 (find tbl) (plain (Z2 n)) Y0 n Try.f127 Xg x=N.PQ x.1 x.2.1 x.2.2.1 x.2.2.2:=by kernel_rfl
theorem Uc (n:Nat):K6 Try.prog TT 127 (Vo n):=OJ (an:=Y0) (n:=n) Try.func127 rfl (by kernel_rfl) PL (OI (OQ (gA n) YX Oc)) follows (eV n)
def bQ:Sm:=⟨[.box [((.sl 5 (.one (.int .u8))),0),(I,0),(I,0)], .val false [I]],[(false,[(.bool,0)])]⟩
def cm:An:=⟨fun _=>none,
 fun _=>none,
 fun _=>none,
 fun _=>[]⟩
def jv (n:Nat):Mz:=⟨bQ,fun x=>N.RZ x.1 x.2.1 x.2.2.1 x.2.2.2⟩
def dm (n:Nat):List (FuncId×Mz):=[(127,Vo n)]
theorem XE:Mw Try.prog 57:=⟨_,_,Try.func57,rfl,by kernel_rfl⟩
theorem ix (n:Nat) (x:bQ.ins.D):L9 (find tbl) (plain (dm n)) cm n Try.f57 bQ x=N.RZ x.1 x.2.1 x.2.2.1 x.2.2.2:=by kernel_rfl
theorem gL (n:Nat):K6 Try.prog TT 57 (jv n):=OJ (an:=cm) (n:=n) Try.func57 rfl (by kernel_rfl) PL (OI (OQ (Uc n) Sh Oc)) follows (ix n)
def bX:Sm:=⟨[.box [((.sl 5 (.one (.int .u8))),0),(I,0),(I,0)], .val false [(.sl 3 (.one I))]],[(false,[(I,0)])]⟩
def dB:An:=⟨fun _=>none,
 fun _=>none,
 fun _=>none,
 fun _=>[]⟩
def bD (n:Nat):Mz:=⟨bX,fun x=>N.Ph x.1 x.2.1 x.2.2.1 x.2.2.2⟩
def eA (n:Nat):List (FuncId×Mz):=[(127,Vo n)]
theorem Ts:Mw Try.prog 79:=⟨_,_,Try.func79,rfl,by kernel_rfl⟩
theorem jE (n:Nat) (x:bX.ins.D):L9 (find tbl) (plain (eA n)) dB n Try.f79 bX x=N.Ph x.1 x.2.1 x.2.2.1 x.2.2.2:=by kernel_rfl
theorem Wy (n:Nat):K6 Try.prog TT 79 (bD n):=OJ (an:=dB) (n:=n) Try.func79 rfl (by kernel_rfl) PL (OI (OQ (Uc n) Sh Oc)) follows (jE n)
def Xh:Sm:=⟨[.box [((.sl 5 (.one (.int .u8))),0),(I,0),(I,0)]],[(true,[((.sl 104 k7),2)])]⟩
def Y1:An:=⟨fun _=>none,
 fun b=>match b with
  | 0=>some ([.slot 4 I, .box 0 [some ((.sl 5 (.one (.int .u8))),0),some (I,0),some (I,0)], .box 3 [some ((.sl 104 k7),2)]],false)
  | 2=>some ([.slot 6 I, .box 0 [some ((.sl 5 (.one (.int .u8))),0),some (I,0),some (I,0)], .box 5 [some (I,0),some (I,0),some ((.sl 109 k2),2)]],false)
  | _=>none,
 fun b=>match b with
  | 7=>some ([.box 0 [some ((.sl 5 (.one (.int .u8))),0),some (I,0),some (I,0)], .box 3 [some ((.sl 104 k7),2)]],false)
  | 13=>some ([.box 0 [some ((.sl 5 (.one (.int .u8))),0),some (I,0),some (I,0)], .box 5 [some (I,0),some (I,0),some ((.sl 109 k2),2)]],false)
  | _=>none,
 fun _=>[]⟩
def gU (n:Nat):Mz:=⟨Xh,fun x=>N.R8 n x.1 x.2.1 x.2.2⟩
def Z3 (n:Nat):List (FuncId×Mz):=[(57,jv n),(79,bD n),(127,Vo n)]
theorem YM:Mw Try.prog 128:=⟨_,_,Try.func128,rfl,by kernel_rfl⟩
theorem eW (n:Nat) (x:Xh.ins.D):L9 (find tbl) (plain (Z3 n)) Y1 n Try.f128 Xh x=N.R8 n x.1 x.2.1 x.2.2:=by kernel_rfl
theorem fe (n:Nat):K6 Try.prog TT 128 (gU n):=OJ (an:=Y1) (n:=n) Try.func128 rfl (by kernel_rfl) PL (OI (OQ (gL n) XE (OQ (Wy n) Ts (OQ (Uc n) Sh Oc)))) follows (eW n)
def Xp:Sm:=⟨[.val true [I,I,(.sl 61 k1),(.sl 170 k2),I]],[(true,[(I,0),(I,0),((.sl 61 k1),2),((.sl 170 k2),2),(I,0)])]⟩
def Y9:An:=⟨fun _=>none,
 fun _=>none,
 fun _=>none,
 fun _=>[]⟩
def gb (n:Nat):Mz:=⟨Xp,fun x=>N.QJ x.1 x.2.1 x.2.2.1 x.2.2.2.1 x.2.2.2.2⟩
def aB (n:Nat):List (FuncId×Mz):=[]
theorem YS:Mw Try.prog 144:=⟨_,_,Try.func144,rfl,by kernel_rfl⟩
theorem eu (n:Nat) (x:Xp.ins.D):L9 (find tbl) (plain (aB n)) Y9 n Try.f144 Xp x=N.QJ x.1 x.2.1 x.2.2.1 x.2.2.2.1 x.2.2.2.2:=by kernel_rfl
theorem fp (n:Nat):K6 Try.prog TT 144 (gb n):=OJ (an:=Y9) (n:=n) Try.func144 rfl (by kernel_rfl) PL (OI Oc) follows (eu n)
def bh:Sm:=⟨[.val true [I,(.sl 54 k10)]],[(true,[(I,0),((.sl 54 k10),2)])]⟩
def dI:An:=⟨fun _=>none,
 fun b=>match b with
  | 0=>some ([.slot 4 I, .box 3 [some (I,0),some ((.sl 54 k10),2)]],false)
  | _=>none,
 fun _=>none,
 fun _=>[]⟩
def iJ (n:Nat):Mz:=⟨bh,fun x=>N.QX n x.1 x.2⟩
def eH (n:Nat):List (FuncId×Mz):=[(144,gb n)]
theorem V2:Mw Try.prog 86:=⟨_,_,Try.func86,rfl,by kernel_rfl⟩
theorem jL (n:Nat) (x:bh.ins.D):L9 (find tbl) (plain (eH n)) dI n Try.f86 bh x=N.QX n x.1 x.2:=by kernel_rfl
theorem ag (n:Nat):K6 Try.prog TT 86 (iJ n):=OJ (an:=dI) (n:=n) Try.func86 rfl (by kernel_rfl) PL (OI (OQ (fp n) YS Oc)) follows (jL n)
def X4:Sm:=⟨[.val true [I,(.sl 54 k10)], .val false [I]],[(false,[(I,0)])]⟩
def ZO:An:=⟨fun _=>none,
 fun b=>match b with
  | 0=>some ([.slot 5 I],true)
  | _=>none,
 fun _=>none,
 fun _=>[]⟩
def bC (n:Nat):Mz:=⟨X4,fun x=>N.QY n x.1 x.2.1 x.2.2⟩
def aQ (n:Nat):List (FuncId×Mz):=[]
theorem WU:Mw Try.prog 186:=⟨_,_,Try.func186,rfl,by kernel_rfl⟩
theorem fR (n:Nat) (x:X4.ins.D):L9 (find tbl) (plain (aQ n)) ZO n Try.f186 X4 x=N.QY n x.1 x.2.1 x.2.2:=by kernel_rfl
theorem ZZ (n:Nat):K6 Try.prog TT 186 (bC n):=OJ (an:=ZO) (n:=n) Try.func186 rfl (by kernel_rfl) PL (OI Oc) follows (fR n)
def bT:Sm:=⟨[.val false [I], .val false [I], .val false [I]],[(false,[(.bool,0)])]⟩
def cu:An:=⟨fun _=>none,
 fun _=>none,
 fun _=>none,
 fun _=>[]⟩
def Zc (n:Nat):Mz:=⟨bT,fun x=>N.Pd x.1 x.2.1 x.2.2⟩
def dw (n:Nat):List (FuncId×Mz):=[]
theorem TW:Mw Try.prog 67:=⟨_,_,Try.func67,rfl,by kernel_rfl⟩
theorem jA (n:Nat) (x:bT.ins.D):L9 (find tbl) (plain (dw n)) cu n Try.f67 bT x=N.Pd x.1 x.2.1 x.2.2:=by kernel_rfl
theorem WE (n:Nat):K6 Try.prog TT 67 (Zc n):=OJ (an:=cu) (n:=n) Try.func67 rfl (by kernel_rfl) PL (OI Oc) follows (jA n)
def Xf:Sm:=⟨[.val false [(.sl 109 k2)]],[(false,[(.bool,0)])]⟩
def Yz:An:=⟨fun _=>none,
 fun b=>match b with
  | 0=>some ([.slot 3 I],true)
  | _=>none,
 fun _=>none,
 fun _=>[]⟩
def gT (n:Nat):Mz:=⟨Xf,fun x=>N.RF n x⟩
def Z1 (n:Nat):List (FuncId×Mz):=[(67,Zc n)]
theorem YL:Mw Try.prog 112:=⟨_,_,Try.func112,rfl,by kernel_rfl⟩
theorem eU (n:Nat) (x:Xf.ins.D):L9 (find tbl) (plain (Z1 n)) Yz n Try.f112 Xf x=N.RF n x:=by kernel_rfl
theorem fZ (n:Nat):K6 Try.prog TT 112 (gT n):=OJ (an:=Yz) (n:=n) Try.func112 rfl (by kernel_rfl) PL (OI (OQ (WE n) TW Oc)) follows (eU n)
def bO:Sm:=⟨[.val true [(.sl 104 k7)]],[(false,[(.bool,0)])]⟩
def cg:An:=⟨fun _=>none,
 fun b=>match b with
  | 0=>some ([.slot 3 I],true)
  | 2=>some ([.slot 5 I],true)
  | _=>none,
 fun _=>none,
 fun _=>[]⟩
def gz (n:Nat):Mz:=⟨bO,fun x=>N.QI n x⟩
def dh (n:Nat):List (FuncId×Mz):=[(67,Zc n),(112,gT n)]
theorem VD:Mw Try.prog 32:=⟨_,_,Try.func32,rfl,by kernel_rfl⟩
theorem iv (n:Nat) (x:bO.ins.D):L9 (find tbl) (plain (dh n)) cg n Try.f32 bO x=N.QI n x:=by kernel_rfl
theorem Yi (n:Nat):K6 Try.prog TT 32 (gz n):=OJ (an:=cg) (n:=n) Try.func32 rfl (by kernel_rfl) PL (OI (OQ (WE n) TW (OQ (fZ n) YL Oc))) follows (iv n)
def Xr:Sm:=⟨[.val false [(.sl 61 k1)]],[(false,[(.bool,0)])]⟩
def ZB:An:=⟨fun _=>none,
 fun b=>match b with
  | 0=>some ([.slot 3 I],true)
  | _=>none,
 fun _=>none,
 fun _=>[]⟩
def az (n:Nat):Mz:=⟨Xr,fun x=>N.Pk n x⟩
def aD (n:Nat):List (FuncId×Mz):=[(67,Zc n)]
theorem WR:Mw Try.prog 146:=⟨_,_,Try.func146,rfl,by kernel_rfl⟩
theorem fC (n:Nat) (x:Xr.ins.D):L9 (find tbl) (plain (aD n)) ZB n Try.f146 Xr x=N.Pk n x:=by kernel_rfl
theorem ZW (n:Nat):K6 Try.prog TT 146 (az n):=OJ (an:=ZB) (n:=n) Try.func146 rfl (by kernel_rfl) PL (OI (OQ (WE n) TW Oc)) follows (fC n)
def X0:Sm:=⟨[.val false [(.sl 170 k2)], .val false [I]],[(false,[(I,0)])]⟩
def ZK:An:=⟨fun _=>none,
 fun b=>match b with
  | 0=>some ([.slot 5 I, .slot 6 I],false)
  | _=>none,
 fun b=>match b with
  | 7=>some ([.slot 5 I],false)
  | _=>none,
 fun _=>[]⟩
def gq (n:Nat):Mz:=⟨X0,fun x=>N.Qt n x.1 x.2⟩
def aM (n:Nat):List (FuncId×Mz):=[]
theorem Ya:Mw Try.prog 172:=⟨_,_,Try.func172,rfl,by kernel_rfl⟩
theorem fM (n:Nat) (x:X0.ins.D):L9 (find tbl) (plain (aM n)) ZK n Try.f172 X0 x=N.Qt n x.1 x.2:=by kernel_rfl
theorem gD (n:Nat):K6 Try.prog TT 172 (gq n):=OJ (an:=ZK) (n:=n) Try.func172 rfl (by kernel_rfl) PL (OI Oc) follows (fM n)
def Xq:Sm:=⟨[.val true [I,I,(.sl 61 k1),(.sl 170 k2),I]],[(false,[(.bool,0)])]⟩
def ZA:An:=⟨fun _=>none,
 fun b=>match b with
  | 0=>some ([.slot 3 I, .slot 4 I],false)
  | 2=>some ([.slot 3 I, .slot 5 I],true)
  | 4=>some ([.slot 7 I],true)
  | _=>none,
 fun _=>none,
 fun _=>[]⟩
def gf (n:Nat):Mz:=⟨Xq,fun x=>N.QN n x.1 x.2.1 x.2.2.1 x.2.2.2.1 x.2.2.2.2⟩
def aC (n:Nat):List (FuncId×Mz):=[(67,Zc n),(146,az n),(172,gq n)]
theorem YT:Mw Try.prog 145:=⟨_,_,Try.func145,rfl,by kernel_rfl⟩
theorem fA (n:Nat) (x:Xq.ins.D):L9 (find tbl) (plain (aC n)) ZA n Try.f145 Xq x=N.QN n x.1 x.2.1 x.2.2.1 x.2.2.2.1 x.2.2.2.2:=by kernel_rfl
theorem fq (n:Nat):K6 Try.prog TT 145 (gf n):=OJ (an:=ZA) (n:=n) Try.func145 rfl (by kernel_rfl) PL (OI (OQ (WE n) TW (OQ (ZW n) WR (OQ (gD n) Ya Oc)))) follows (fA n)
def bj:Sm:=⟨[.val true [I,(.sl 54 k10)]],[(false,[(.bool,0)])]⟩
def dJ:An:=⟨fun _=>none,
 fun b=>match b with
  | 0=>some ([.slot 3 I],true)
  | _=>none,
 fun _=>none,
 fun _=>[]⟩
def iK (n:Nat):Mz:=⟨bj,fun x=>N.Py n x.1 x.2⟩
def eI (n:Nat):List (FuncId×Mz):=[(67,Zc n),(145,gf n)]
theorem V3:Mw Try.prog 87:=⟨_,_,Try.func87,rfl,by kernel_rfl⟩
theorem jM (n:Nat) (x:bj.ins.D):L9 (find tbl) (plain (eI n)) dJ n Try.f87 bj x=N.Py n x.1 x.2:=by kernel_rfl
theorem ah (n:Nat):K6 Try.prog TT 87 (iK n):=OJ (an:=dJ) (n:=n) Try.func87 rfl (by kernel_rfl) PL (OI (OQ (WE n) TW (OQ (fq n) YT Oc))) follows (jM n)
def bS:Sm:=⟨[.val true [(.sl 104 k7)]],[(true,[((.sl 104 k7),2)])]⟩
def ct:An:=⟨fun _=>none,
 fun b=>match b with
  | 0=>some ([.slot 4 I, .box 3 [some ((.sl 104 k7),2)]],false)
  | _=>none,
 fun _=>none,
 fun _=>[]⟩
def Ys (n:Nat):Mz:=⟨bS,fun x=>N.PW n x⟩
def dr (n:Nat):List (FuncId×Mz):=[]
theorem S4:Mw Try.prog 66:=⟨_,_,Try.func66,rfl,by kernel_rfl⟩
theorem iz (n:Nat) (x:bS.ins.D):L9 (find tbl) (plain (dr n)) ct n Try.f66 bS x=N.PW n x:=by kernel_rfl
theorem Vi (n:Nat):K6 Try.prog TT 66 (Ys n):=OJ (an:=ct) (n:=n) Try.func66 rfl (by kernel_rfl) PL (OI Oc) follows (iz n)
def Xe:Sm:=⟨[.val true [(.sl 104 k7)], .val false [I]],[(false,[(I,0)])]⟩
def Yy:An:=⟨fun _=>none,
 fun b=>match b with
  | 0=>some ([.slot 5 I],true)
  | _=>none,
 fun _=>none,
 fun _=>[]⟩
def gR (n:Nat):Mz:=⟨Xe,fun x=>N.P0 n x.1 x.2⟩
def Z0 (n:Nat):List (FuncId×Mz):=[]
theorem YK:Mw Try.prog 109:=⟨_,_,Try.func109,rfl,by kernel_rfl⟩
theorem eT (n:Nat) (x:Xe.ins.D):L9 (find tbl) (plain (Z0 n)) Yy n Try.f109 Xe x=N.P0 n x.1 x.2:=by kernel_rfl
theorem fY (n:Nat):K6 Try.prog TT 109 (gR n):=OJ (an:=Yy) (n:=n) Try.func109 rfl (by kernel_rfl) PL (OI Oc) follows (eT n)
def Xj:Sm:=⟨[.val true [I,I,(.sl 109 k2)], .val false [I]],[(true,[(I,0),(I,0),(I,0)])]⟩
def Y3:An:=⟨fun _=>none,
 fun b=>match b with
  | 0=>some ([.slot 5 I, .box 4 [some (I,0),some (I,0),some (I,0)]],true)
  | _=>none,
 fun _=>none,
 fun _=>[]⟩
def ax (n:Nat):Mz:=⟨Xj,fun x=>N.Q3 n x.1 x.2.1 x.2.2.1 x.2.2.2⟩
def Z5 (n:Nat):List (FuncId×Mz):=[]
theorem WN:Mw Try.prog 132:=⟨_,_,Try.func132,rfl,by kernel_rfl⟩
theorem eY (n:Nat) (x:Xj.ins.D):L9 (find tbl) (plain (Z5 n)) Y3 n Try.f132 Xj x=N.Q3 n x.1 x.2.1 x.2.2.1 x.2.2.2:=by kernel_rfl
theorem ZU (n:Nat):K6 Try.prog TT 132 (ax n):=OJ (an:=Y3) (n:=n) Try.func132 rfl (by kernel_rfl) PL (OI Oc) follows (eY n)
def X7:Sm:=⟨[.val true [(.sl 104 k7)], .val false [I], .val false [I], .val false [I]],[(false,[(I,0)]),(true,[(I,0),(I,0),(I,0)]),(false,[(I,0)])]⟩
def ZR:An:=⟨fun _=>none,
 fun _=>none,
 fun _=>none,
 fun _=>[]⟩
def Yq (n:Nat):Mz:=⟨X7,fun x=>N.P6 n x.1 x.2.1 x.2.2.1 x.2.2.2⟩
def aT (n:Nat):List (FuncId×Mz):=[(32,gz n),(67,Zc n),(109,gR n),(132,ax n)]
theorem VB:Mw Try.prog 189:=⟨_,_,Try.func189,rfl,by kernel_rfl⟩
theorem fU (n:Nat) (x:X7.ins.D):L9 (find tbl) (plain (aT n)) ZR n Try.f189 X7 x=N.P6 n x.1 x.2.1 x.2.2.1 x.2.2.2:=by kernel_rfl
theorem XQ (n:Nat):K6 Try.prog TT 189 (Yq n):=OJ (an:=ZR) (n:=n) Try.func189 rfl (by kernel_rfl) PL (OI (OQ (Yi n) VD (OQ (WE n) TW (OQ (fY n) YK (OQ (ZU n) WN Oc))))) follows (fU n)
def X9:Sm:=⟨[.val false [(.sl 109 k2)], .val true [I,I,I]],[(false,[((.sl 109 k2),2)])]⟩
def ZT:An:=⟨fun _=>none,
 fun b=>match b with
  | 0=>some ([.own 5 109 k2 2 false, .slot 6 .bool, .slot 7 I],false)
  | _=>none,
 fun b=>match b with
  | 7=>some ([.own 5 109 k2 2 false, .slot 6 .bool],false)
  | 21=>some ([.own 5 109 k2 2 false, .slot 6 .bool],false)
  | 36=>some ([.own 5 109 k2 2 false],false)
  | _=>none,
 fun _=>[]⟩
def gy (n:Nat):Mz:=⟨X9,fun x=>N.R9 n x.1 x.2.1 x.2.2.1 x.2.2.2⟩
def aV (n:Nat):List (FuncId×Mz):=[]
theorem Yg:Mw Try.prog 195:=⟨_,_,Try.func195,rfl,by kernel_rfl⟩
theorem fW (n:Nat) (x:X9.ins.D):L9 (find tbl) (plain (aV n)) ZT n Try.f195 X9 x=N.R9 n x.1 x.2.1 x.2.2.1 x.2.2.2:=by kernel_rfl
theorem gK (n:Nat):K6 Try.prog TT 195 (gy n):=OJ (an:=ZT) (n:=n) Try.func195 rfl (by kernel_rfl) PL (OI Oc) follows (fW n)
def X8:Sm:=⟨[.val true [(.sl 104 k7)], .val false [I], .val true [I,I,I]],[(true,[((.sl 104 k7),2)])]⟩
def ZS:An:=⟨fun _=>none,
 fun _=>none,
 fun _=>none,
 fun _=>[]⟩
def Yr (n:Nat):Mz:=⟨X8,fun x=>N.QZ n x.1 x.2.1 x.2.2.1 x.2.2.2.1 x.2.2.2.2⟩
def aU (n:Nat):List (FuncId×Mz):=[(66,Ys n),(195,gy n)]
theorem VC:Mw Try.prog 190:=⟨_,_,Try.func190,rfl,by kernel_rfl⟩
theorem fV (n:Nat) (x:X8.ins.D):L9 (find tbl) (plain (aU n)) ZS n Try.f190 X8 x=N.QZ n x.1 x.2.1 x.2.2.1 x.2.2.2.1 x.2.2.2.2:=by kernel_rfl
theorem XR (n:Nat):K6 Try.prog TT 190 (Yr n):=OJ (an:=ZS) (n:=n) Try.func190 rfl (by kernel_rfl) PL (OI (OQ (Vi n) S4 (OQ (gK n) Yg Oc))) follows (fV n)
def X1:Sm:=⟨[.val true [(.sl 104 k7)], .val false [I], .val false [I], .val false [I]],[(true,[((.sl 104 k7),2)]),(false,[(I,0)])]⟩
def ZL:An:=⟨fun _=>none,
 fun _=>none,
 fun _=>none,
 fun _=>[]⟩
def gr (n:Nat):Mz:=⟨X1,fun x=>N.Rv n x.1 x.2.1 x.2.2.1 x.2.2.2⟩
def aN (n:Nat):List (FuncId×Mz):=[(66,Ys n),(189,Yq n),(190,Yr n)]
theorem Yb:Mw Try.prog 173:=⟨_,_,Try.func173,rfl,by kernel_rfl⟩
theorem fN (n:Nat) (x:X1.ins.D):L9 (find tbl) (plain (aN n)) ZL n Try.f173 X1 x=N.Rv n x.1 x.2.1 x.2.2.1 x.2.2.2:=by kernel_rfl
theorem gE (n:Nat):K6 Try.prog TT 173 (gr n):=OJ (an:=ZL) (n:=n) Try.func173 rfl (by kernel_rfl) PL (OI (OQ (Vi n) S4 (OQ (XQ n) VB (OQ (XR n) VC Oc)))) follows (fN n)
def X2:Sm:=⟨[.val true [(.sl 104 k7)], .val false [I], .val false [I], .val false [I]],[(true,[((.sl 104 k7),2)]),(false,[(I,0)])]⟩
def ZM:An:=⟨fun _=>none,
 fun _=>none,
 fun _=>none,
 fun _=>[]⟩
def gu (n:Nat):Mz:=⟨X2,fun x=>N.Rn n x.1 x.2.1 x.2.2.1 x.2.2.2⟩
def aO (n:Nat):List (FuncId×Mz):=[(66,Ys n),(189,Yq n),(190,Yr n)]
theorem Yc:Mw Try.prog 174:=⟨_,_,Try.func174,rfl,by kernel_rfl⟩
theorem fO (n:Nat) (x:X2.ins.D):L9 (find tbl) (plain (aO n)) ZM n Try.f174 X2 x=N.Rn n x.1 x.2.1 x.2.2.1 x.2.2.2:=by kernel_rfl
theorem gF (n:Nat):K6 Try.prog TT 174 (gu n):=OJ (an:=ZM) (n:=n) Try.func174 rfl (by kernel_rfl) PL (OI (OQ (Vi n) S4 (OQ (XQ n) VB (OQ (XR n) VC Oc)))) follows (fO n)
def X3:Sm:=⟨[.val true [(.sl 104 k7)], .val false [I], .val false [I], .val false [I]],[(true,[((.sl 104 k7),2)]),(false,[(I,0)])]⟩
def ZN:An:=⟨fun _=>none,
 fun _=>none,
 fun _=>none,
 fun _=>[]⟩
def gv (n:Nat):Mz:=⟨X3,fun x=>N.Sw n x.1 x.2.1 x.2.2.1 x.2.2.2⟩
def aP (n:Nat):List (FuncId×Mz):=[(66,Ys n),(189,Yq n),(190,Yr n)]
theorem Yd:Mw Try.prog 175:=⟨_,_,Try.func175,rfl,by kernel_rfl⟩
theorem fQ (n:Nat) (x:X3.ins.D):L9 (find tbl) (plain (aP n)) ZN n Try.f175 X3 x=N.Sw n x.1 x.2.1 x.2.2.1 x.2.2.2:=by kernel_rfl
theorem gG (n:Nat):K6 Try.prog TT 175 (gv n):=OJ (an:=ZN) (n:=n) Try.func175 rfl (by kernel_rfl) PL (OI (OQ (Vi n) S4 (OQ (XQ n) VB (OQ (XR n) VC Oc)))) follows (fQ n)
def Xt:Sm:=⟨[.val true [(.sl 104 k7)], .val false [(.sl 170 k2)], .val false [I]],[(true,[((.sl 104 k7),2)]),(false,[(.bool,0)])]⟩
def ZD:An:=⟨fun _=>none,
 fun b=>match b with
  | 0=>some ([.slot 9 I, .box 6 [some ((.sl 104 k7),2)], .box 8 [some ((.sl 104 k7),2)]],true)
  | _=>none,
 fun b=>match b with
  | 24=>some ([.slot 11 I, .box 8 [some ((.sl 104 k7),2)]],false)
  | _=>none,
 fun _=>[]⟩
def bA (n:Nat):Mz:=⟨Xt,fun x=>N.Qv n x.1 x.2.1 x.2.2⟩
def aF (n:Nat):List (FuncId×Mz):=[(66,Ys n),(173,gr n),(174,gu n),(175,gv n)]
theorem WS:Mw Try.prog 148:=⟨_,_,Try.func148,rfl,by kernel_rfl⟩
theorem fE (n:Nat) (x:Xt.ins.D):L9 (find tbl) (plain (aF n)) ZD n Try.f148 Xt x=N.Qv n x.1 x.2.1 x.2.2:=by kernel_rfl
theorem ZX (n:Nat):K6 Try.prog TT 148 (bA n):=OJ (an:=ZD) (n:=n) Try.func148 rfl (by kernel_rfl) PL (OI (OQ (Vi n) S4 (OQ (gE n) Yb (OQ (gF n) Yc (OQ (gG n) Yd Oc))))) follows (fE n)
def X5:Sm:=⟨[.val true [(.sl 104 k7)], .val false [(.sl 170 k2)]],[(true,[((.sl 104 k7),2)]),(false,[(.bool,0)])]⟩
def ZP:An:=⟨fun _=>none,
 fun _=>none,
 fun _=>none,
 fun _=>[]⟩
def gw (n:Nat):Mz:=⟨X5,fun x=>N.RM n x.1 x.2⟩
def aR (n:Nat):List (FuncId×Mz):=[(148,bA n)]
theorem Ye:Mw Try.prog 187:=⟨_,_,Try.func187,rfl,by kernel_rfl⟩
theorem fS (n:Nat) (x:X5.ins.D):L9 (find tbl) (plain (aR n)) ZP n Try.f187 X5 x=N.RM n x.1 x.2:=by kernel_rfl
theorem gI (n:Nat):K6 Try.prog TT 187 (gw n):=OJ (an:=ZP) (n:=n) Try.func187 rfl (by kernel_rfl) PL (OI (OQ (ZX n) WS Oc)) follows (fS n)
def Xx:Sm:=⟨[.val true [(.sl 104 k7)], .val true [I,(.sl 54 k10)], .val false [I]],[(true,[((.sl 104 k7),2)]),(true,[(I,0),((.sl 54 k10),2)]),(false,[(.bool,0)])]⟩
def ZH:An:=⟨fun _=>none,
 fun _=>none,
 fun _=>none,
 fun _=>[]⟩
def gn (n:Nat):Mz:=⟨Xx,fun x=>N.RE n x.1 x.2.1 x.2.2.1 x.2.2.2⟩
def aJ (n:Nat):List (FuncId×Mz):=[(32,gz n),(66,Ys n),(86,iJ n),(87,iK n),(186,bC n),(187,gw n)]
theorem YY:Mw Try.prog 169:=⟨_,_,Try.func169,rfl,by kernel_rfl⟩
theorem fJ (n:Nat) (x:Xx.ins.D):L9 (find tbl) (plain (aJ n)) ZH n Try.f169 Xx x=N.RE n x.1 x.2.1 x.2.2.1 x.2.2.2:=by kernel_rfl
theorem gB (n:Nat):K6 Try.prog TT 169 (gn n):=OJ (an:=ZH) (n:=n) Try.func169 rfl (by kernel_rfl) PL (OI (OQ (Yi n) VD (OQ (Vi n) S4 (OQ (ag n) V2 (OQ (ah n) V3 (OQ (ZZ n) WU (OQ (gI n) Ye Oc))))))) follows (fJ n)
def Xy:Sm:=⟨[.val true [I,(.sl 54 k10)], .val false [I]],[(true,[(I,0),((.sl 54 k10),2)]),(false,[(.bool,0)])]⟩
def ZI:An:=⟨fun _=>none,
 fun _=>none,
 fun _=>none,
 fun _=>[]⟩
def gp (n:Nat):Mz:=⟨Xy,fun x=>N.R5 n x.1 x.2.1 x.2.2⟩
def aK (n:Nat):List (FuncId×Mz):=[(86,iJ n),(87,iK n),(186,bC n)]
theorem YZ:Mw Try.prog 170:=⟨_,_,Try.func170,rfl,by kernel_rfl⟩
theorem fK (n:Nat) (x:Xy.ins.D):L9 (find tbl) (plain (aK n)) ZI n Try.f170 Xy x=N.R5 n x.1 x.2.1 x.2.2:=by kernel_rfl
theorem gC (n:Nat):K6 Try.prog TT 170 (gp n):=OJ (an:=ZI) (n:=n) Try.func170 rfl (by kernel_rfl) PL (OI (OQ (ag n) V2 (OQ (ah n) V3 (OQ (ZZ n) WU Oc)))) follows (fK n)
def Xl:Sm:=⟨[.box [((.sl 5 (.one (.int .u8))),0),(I,0),(I,0)]],[(false,[((.sl 61 k1),2)])]⟩
def Y5:An:=⟨fun _=>none,
 fun b=>match b with
  | 0=>some ([.own 3 61 k1 2 false, .slot 4 I, .box 0 [some ((.sl 5 (.one (.int .u8))),0),some (I,0),some (I,0)]],false)
  | _=>none,
 fun b=>match b with
  | 7=>some ([.own 3 61 k1 2 false, .box 0 [some ((.sl 5 (.one (.int .u8))),0),some (I,0),some (I,0)]],false)
  | _=>none,
 fun _=>[]⟩
def ay (n:Nat):Mz:=⟨Xl,fun x=>N.Q6 n x.1 x.2.1 x.2.2⟩
def Z7 (n:Nat):List (FuncId×Mz):=[(57,jv n),(79,bD n)]
theorem WO:Mw Try.prog 139:=⟨_,_,Try.func139,rfl,by kernel_rfl⟩
theorem ea (n:Nat) (x:Xl.ins.D):L9 (find tbl) (plain (Z7 n)) Y5 n Try.f139 Xl x=N.Q6 n x.1 x.2.1 x.2.2:=by kernel_rfl
theorem ZV (n:Nat):K6 Try.prog TT 139 (ay n):=OJ (an:=Y5) (n:=n) Try.func139 rfl (by kernel_rfl) PL (OI (OQ (gL n) XE (OQ (Wy n) Ts Oc))) follows (ea n)
def Xs:Sm:=⟨[.val true [I,I,(.sl 109 k2)], .val false [(.sl 61 k1)]],[(false,[((.sl 170 k2),2)]),(false,[(I,0)])]⟩
def ZC:An:=⟨fun _=>none,
 fun b=>match b with
  | 0=>some ([.own 6 170 k2 2 false, .slot 7 I, .slot 8 I],false)
  | _=>none,
 fun b=>match b with
  | 7=>some ([.own 6 170 k2 2 false, .slot 7 I],false)
  | 27=>some ([.slot 10 I],false)
  | _=>none,
 fun _=>[]⟩
def gh (n:Nat):Mz:=⟨Xs,fun x=>N.Q5 n x.1 x.2.1 x.2.2.1 x.2.2.2⟩
def aE (n:Nat):List (FuncId×Mz):=[(132,ax n)]
theorem YU:Mw Try.prog 147:=⟨_,_,Try.func147,rfl,by kernel_rfl⟩
theorem fD (n:Nat) (x:Xs.ins.D):L9 (find tbl) (plain (aE n)) ZC n Try.f147 Xs x=N.Q5 n x.1 x.2.1 x.2.2.1 x.2.2.2:=by kernel_rfl
theorem fu (n:Nat):K6 Try.prog TT 147 (gh n):=OJ (an:=ZC) (n:=n) Try.func147 rfl (by kernel_rfl) PL (OI (OQ (ZU n) WN Oc)) follows (fD n)
def bq:Sm:=⟨[.val true [(.sl 104 k7)], .val false [(.sl 61 k1)]],[(false,[((.sl 170 k2),2)]),(false,[(.bool,0)])]⟩
def dK:An:=⟨fun _=>none,
 fun b=>match b with
  | 0=>some ([.own 4 170 k2 2 false, .slot 5 .bool, .own 9 170 k2 2 false, .own 6 170 k2 2 false, .own 7 61 k1 2 false, .own 8 4 (.one .bool) 2 false],true)
  | 2=>some ([.slot 10 I, .slot 11 I],false)
  | 4=>some ([.slot 12 I, .slot 13 I, .slot 14 I],false)
  | 6=>some ([.slot 19 I, .own 7 61 k1 2 false],false)
  | 8=>some ([.slot 20 I, .own 7 61 k1 2 false],false)
  | _=>none,
 fun b=>match b with
  | 19=>some ([.slot 12 I, .slot 13 I],false)
  | 31=>some ([.own 7 61 k1 2 false],false)
  | _=>none,
 fun _=>[]⟩
def kT (n:Nat):Mz:=⟨bq,fun x=>N.P9 n x.1 x.2⟩
def eJ (n:Nat):List (FuncId×Mz):=[(32,gz n),(146,az n),(147,gh n)]
theorem Zs:Mw Try.prog 88:=⟨_,_,Try.func88,rfl,by kernel_rfl⟩
theorem jN (n:Nat) (x:bq.ins.D):L9 (find tbl) (plain (eJ n)) dK n Try.f88 bq x=N.P9 n x.1 x.2:=by kernel_rfl
theorem jo (n:Nat):K6 Try.prog TT 88 (kT n):=OJ (an:=dK) (n:=n) Try.func88 rfl (by kernel_rfl) PL (OI (OQ (Yi n) VD (OQ (ZW n) WR (OQ (fu n) YU Oc)))) follows (jN n)
def bw:Sm:=⟨[.val true [(.sl 104 k7)], .val false [(.sl 170 k2)]],[(true,[((.sl 104 k7),2)]),(false,[(.bool,0)])]⟩
def dL:An:=⟨fun _=>none,
 fun _=>none,
 fun _=>none,
 fun _=>[]⟩
def kU (n:Nat):Mz:=⟨bw,fun x=>N.Q2 n x.1 x.2⟩
def eK (n:Nat):List (FuncId×Mz):=[(148,bA n)]
theorem Zt:Mw Try.prog 89:=⟨_,_,Try.func89,rfl,by kernel_rfl⟩
theorem jO (n:Nat) (x:bw.ins.D):L9 (find tbl) (plain (eK n)) dL n Try.f89 bw x=N.Q2 n x.1 x.2:=by kernel_rfl
theorem jq (n:Nat):K6 Try.prog TT 89 (kU n):=OJ (an:=dL) (n:=n) Try.func89 rfl (by kernel_rfl) PL (OI (OQ (ZX n) WS Oc)) follows (jO n)
def bH:Sm:=⟨[.val true [(.sl 104 k7)], .val true [I,(.sl 54 k10)], .val false [I], .val false [(.sl 61 k1)]],[(true,[((.sl 104 k7),2)]),(true,[(I,0),((.sl 54 k10),2)]),(false,[(I,0)])]⟩
def cV:An:=⟨fun _=>none,
 fun _=>none,
 fun _=>none,
 fun _=>[]⟩
def ju (n:Nat):Mz:=⟨bH,fun x=>N.QH n x.1 x.2.1 x.2.2.1 x.2.2.2.1 x.2.2.2.2⟩
def dY (n:Nat):List (FuncId×Mz):=[(32,gz n),(66,Ys n),(67,Zc n),(86,iJ n),(87,iK n),(88,kT n),(89,kU n)]
theorem XD:Mw Try.prog 18:=⟨_,_,Try.func18,rfl,by kernel_rfl⟩
theorem ib (n:Nat) (x:bH.ins.D):L9 (find tbl) (plain (dY n)) cV n Try.f18 bH x=N.QH n x.1 x.2.1 x.2.2.1 x.2.2.2.1 x.2.2.2.2:=by kernel_rfl
theorem gH (n:Nat):K6 Try.prog TT 18 (ju n):=OJ (an:=cV) (n:=n) Try.func18 rfl (by kernel_rfl) PL (OI (OQ (Yi n) VD (OQ (Vi n) S4 (OQ (WE n) TW (OQ (ag n) V2 (OQ (ah n) V3 (OQ (jo n) Zs (OQ (jq n) Zt Oc)))))))) follows (ib n)
def Xk:Sm:=⟨[.box [((.sl 5 (.one (.int .u8))),0),(I,0),(I,0)], .val false [I]],[(true,[((.sl 104 k7),2)]),(true,[(I,0),((.sl 54 k10),2)])]⟩
def Y4:An:=⟨fun _=>none,
 fun b=>match b with
  | 0=>some ([.slot 8 I, .box 0 [some ((.sl 5 (.one (.int .u8))),0),some (I,0),some (I,0)], .box 6 [some ((.sl 104 k7),2)], .box 7 [some (I,0),some ((.sl 54 k10),2)]],false)
  | _=>none,
 fun b=>match b with
  | 7=>some ([.box 0 [some ((.sl 5 (.one (.int .u8))),0),some (I,0),some (I,0)], .box 6 [some ((.sl 104 k7),2)], .box 7 [some (I,0),some ((.sl 54 k10),2)]],false)
  | _=>none,
 fun _=>[]⟩
def gW (n:Nat):Mz:=⟨Xk,fun x=>N.Ro n x.1 x.2.1 x.2.2.1 x.2.2.2⟩
def Z6 (n:Nat):List (FuncId×Mz):=[(18,ju n),(127,Vo n),(128,gU n),(139,ay n),(169,gn n),(170,gp n)]
theorem YO:Mw Try.prog 138:=⟨_,_,Try.func138,rfl,by kernel_rfl⟩
theorem eZ (n:Nat) (x:Xk.ins.D):L9 (find tbl) (plain (Z6 n)) Y4 n Try.f138 Xk x=N.Ro n x.1 x.2.1 x.2.2.1 x.2.2.2:=by kernel_rfl
theorem fi (n:Nat):K6 Try.prog TT 138 (gW n):=OJ (an:=Y4) (n:=n) Try.func138 rfl (by kernel_rfl) PL (OI (OQ (gH n) XD (OQ (Uc n) Sh (OQ (fe n) YM (OQ (ZV n) WO (OQ (gB n) YY (OQ (gC n) YZ Oc))))))) follows (eZ n)
def Xi:Sm:=⟨[.box [((.sl 5 (.one (.int .u8))),0),(I,0),(I,0)], .val true [(.sl 104 k7)]],[(true,[((.sl 104 k7),0)])]⟩
def Y2:An:=⟨fun _=>none,
 fun _=>none,
 fun b=>match b with
  | 18=>some ([.box 0 [some ((.sl 5 (.one (.int .u8))),0),some (I,0),some (I,0)], .box 5 [some ((.sl 104 k7),0)]],false)
  | _=>none,
 fun _=>[]⟩
def gV (n:Nat):Mz:=⟨Xi,fun x=>N.R7 n x.1 x.2.1 x.2.2.1 x.2.2.2⟩
def Z4 (n:Nat):List (FuncId×Mz):=[(66,Ys n),(79,bD n),(127,Vo n)]
theorem YN:Mw Try.prog 129:=⟨_,_,Try.func129,rfl,by kernel_rfl⟩
theorem eX (n:Nat) (x:Xi.ins.D):L9 (find tbl) (plain (Z4 n)) Y2 n Try.f129 Xi x=N.R7 n x.1 x.2.1 x.2.2.1 x.2.2.2:=by kernel_rfl
theorem fg (n:Nat):K6 Try.prog TT 129 (gV n):=OJ (an:=Y2) (n:=n) Try.func129 rfl (by kernel_rfl) PL (OI (OQ (Vi n) S4 (OQ (Wy n) Ts (OQ (Uc n) Sh Oc)))) follows (eX n)
def bV:Sm:=⟨[.box [((.sl 5 (.one (.int .u8))),0),(I,0),(I,0)], .val false [I]],[(true,[((.sl 104 k7),0)]),(true,[(I,0),((.sl 54 k10),0)])]⟩
def cz:An:=⟨fun _=>none,
 fun _=>none,
 fun b=>match b with
  | 9=>some ([.box 0 [some ((.sl 5 (.one (.int .u8))),0),some (I,0),some (I,0)], .box 6 [some ((.sl 104 k7),0)], .box 7 [some (I,0),some ((.sl 54 k10),0)]],false)
  | _=>none,
 fun _=>[]⟩
def kP (n:Nat):Mz:=⟨bV,fun x=>N.Qe n x.1 x.2.1 x.2.2.1 x.2.2.2⟩
def dy (n:Nat):List (FuncId×Mz):=[(79,bD n),(127,Vo n),(129,gV n),(138,gW n)]
theorem Zo:Mw Try.prog 77:=⟨_,_,Try.func77,rfl,by kernel_rfl⟩
theorem jC (n:Nat) (x:bV.ins.D):L9 (find tbl) (plain (dy n)) cz n Try.f77 bV x=N.Qe n x.1 x.2.1 x.2.2.1 x.2.2.2:=by kernel_rfl
theorem jk (n:Nat):K6 Try.prog TT 77 (kP n):=OJ (an:=cz) (n:=n) Try.func77 rfl (by kernel_rfl) PL (OI (OQ (Wy n) Ts (OQ (Uc n) Sh (OQ (fg n) YN (OQ (fi n) YO Oc))))) follows (jC n)
def bY:Sm:=⟨[.box [((.sl 5 (.one (.int .u8))),0),(I,0),(I,0)]],[(false,[((.sl 61 k1),2)])]⟩
def dC:An:=⟨fun _=>none,
 fun _=>none,
 fun b=>match b with
  | 9=>some ([.own 3 61 k1 2 false, .box 0 [some ((.sl 5 (.one (.int .u8))),0),some (I,0),some (I,0)]],false)
  | _=>none,
 fun _=>[]⟩
def kR (n:Nat):Mz:=⟨bY,fun x=>N.Qg n x.1 x.2.1 x.2.2⟩
def eB (n:Nat):List (FuncId×Mz):=[(79,bD n),(127,Vo n),(139,ay n)]
theorem Zq:Mw Try.prog 80:=⟨_,_,Try.func80,rfl,by kernel_rfl⟩
theorem jF (n:Nat) (x:bY.ins.D):L9 (find tbl) (plain (eB n)) dC n Try.f80 bY x=N.Qg n x.1 x.2.1 x.2.2:=by kernel_rfl
theorem jm (n:Nat):K6 Try.prog TT 80 (kR n):=OJ (an:=dC) (n:=n) Try.func80 rfl (by kernel_rfl) PL (OI (OQ (Wy n) Ts (OQ (Uc n) Sh (OQ (ZV n) WO Oc)))) follows (jF n)
def bF:Sm:=⟨[.val false [(.sl 5 (.one (.int .u8)))]],[(true,[((.sl 104 k7),0)]),(true,[(I,0),((.sl 54 k10),0)]),(false,[(I,0)]),(false,[((.sl 61 k1),2)])]⟩
def cT:An:=⟨fun _=>none,
 fun _=>none,
 fun _=>none,
 fun _=>[]⟩
def kI (n:Nat):Mz:=⟨bF,fun x=>N.Qd n x⟩
def dW (n:Nat):List (FuncId×Mz):=[(53,kO n),(77,kP n),(78,kQ n),(79,bD n),(80,kR n)]
theorem Zh:Mw Try.prog 16:=⟨_,_,Try.func16,rfl,by kernel_rfl⟩
theorem iZ (n:Nat) (x:bF.ins.D):L9 (find tbl) (plain (dW n)) cT n Try.f16 bF x=N.Qd n x:=by kernel_rfl
theorem jc (n:Nat):K6 Try.prog TT 16 (kI n):=OJ (an:=cT) (n:=n) Try.func16 rfl (by kernel_rfl) PL (OI (OQ (ji n) Zn (OQ (jk n) Zo (OQ (jl n) Zp (OQ (Wy n) Ts (OQ (jm n) Zq Oc)))))) follows (iZ n)
def bU:Sm:=⟨[.val false [I], .val false [I], .val false [I]],[(false,[(.bool,0)])]⟩
def cy:An:=⟨fun _=>none,
 fun _=>none,
 fun _=>none,
 fun _=>[]⟩
def Yt (n:Nat):Mz:=⟨bU,fun x=>N.Pr x.1 x.2.1 x.2.2⟩
def dx (n:Nat):List (FuncId×Mz):=[]
theorem S6:Mw Try.prog 71:=⟨_,_,Try.func71,rfl,by kernel_rfl⟩
theorem jB (n:Nat) (x:bU.ins.D):L9 (find tbl) (plain (dx n)) cy n Try.f71 bU x=N.Pr x.1 x.2.1 x.2.2:=by kernel_rfl
theorem Vj (n:Nat):K6 Try.prog TT 71 (Yt n):=OJ (an:=cy) (n:=n) Try.func71 rfl (by kernel_rfl) PL (OI Oc) follows (jB n)
def cE:Sm:=⟨[.val true [I,I,(.sl 109 k2)]],[(false,[(.bool,0)])]⟩
def dP:An:=⟨fun _=>none,
 fun b=>match b with
  | 0=>some ([.slot 24 I],true)
  | _=>none,
 fun _=>none,
 fun _=>[]⟩
def kW (n:Nat):Mz:=⟨cE,fun x=>N.SO n x.1 x.2.1 x.2.2⟩
def eO (n:Nat):List (FuncId×Mz):=[(71,Yt n)]
theorem Zv:Mw Try.prog 93:=⟨_,_,Try.func93,rfl,by kernel_rfl⟩
theorem jS (n:Nat) (x:cE.ins.D):L9 (find tbl) (plain (eO n)) dP n Try.f93 cE x=N.SO n x.1 x.2.1 x.2.2:=by kernel_rfl
theorem js (n:Nat):K6 Try.prog TT 93 (kW n):=OJ (an:=dP) (n:=n) Try.func93 rfl (by kernel_rfl) PL (OI (OQ (Vj n) S6 Oc)) follows (jS n)
def bK:Sm:=⟨[.val true [(.sl 104 k7)]],[(false,[(.bool,0)])]⟩
def cY:An:=⟨fun _=>none,
 fun b=>match b with
  | 0=>some ([.slot 10 I],true)
  | 2=>some ([.slot 39 I],true)
  | _=>none,
 fun _=>none,
 fun _=>[]⟩
def cO (n:Nat):Mz:=⟨bK,fun x=>N.P1 n x⟩
def db (n:Nat):List (FuncId×Mz):=[(93,kW n)]
theorem UP:Mw Try.prog 21:=⟨_,_,Try.func21,rfl,by kernel_rfl⟩
theorem ij (n:Nat) (x:bK.ins.D):L9 (find tbl) (plain (db n)) cY n Try.f21 bK x=N.P1 n x:=by kernel_rfl
theorem XS (n:Nat):K6 Try.prog TT 21 (cO n):=OJ (an:=cY) (n:=n) Try.func21 rfl (by kernel_rfl) PL (OI (OQ (js n) Zv Oc)) follows (ij n)
def bZ:Sm:=⟨[.val false [(.sl 61 k1)]],[(false,[(.bool,0)])]⟩
def dD:An:=⟨fun _=>none,
 fun b=>match b with
  | 0=>some ([.slot 7 I],true)
  | _=>none,
 fun _=>none,
 fun _=>[]⟩
def iH (n:Nat):Mz:=⟨bZ,fun x=>N.QE n x⟩
def eC (n:Nat):List (FuncId×Mz):=[(71,Yt n)]
theorem V0:Mw Try.prog 81:=⟨_,_,Try.func81,rfl,by kernel_rfl⟩
theorem jG (n:Nat) (x:bZ.ins.D):L9 (find tbl) (plain (eC n)) dD n Try.f81 bZ x=N.QE n x:=by kernel_rfl
theorem ae (n:Nat):K6 Try.prog TT 81 (iH n):=OJ (an:=dD) (n:=n) Try.func81 rfl (by kernel_rfl) PL (OI (OQ (Vj n) S6 Oc)) follows (jG n)
def bg:Sm:=⟨[.val false [(.sl 61 k1)]],[(false,[((.sl 61 k1),2)])]⟩
def dH:An:=⟨fun _=>none,
 fun _=>none,
 fun _=>none,
 fun _=>[]⟩
def hX (n:Nat):Mz:=⟨bg,fun x=>N.Pj x⟩
def eG (n:Nat):List (FuncId×Mz):=[]
theorem VE:Mw Try.prog 85:=⟨_,_,Try.func85,rfl,by kernel_rfl⟩
theorem jK (n:Nat) (x:bg.ins.D):L9 (find tbl) (plain (eG n)) dH n Try.f85 bg x=N.Pj x:=by kernel_rfl
theorem Yj (n:Nat):K6 Try.prog TT 85 (hX n):=OJ (an:=dH) (n:=n) Try.func85 rfl (by kernel_rfl) PL (OI Oc) follows (jK n)
def cD:Sm:=⟨[.val false [(.sl 170 k2)], .val false [(.sl 61 k1)]],[(false,[(.bool,0)])]⟩
def dO:An:=⟨fun _=>none,
 fun b=>match b with
  | 0=>some ([.slot 16 I, .own 5 61 k1 2 false],true)
  | 2=>some ([.slot 8 .bool, .slot 22 I, .own 5 61 k1 2 false],false)
  | 4=>some ([.slot 59 I],true)
  | _=>none,
 fun _=>none,
 fun _=>[]⟩
def kV (n:Nat):Mz:=⟨cD,fun x=>N.Q0 n x.1 x.2⟩
def eN (n:Nat):List (FuncId×Mz):=[(71,Yt n),(85,hX n)]
theorem Zu:Mw Try.prog 92:=⟨_,_,Try.func92,rfl,by kernel_rfl⟩
theorem jR (n:Nat) (x:cD.ins.D):L9 (find tbl) (plain (eN n)) dO n Try.f92 cD x=N.Q0 n x.1 x.2:=by kernel_rfl
theorem jr (n:Nat):K6 Try.prog TT 92 (kV n):=OJ (an:=dO) (n:=n) Try.func92 rfl (by kernel_rfl) PL (OI (OQ (Vj n) S6 (OQ (Yj n) VE Oc))) follows (jR n)
def bJ:Sm:=⟨[.val true [I,(.sl 54 k10)]],[(false,[(.bool,0)])]⟩
def cX:An:=⟨fun _=>none,
 fun b=>match b with
  | 0=>some ([.slot 18 I],true)
  | _=>none,
 fun _=>none,
 fun _=>[]⟩
def iG (n:Nat):Mz:=⟨bJ,fun x=>N.Px n x.1 x.2⟩
def da (n:Nat):List (FuncId×Mz):=[(71,Yt n),(81,iH n),(92,kV n)]
theorem Vz:Mw Try.prog 20:=⟨_,_,Try.func20,rfl,by kernel_rfl⟩
theorem ig (n:Nat) (x:bJ.ins.D):L9 (find tbl) (plain (da n)) cX n Try.f20 bJ x=N.Px n x.1 x.2:=by kernel_rfl
theorem ab (n:Nat):K6 Try.prog TT 20 (iG n):=OJ (an:=cX) (n:=n) Try.func20 rfl (by kernel_rfl) PL (OI (OQ (Vj n) S6 (OQ (ae n) V0 (OQ (jr n) Zu Oc)))) follows (ig n)
def bR:Sm:=⟨[.val true [(.sl 104 k7)]],[(true,[((.sl 104 k7),2)])]⟩
def cq:An:=⟨fun _=>none,
 fun b=>match b with
  | 0=>some ([.slot 9 I, .box 3 [some ((.sl 104 k7),2)]],false)
  | _=>none,
 fun _=>none,
 fun _=>[]⟩
def Zb (n:Nat):Mz:=⟨bR,fun x=>N.PR n x⟩
def dq (n:Nat):List (FuncId×Mz):=[]
theorem TV:Mw Try.prog 63:=⟨_,_,Try.func63,rfl,by kernel_rfl⟩
theorem iy (n:Nat) (x:bR.ins.D):L9 (find tbl) (plain (dq n)) cq n Try.f63 bR x=N.PR n x:=by kernel_rfl
theorem WD (n:Nat):K6 Try.prog TT 63 (Zb n):=OJ (an:=cq) (n:=n) Try.func63 rfl (by kernel_rfl) PL (OI Oc) follows (iy n)
def Xu:Sm:=⟨[.val false [(.sl 170 k2)]],[(false,[((.sl 170 k2),2)])]⟩
def ZE:An:=⟨fun _=>none,
 fun _=>none,
 fun _=>none,
 fun _=>[]⟩
def gk (n:Nat):Mz:=⟨Xu,fun x=>N.Rj x⟩
def aG (n:Nat):List (FuncId×Mz):=[]
theorem YV:Mw Try.prog 149:=⟨_,_,Try.func149,rfl,by kernel_rfl⟩
theorem fF (n:Nat) (x:Xu.ins.D):L9 (find tbl) (plain (aG n)) ZE n Try.f149 Xu x=N.Rj x:=by kernel_rfl
theorem fx (n:Nat):K6 Try.prog TT 149 (gk n):=OJ (an:=ZE) (n:=n) Try.func149 rfl (by kernel_rfl) PL (OI Oc) follows (fF n)
def cB:Sm:=⟨[.val true [I,I,(.sl 61 k1),(.sl 170 k2),I]],[(true,[(I,0),(I,0),((.sl 61 k1),2),((.sl 170 k2),2),(I,0)])]⟩
def dN:An:=⟨fun _=>none,
 fun _=>none,
 fun _=>none,
 fun _=>[]⟩
def jx (n:Nat):Mz:=⟨cB,fun x=>N.QP x.1 x.2.1 x.2.2.1 x.2.2.2.1 x.2.2.2.2⟩
def eM (n:Nat):List (FuncId×Mz):=[(85,hX n),(149,gk n)]
theorem XG:Mw Try.prog 91:=⟨_,_,Try.func91,rfl,by kernel_rfl⟩
theorem jQ (n:Nat) (x:cB.ins.D):L9 (find tbl) (plain (eM n)) dN n Try.f91 cB x=N.QP x.1 x.2.1 x.2.2.1 x.2.2.2.1 x.2.2.2.2:=by kernel_rfl
theorem gN (n:Nat):K6 Try.prog TT 91 (jx n):=OJ (an:=dN) (n:=n) Try.func91 rfl (by kernel_rfl) PL (OI (OQ (Yj n) VE (OQ (fx n) YV Oc))) follows (jQ n)
def ba:Sm:=⟨[.val true [I,(.sl 54 k10)]],[(true,[(I,0),((.sl 54 k10),2)])]⟩
def dE:An:=⟨fun _=>none,
 fun b=>match b with
  | 0=>some ([.slot 12 I, .box 3 [some (I,0),some ((.sl 54 k10),2)]],false)
  | _=>none,
 fun _=>none,
 fun _=>[]⟩
def iI (n:Nat):Mz:=⟨ba,fun x=>N.Pt n x.1 x.2⟩
def eD (n:Nat):List (FuncId×Mz):=[(91,jx n)]
theorem V1:Mw Try.prog 82:=⟨_,_,Try.func82,rfl,by kernel_rfl⟩
theorem jH (n:Nat) (x:ba.ins.D):L9 (find tbl) (plain (eD n)) dE n Try.f82 ba x=N.Pt n x.1 x.2:=by kernel_rfl
theorem af (n:Nat):K6 Try.prog TT 82 (iI n):=OJ (an:=dE) (n:=n) Try.func82 rfl (by kernel_rfl) PL (OI (OQ (gN n) XG Oc)) follows (jH n)
def cF:Sm:=⟨[.val true [I,I,(.sl 109 k2)], .val false [I]],[(false,[(I,0)]),(false,[(.bool,0)])]⟩
def dQ:An:=⟨fun b=>match b with
  | 4=>some [.slot 4 I, .slot 5 .bool]
  | _=>none,
 fun b=>match b with
  | 0=>some ([.slot 6 I],false)
  | _=>none,
 fun _=>none,
 fun _=>[]⟩
def iM (n:Nat):Mz:=⟨cF,fun x=>N.QV n x.1 x.2.1 x.2.2.1 x.2.2.2⟩
def eP (n:Nat):List (FuncId×Mz):=[]
theorem V5:Mw Try.prog 94:=⟨_,_,Try.func94,rfl,by kernel_rfl⟩
theorem jT (n:Nat) (x:cF.ins.D):L9 (find tbl) (plain (eP n)) dQ n Try.f94 cF x=N.QV n x.1 x.2.1 x.2.2.1 x.2.2.2:=by kernel_rfl
theorem aj (n:Nat):K6 Try.prog TT 94 (iM n):=OJ (an:=dQ) (n:=n) Try.func94 rfl (by kernel_rfl) PL (OI Oc) follows (jT n)
def Xm:Sm:=⟨[.val true [I,I,(.sl 109 k2)], .val false [(.sl 61 k1)]],[(false,[((.sl 170 k2),2)]),(false,[(I,0)])]⟩
def Y6:An:=⟨fun _=>none,
 fun b=>match b with
  | 0=>some ([.own 6 170 k2 2 false, .slot 7 I, .slot 15 I],false)
  | _=>none,
 fun b=>match b with
  | 7=>some ([.own 6 170 k2 2 false, .slot 7 I],false)
  | _=>none,
 fun _=>[]⟩
def gX (n:Nat):Mz:=⟨Xm,fun x=>N.SL n x.1 x.2.1 x.2.2.1 x.2.2.2⟩
def Z8 (n:Nat):List (FuncId×Mz):=[(94,iM n)]
theorem YP:Mw Try.prog 140:=⟨_,_,Try.func140,rfl,by kernel_rfl⟩
theorem ed (n:Nat) (x:Xm.ins.D):L9 (find tbl) (plain (Z8 n)) Y6 n Try.f140 Xm x=N.SL n x.1 x.2.1 x.2.2.1 x.2.2.2:=by kernel_rfl
theorem fj (n:Nat):K6 Try.prog TT 140 (gX n):=OJ (an:=Y6) (n:=n) Try.func140 rfl (by kernel_rfl) PL (OI (OQ (aj n) V5 Oc)) follows (ed n)
def Xd:Sm:=⟨[.val true [(.sl 104 k7)], .val false [I]],[(false,[(I,0)])]⟩
def Yx:An:=⟨fun _=>none,
 fun b=>match b with
  | 0=>some ([.slot 10 I],true)
  | _=>none,
 fun _=>none,
 fun _=>[]⟩
def gQ (n:Nat):Mz:=⟨Xd,fun x=>N.Sp n x.1 x.2⟩
def Zz (n:Nat):List (FuncId×Mz):=[]
theorem YJ:Mw Try.prog 104:=⟨_,_,Try.func104,rfl,by kernel_rfl⟩
theorem eS (n:Nat) (x:Xd.ins.D):L9 (find tbl) (plain (Zz n)) Yx n Try.f104 Xd x=N.Sp n x.1 x.2:=by kernel_rfl
theorem fX (n:Nat):K6 Try.prog TT 104 (gQ n):=OJ (an:=Yx) (n:=n) Try.func104 rfl (by kernel_rfl) PL (OI Oc) follows (eS n)
def X6:Sm:=⟨[.val true [(.sl 104 k7)], .val false [I], .val false [I], .val false [I]],[(false,[(I,0)]),(false,[(I,0)])]⟩
def ZQ:An:=⟨fun _=>none,
 fun _=>none,
 fun _=>none,
 fun _=>[]⟩
def gx (n:Nat):Mz:=⟨X6,fun x=>N.SN n x.1 x.2.1 x.2.2.1 x.2.2.2⟩
def aS (n:Nat):List (FuncId×Mz):=[(21,cO n),(71,Yt n),(104,gQ n)]
theorem Yf:Mw Try.prog 188:=⟨_,_,Try.func188,rfl,by kernel_rfl⟩
theorem fT (n:Nat) (x:X6.ins.D):L9 (find tbl) (plain (aS n)) ZQ n Try.f188 X6 x=N.SN n x.1 x.2.1 x.2.2.1 x.2.2.2:=by kernel_rfl
theorem gJ (n:Nat):K6 Try.prog TT 188 (gx n):=OJ (an:=ZQ) (n:=n) Try.func188 rfl (by kernel_rfl) PL (OI (OQ (XS n) UP (OQ (Vj n) S6 (OQ (fX n) YJ Oc)))) follows (fT n)
def Xz:Sm:=⟨[.val true [(.sl 104 k7)], .val false [I], .val false [I], .val false [I], .val false [I]],[(true,[((.sl 104 k7),2)]),(false,[(I,0)])]⟩
def ZJ:An:=⟨fun _=>none,
 fun _=>none,
 fun _=>none,
 fun _=>[]⟩
def bB (n:Nat):Mz:=⟨Xz,fun x=>N.RX n x.1 x.2.1 x.2.2.1 x.2.2.2.1 x.2.2.2.2⟩
def aL (n:Nat):List (FuncId×Mz):=[(63,Zb n),(71,Yt n),(94,iM n),(188,gx n)]
theorem WT:Mw Try.prog 171:=⟨_,_,Try.func171,rfl,by kernel_rfl⟩
theorem fL (n:Nat) (x:Xz.ins.D):L9 (find tbl) (plain (aL n)) ZJ n Try.f171 Xz x=N.RX n x.1 x.2.1 x.2.2.1 x.2.2.2.1 x.2.2.2.2:=by kernel_rfl
theorem ZY (n:Nat):K6 Try.prog TT 171 (bB n):=OJ (an:=ZJ) (n:=n) Try.func171 rfl (by kernel_rfl) PL (OI (OQ (WD n) TV (OQ (Vj n) S6 (OQ (aj n) V5 (OQ (gJ n) Yf Oc))))) follows (fL n)
def Xo:Sm:=⟨[.val true [(.sl 104 k7)], .val false [I], .val false [I], .val false [I]],[(true,[((.sl 104 k7),2)]),(false,[(I,0)])]⟩
def Y8:An:=⟨fun _=>none,
 fun _=>none,
 fun _=>none,
 fun _=>[]⟩
def gZ (n:Nat):Mz:=⟨Xo,fun x=>N.Sa n x.1 x.2.1 x.2.2.1 x.2.2.2⟩
def aA (n:Nat):List (FuncId×Mz):=[(171,bB n)]
theorem YR:Mw Try.prog 143:=⟨_,_,Try.func143,rfl,by kernel_rfl⟩
theorem ek (n:Nat) (x:Xo.ins.D):L9 (find tbl) (plain (aA n)) Y8 n Try.f143 Xo x=N.Sa n x.1 x.2.1 x.2.2.1 x.2.2.2:=by kernel_rfl
theorem fm (n:Nat):K6 Try.prog TT 143 (gZ n):=OJ (an:=Y8) (n:=n) Try.func143 rfl (by kernel_rfl) PL (OI (OQ (ZY n) WT Oc)) follows (ek n)
def T6:Sm:=⟨[.val true [(.sl 104 k7)], .val false [(.sl 170 k2)], .fn 143],[(true,[((.sl 104 k7),2)]),(false,[(.bool,0)])]⟩
def Uw:An:=⟨fun _=>none,
 fun b=>match b with
  | 0=>some ([.slot 17 I, .box 6 [some ((.sl 104 k7),2)], .box 8 [some ((.sl 104 k7),2)]],true)
  | _=>none,
 fun _=>none,
 fun _=>[]⟩
def Vp (n:Nat):Mz:=⟨T6,fun x=>N.Rk n x.1 x.2⟩
def V6 (n:Nat):List (FuncId×Mz):=[(63,Zb n),(143,gZ n)]
theorem WQ:Mw Try.prog 142:=⟨_,_,Try.func142,rfl,by kernel_rfl⟩
theorem Wh (n:Nat) (x:T6.ins.D):L9 (find tbl) (plain (V6 n)) Uw n Try.f142 T6 x=N.Rk n x.1 x.2:=by kernel_rfl
theorem Ww (n:Nat):K6 Try.prog TT 142 (Vp n):=OJ (an:=Uw) (n:=n) Try.func142 rfl (by kernel_rfl) PL (OI (OQ (WD n) TV (OQ (fm n) YR Oc))) follows (Wh n)
def bf:Sm:=⟨[.val true [(.sl 104 k7)], .val false [(.sl 170 k2)]],[(true,[((.sl 104 k7),2)]),(false,[(.bool,0)])]⟩
def dG:An:=⟨fun _=>none,
 fun _=>none,
 fun _=>none,
 fun _=>[]⟩
def jw (n:Nat):Mz:=⟨bf,fun x=>N.Qx n x.1 x.2⟩
def eF (n:Nat):List (FuncId×Mz):=[(142,Vp n)]
theorem XF:Mw Try.prog 84:=⟨_,_,Try.func84,rfl,by kernel_rfl⟩
theorem jJ (n:Nat) (x:bf.ins.D):L9 (find tbl) (plain (eF n)) dG n Try.f84 bf x=N.Qx n x.1 x.2:=by kernel_rfl
theorem gM (n:Nat):K6 Try.prog TT 84 (jw n):=OJ (an:=dG) (n:=n) Try.func84 rfl (by kernel_rfl) PL (OI (OQ (Ww n) WQ Oc)) follows (jJ n)
def Xn:Sm:=⟨[.val false [(.sl 61 k1)], .val false [(.sl 170 k2)]],[(false,[((.sl 61 k1),2)])]⟩
def Y7:An:=⟨fun _=>none,
 fun b=>match b with
  | 0=>some ([.own 5 61 k1 2 false, .slot 12 I],false)
  | 2=>some ([.slot 18 I, .box 7 [some (I,0),some (I,0)]],false)
  | _=>none,
 fun b=>match b with
  | 7=>some ([.own 5 61 k1 2 false],false)
  | 13=>some ([.box 7 [some (I,0),some (I,0)]],false)
  | _=>none,
 fun _=>[]⟩
def gY (n:Nat):Mz:=⟨Xn,fun x=>N.Sd n x.1 x.2⟩
def Z9 (n:Nat):List (FuncId×Mz):=[]
theorem YQ:Mw Try.prog 141:=⟨_,_,Try.func141,rfl,by kernel_rfl⟩
theorem eh (n:Nat) (x:Xn.ins.D):L9 (find tbl) (plain (Z9 n)) Y7 n Try.f141 Xn x=N.Sd n x.1 x.2:=by kernel_rfl
theorem fk (n:Nat):K6 Try.prog TT 141 (gY n):=OJ (an:=Y7) (n:=n) Try.func141 rfl (by kernel_rfl) PL (OI Oc) follows (eh n)
def bc:Sm:=⟨[.val true [(.sl 104 k7)], .val false [(.sl 61 k1)]],[(false,[((.sl 170 k2),2)]),(false,[(.bool,0)])]⟩
def dF:An:=⟨fun _=>none,
 fun b=>match b with
  | 0=>some ([.own 6 170 k2 2 false, .own 8 61 k1 2 false, .box 7 [some ((.sl 104 k7),2)]],true)
  | 2=>some ([.own 9 170 k2 2 false, .slot 10 I, .slot 33 I],false)
  | _=>none,
 fun b=>match b with
  | 13=>some ([.own 9 170 k2 2 false, .slot 10 I],false)
  | _=>none,
 fun b=>match b with
  | 9=>[7]
  | _=>[]⟩
def kS (n:Nat):Mz:=⟨bc,fun x=>N.QU n x.1 x.2⟩
def eE (n:Nat):List (FuncId×Mz):=[(21,cO n),(63,Zb n),(81,iH n),(84,jw n),(85,hX n),(140,gX n),(141,gY n)]
theorem Zr:Mw Try.prog 83:=⟨_,_,Try.func83,rfl,by kernel_rfl⟩
theorem jI (n:Nat) (x:bc.ins.D):L9 (find tbl) (plain (eE n)) dF n Try.f83 bc x=N.QU n x.1 x.2:=by kernel_rfl
theorem jn (n:Nat):K6 Try.prog TT 83 (kS n):=OJ (an:=dF) (n:=n) Try.func83 rfl (by kernel_rfl) PL (OI (OQ (XS n) UP (OQ (WD n) TV (OQ (ae n) V0 (OQ (gM n) XF (OQ (Yj n) VE (OQ (fj n) YP (OQ (fk n) YQ Oc)))))))) follows (jI n)
def bG:Sm:=⟨[.val true [(.sl 104 k7)], .val true [I,(.sl 54 k10)], .val false [I], .val false [(.sl 61 k1)]],[(true,[((.sl 104 k7),2)]),(true,[(I,0),((.sl 54 k10),2)]),(false,[(I,0)])]⟩
def cU:An:=⟨fun _=>none,
 fun _=>none,
 fun _=>none,
 fun _=>[]⟩
def kJ (n:Nat):Mz:=⟨bG,fun x=>N.RW n x.1 x.2.1 x.2.2.1 x.2.2.2.1 x.2.2.2.2⟩
def dX (n:Nat):List (FuncId×Mz):=[(20,iG n),(21,cO n),(63,Zb n),(71,Yt n),(81,iH n),(82,iI n),(83,kS n),(84,jw n),(85,hX n)]
theorem Zi:Mw Try.prog 17:=⟨_,_,Try.func17,rfl,by kernel_rfl⟩
theorem ia (n:Nat) (x:bG.ins.D):L9 (find tbl) (plain (dX n)) cU n Try.f17 bG x=N.RW n x.1 x.2.1 x.2.2.1 x.2.2.2.1 x.2.2.2.2:=by kernel_rfl
theorem jd (n:Nat):K6 Try.prog TT 17 (kJ n):=OJ (an:=cU) (n:=n) Try.func17 rfl (by kernel_rfl) PL (OI (OQ (ab n) Vz (OQ (XS n) UP (OQ (WD n) TV (OQ (Vj n) S6 (OQ (ae n) V0 (OQ (af n) V1 (OQ (jn n) Zr (OQ (gM n) XF (OQ (Yj n) VE Oc)))))))))) follows (ia n)
def bE:Sm:=⟨[.val true [(.sl 104 k7)], .val true [(.sl 104 k7)]],[(false,[(.bool,0)])]⟩
def cS:An:=⟨fun _=>none,
 fun b=>match b with
  | 0=>some ([.slot 5 I],true)
  | 2=>some ([.slot 8 I],true)
  | _=>none,
 fun _=>none,
 fun _=>[]⟩
def kH (n:Nat):Mz:=⟨bE,fun x=>N.QQ n x.1 x.2⟩
def dV (n:Nat):List (FuncId×Mz):=[]
theorem Zg:Mw Try.prog 15:=⟨_,_,Try.func15,rfl,by kernel_rfl⟩
theorem iY (n:Nat) (x:bE.ins.D):L9 (find tbl) (plain (dV n)) cS n Try.f15 bE x=N.QQ n x.1 x.2:=by kernel_rfl
theorem jb (n:Nat):K6 Try.prog TT 15 (kH n):=OJ (an:=cS) (n:=n) Try.func15 rfl (by kernel_rfl) PL (OI Oc) follows (iY n)
def cA:Sm:=⟨[.val true [I,(.sl 54 k10)], .val false [I]],[(false,[(I,0)])]⟩
def dM:An:=⟨fun _=>none,
 fun b=>match b with
  | 0=>some ([.slot 10 I],true)
  | _=>none,
 fun _=>none,
 fun _=>[]⟩
def iL (n:Nat):Mz:=⟨cA,fun x=>N.Pv n x.1 x.2.1 x.2.2⟩
def eL (n:Nat):List (FuncId×Mz):=[]
theorem V4:Mw Try.prog 90:=⟨_,_,Try.func90,rfl,by kernel_rfl⟩
theorem jP (n:Nat) (x:cA.ins.D):L9 (find tbl) (plain (eL n)) dM n Try.f90 cA x=N.Pv n x.1 x.2.1 x.2.2:=by kernel_rfl
theorem ai (n:Nat):K6 Try.prog TT 90 (iL n):=OJ (an:=dM) (n:=n) Try.func90 rfl (by kernel_rfl) PL (OI Oc) follows (jP n)
def bI:Sm:=⟨[.val true [I,(.sl 54 k10)], .val false [I]],[(true,[(I,0),(I,0),((.sl 61 k1),2),((.sl 170 k2),2),(I,0)]),(false,[(.bool,0)])]⟩
def cW:An:=⟨fun _=>none,
 fun _=>none,
 fun _=>none,
 fun _=>[]⟩
def kK (n:Nat):Mz:=⟨bI,fun x=>N.Rh n x.1 x.2.1 x.2.2⟩
def dZ (n:Nat):List (FuncId×Mz):=[(90,iL n),(91,jx n)]
theorem Zj:Mw Try.prog 19:=⟨_,_,Try.func19,rfl,by kernel_rfl⟩
theorem ic (n:Nat) (x:bI.ins.D):L9 (find tbl) (plain (dZ n)) cW n Try.f19 bI x=N.Rh n x.1 x.2.1 x.2.2:=by kernel_rfl
theorem je (n:Nat):K6 Try.prog TT 19 (kK n):=OJ (an:=cW) (n:=n) Try.func19 rfl (by kernel_rfl) PL (OI (OQ (ai n) V4 (OQ (gN n) XG Oc))) follows (ic n)
end Go.Proofs.Ytglbgceejloiaaa.Ev
