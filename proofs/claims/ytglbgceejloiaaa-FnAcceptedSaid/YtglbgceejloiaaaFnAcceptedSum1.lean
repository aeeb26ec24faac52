/- Summaries of the functions. Conditions: none. -/
import Derived.Test.YtglbgceejloiaaaFnAcceptedSum0
namespace Go.Proofs.Ytglbgceejloiaaa.Ev
open Go Go.Ev Go.Proofs
set_option linter.unusedVariables false
set_option maxRecDepth 100000
def bL:Sm:=⟨[.val true [(.sl 104 k7)], .val false [I]],[(false,[(I,0)])]⟩
def cZ:An:=⟨fun _=>none,
 fun b=>match b with
  | 0=>some ([.slot 5 I, .slot 17 I],false)
  | _=>none,
 fun b=>match b with
  | 7=>some ([.slot 5 I],false)
  | _=>none,
 fun _=>[]⟩
def kL (n:Nat):Mz:=⟨bL,fun x=>N.SH n x.1 x.2⟩
def dc (n:Nat):List (FuncId×Mz):=[(21,cO n),(94,iM n)]
theorem Zk:Mw Try.prog 22:=⟨_,_,Try.func22,rfl,by kernel_rfl⟩
theorem ik (n:Nat) (x:bL.ins.D):L9 (find tbl) (plain (dc n)) cZ n Try.f22 bL x=N.SH n x.1 x.2:=by kernel_rfl
theorem jf (n:Nat):K6 Try.prog TT 22 (kL n):=OJ (an:=cZ) (n:=n) Try.func22 rfl (by kernel_rfl) PL (OI (OQ (XS n) UP (OQ (aj n) V5 Oc))) follows (ik n)
def cG:Sm:=⟨[.val true [I,(.sl 54 k10)], .val false [I], .val false [I]],[(true,[(I,0),((.sl 54 k10),2)]),(false,[(.bool,0)])]⟩
def dR:An:=⟨fun _=>none,
 fun _=>none,
 fun _=>none,
 fun _=>[]⟩
def jy (n:Nat):Mz:=⟨cG,fun x=>N.Qq n x.1 x.2.1 x.2.2.1 x.2.2.2⟩
def eQ (n:Nat):List (FuncId×Mz):=[(20,iG n),(82,iI n),(90,iL n)]
theorem XH:Mw Try.prog 95:=⟨_,_,Try.func95,rfl,by kernel_rfl⟩
theorem jU (n:Nat) (x:cG.ins.D):L9 (find tbl) (plain (eQ n)) dR n Try.f95 cG x=N.Qq n x.1 x.2.1 x.2.2.1 x.2.2.2:=by kernel_rfl
theorem gO (n:Nat):K6 Try.prog TT 95 (jy n):=OJ (an:=dR) (n:=n) Try.func95 rfl (by kernel_rfl) PL (OI (OQ (ab n) Vz (OQ (af n) V1 (OQ (ai n) V4 Oc)))) follows (jU n)
def Xv:Sm:=⟨[.val true [(.sl 104 k7)], .val false [I], .val false [I], .val false [I]],[(true,[((.sl 104 k7),2)]),(false,[(I,0)])]⟩
def ZF:An:=⟨fun _=>none,
 fun _=>none,
 fun _=>none,
 fun _=>[]⟩
def gl (n:Nat):Mz:=⟨Xv,fun x=>N.Ri n x.1 x.2.1 x.2.2.1 x.2.2.2⟩
def aH (n:Nat):List (FuncId×Mz):=[(63,Zb n),(71,Yt n),(171,bB n)]
theorem YW:Mw Try.prog 150:=⟨_,_,Try.func150,rfl,by kernel_rfl⟩
theorem fG (n:Nat) (x:Xv.ins.D):L9 (find tbl) (plain (aH n)) ZF n Try.f150 Xv x=N.Ri n x.1 x.2.1 x.2.2.1 x.2.2.2:=by kernel_rfl
theorem fy (n:Nat):K6 Try.prog TT 150 (gl n):=OJ (an:=ZF) (n:=n) Try.func150 rfl (by kernel_rfl) PL (OI (OQ (WD n) TV (OQ (Vj n) S6 (OQ (ZY n) WT Oc)))) follows (fG n)
def T7:Sm:=⟨[.val true [(.sl 104 k7)], .val false [(.sl 170 k2)], .fn 150],[(true,[((.sl 104 k7),2)]),(false,[(.bool,0)])]⟩
def Ux:An:=⟨fun _=>none,
 fun b=>match b with
  | 0=>some ([.slot 17 I, .box 6 [some ((.sl 104 k7),2)], .box 8 [some ((.sl 104 k7),2)]],true)
  | _=>none,
 fun _=>none,
 fun _=>[]⟩
def Vq (n:Nat):Mz:=⟨T7,fun x=>N.Ql n x.1 x.2⟩
def V7 (n:Nat):List (FuncId×Mz):=[(63,Zb n),(150,gl n)]
theorem Wi (n:Nat) (x:T7.ins.D):L9 (find tbl) (plain (V7 n)) Ux n Try.f142 T7 x=N.Ql n x.1 x.2:=by kernel_rfl
theorem Wx (n:Nat):K6 Try.prog TT 142 (Vq n):=OJ (an:=Ux) (n:=n) Try.func142 rfl (by kernel_rfl) PL (OI (OQ (WD n) TV (OQ (fy n) YW Oc))) follows (Wi n)
def cH:Sm:=⟨[.val true [(.sl 104 k7)], .val false [(.sl 170 k2)]],[(true,[((.sl 104 k7),2)]),(false,[(.bool,0)])]⟩
def dS:An:=⟨fun _=>none,
 fun _=>none,
 fun _=>none,
 fun _=>[]⟩
def kX (n:Nat):Mz:=⟨cH,fun x=>N.Qa n x.1 x.2⟩
def eR (n:Nat):List (FuncId×Mz):=[(142,Vq n)]
theorem Zw:Mw Try.prog 96:=⟨_,_,Try.func96,rfl,by kernel_rfl⟩
theorem jV (n:Nat) (x:cH.ins.D):L9 (find tbl) (plain (eR n)) dS n Try.f96 cH x=N.Qa n x.1 x.2:=by kernel_rfl
theorem jt (n:Nat):K6 Try.prog TT 96 (kX n):=OJ (an:=dS) (n:=n) Try.func96 rfl (by kernel_rfl) PL (OI (OQ (Wx n) WQ Oc)) follows (jV n)
def bM:Sm:=⟨[.val true [(.sl 104 k7)], .val true [I,(.sl 54 k10)], .val false [I]],[(true,[((.sl 104 k7),2)]),(true,[(I,0),((.sl 54 k10),2)]),(false,[(.bool,0)])]⟩
def ca:An:=⟨fun _=>none,
 fun _=>none,
 fun _=>none,
 fun _=>[]⟩
def kM (n:Nat):Mz:=⟨bM,fun x=>N.P3 n x.1 x.2.1 x.2.2.1 x.2.2.2⟩
def de (n:Nat):List (FuncId×Mz):=[(63,Zb n),(82,iI n),(90,iL n),(95,jy n),(96,kX n)]
theorem Zl:Mw Try.prog 23:=⟨_,_,Try.func23,rfl,by kernel_rfl⟩
theorem iq (n:Nat) (x:bM.ins.D):L9 (find tbl) (plain (de n)) ca n Try.f23 bM x=N.P3 n x.1 x.2.1 x.2.2.1 x.2.2.2:=by kernel_rfl
theorem jg (n:Nat):K6 Try.prog TT 23 (kM n):=OJ (an:=ca) (n:=n) Try.func23 rfl (by kernel_rfl) PL (OI (OQ (WD n) TV (OQ (af n) V1 (OQ (ai n) V4 (OQ (gO n) XH (OQ (jt n) Zw Oc)))))) follows (iq n)
def bN:Sm:=⟨[.val true [I,(.sl 54 k10)], .val false [I]],[(true,[(I,0),((.sl 54 k10),2)]),(false,[(.bool,0)])]⟩
def cf:An:=⟨fun _=>none,
 fun _=>none,
 fun _=>none,
 fun _=>[]⟩
def kN (n:Nat):Mz:=⟨bN,fun x=>N.R4 n x.1 x.2.1 x.2.2⟩
def dg (n:Nat):List (FuncId×Mz):=[(95,jy n)]
theorem Zm:Mw Try.prog 24:=⟨_,_,Try.func24,rfl,by kernel_rfl⟩
theorem iu (n:Nat) (x:bN.ins.D):L9 (find tbl) (plain (dg n)) cf n Try.f24 bN x=N.R4 n x.1 x.2.1 x.2.2:=by kernel_rfl
theorem jh (n:Nat):K6 Try.prog TT 24 (kN n):=OJ (an:=cf) (n:=n) Try.func24 rfl (by kernel_rfl) PL (OI (OQ (gO n) XH Oc)) follows (iu n)
def jz:Sm:=⟨[.val false [(.sl 5 (.one (.int .u8)))]],[(false,[(.bool,0)])]⟩
def kD:An:=⟨fun _=>none,
 fun b=>match b with
  | 0=>some ([.slot 15 I],true)
  | _=>none,
 fun _=>none,
 fun _=>[]⟩
def s4 (n:Nat):Mz:=⟨jz,fun x=>N.RL n x⟩
def iW (n:Nat):List (FuncId×Mz):=[(7,s7 n),(15,kH n),(16,kI n),(17,kJ n),(18,ju n),(19,kK n),(20,iG n),(21,cO n),(22,kL n),(23,kM n),(24,kN n)]
theorem kF:Mw Try.prog 4:=⟨_,_,Try.func4,rfl,by kernel_rfl⟩
theorem kg (n:Nat) (x:jz.ins.D):L9 (find tbl) (plain (iW n)) kD n Try.f4 jz x=N.RL n x:=by kernel_rfl
theorem ku (n:Nat):K6 Try.prog TT 4 (s4 n):=OJ (an:=kD) (n:=n) Try.func4 rfl (by kernel_rfl) PL (OI (OQ (kv n) dT (OQ (jb n) Zg (OQ (jc n) Zh (OQ (jd n) Zi (OQ (gH n) XD (OQ (je n) Zj (OQ (ab n) Vz (OQ (XS n) UP (OQ (jf n) Zk (OQ (jg n) Zl (OQ (jh n) Zm Oc)))))))))))) follows (kg n)
end Go.Proofs.Ytglbgceejloiaaa.Ev
