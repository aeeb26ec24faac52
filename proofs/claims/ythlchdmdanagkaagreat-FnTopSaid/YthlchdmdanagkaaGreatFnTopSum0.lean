/- Tables of types;summaries of the functions. Conditions: none. -/
import Derived.Test.YthlchdmdanagkaaGreatLib5
import Derived.Test.YthlchdmdanagkaaGreatFnTopSort
import Derived.Test.YthlchdmdanagkaaGreatFnTopNat
import Derived.Test.YthlchdmdanagkaaGreatProg
import Derived.KernelRfl
set_option linter.all false
namespace Go.Proofs.YthlchdmdanagkaaGreat.Ev
open Go Go.Ev Go.Proofs
set_option maxRecDepth 100000
abbrev I:L:=.int .i64
abbrev TT:List (String×Array Value):=[]
def k0:Ls:=(.cons .str (.one (.int .u64)))
def k1:Ls:=(.cons I (.one I))
def k2:Ls:=(.cons .str (.one (.int .u8)))
def k3:Ls:=(.cons I (.cons I (.one I)))
def k4:Ls:=(.cons I (.cons I (.cons .bool (.one (.int .u8)))))
def k5:Ls:=(.cons I (.cons I (.cons I (.one I))))
def k6:Ls:=(.cons I (.cons I (.cons I (.cons .bool (.one I)))))
def k7:Ls:=(.cons I (.cons I (.one (.sl 3 (.one I)))))
def k8:Ls:=(.cons I (.cons I (.one (.sl 72 k3))))
def k9:Ls:=(.cons (.sl 5 (.one (.int .u8))) (.cons I (.one I)))
def k10:Ls:=(.cons I (.cons I (.cons (.sl 144 k1) (.cons (.sl 117 k3) (.one I)))))
def xo:Ls:=(.cons I (.cons I (.cons (.sl 3 (.one I)) (.cons (.sl 43 k6) (.one (.sl 3 (.one I)))))))
def xp:Ls:=(.cons I (.one (.sl 77 k10)))
def xr:Ls:=(.cons I (.cons I (.cons (.sl 3 (.one I)) (.cons (.sl 43 k6) (.cons (.sl 24 (.one (.sl 3 (.one I)))) (.one (.sl 3 (.one I))))))))
def xt:Ls:=(.cons I (.cons I (.cons (.sl 3 (.one I)) (.cons (.sl 68 k8) (.cons I (.cons (.sl 77 k10) (.cons (.sl 43 k6) (.cons (.sl 65 k5) (.cons (.sl 3 (.one I)) (.cons (.sl 3 (.one I)) (.one I)))))))))))
def tbl:List (Nat×Ty):=[
 (3,⟨false,(.one I),[],false⟩),
 (4,⟨false,(.one .bool),[],false⟩),
 (5,⟨false,(.one (.int .u8)),[],false⟩),
 (9,⟨false,(.one .str),[],false⟩),
 (22,⟨false,(.one (.sl 5 (.one (.int .u8)))),[],false⟩),
 (24,⟨false,(.one (.sl 3 (.one I))),[],false⟩),
 (26,⟨true,k7,[(0,3),(1,3),(2,24)],false⟩),
 (27,⟨false,(.one (.sl 68 k8)),[],false⟩),
 (29,⟨true,(.one (.sl 68 k8)),[(0,27)],false⟩),
 (30,⟨false,(.one (.sl 77 k10)),[],false⟩),
 (32,⟨true,xp,[(0,3),(1,30)],false⟩),
 (33,⟨false,(.one (.sl 43 k6)),[],false⟩),
 (34,⟨false,(.one (.sl 65 k5)),[],false⟩),
 (36,⟨true,xt,[(0,26),(3,29),(4,32),(6,33),(7,34),(8,24),(9,24),(10,3)],false⟩),
 (43,⟨true,k6,[(0,3),(1,3),(2,3),(3,4),(4,3)],true⟩),
 (65,⟨true,k5,[(0,3),(1,3),(2,3),(3,3)],true⟩),
 (66,⟨false,(.one (.sl 72 k3)),[],false⟩),
 (68,⟨true,k8,[(0,3),(1,3),(2,66)],false⟩),
 (72,⟨true,k3,[(0,3),(1,3),(2,3)],true⟩),
 (74,⟨false,(.one (.sl 144 k1)),[],false⟩),
 (75,⟨false,(.one (.sl 117 k3)),[],false⟩),
 (77,⟨true,k10,[(0,3),(1,3),(2,74),(3,75),(4,3)],false⟩),
 (86,⟨true,k9,[(0,22),(1,3),(2,3)],false⟩),
 (117,⟨true,k3,[(0,3),(1,3),(2,3)],true⟩),
 (134,⟨false,(.one (.sl 9 (.one .str))),[],false⟩),
 (144,⟨true,k1,[(0,3),(1,3)],true⟩),
 (161,⟨false,(.one (.sl 24 (.one (.sl 3 (.one I))))),[],false⟩),
 (182,⟨true,xo,[(0,26),(3,33),(4,24)],false⟩),
 (185,⟨false,(.one (.sl 4 (.one .bool))),[],false⟩),
 (199,⟨true,xr,[(0,26),(3,33),(4,161),(5,24)],false⟩)]
theorem uS:tbl.all (λp=>OU Tryz.prog p.1 p.2)=true:=by kernel_rfl
theorem follows:Tryz.prog.follows .mixedOrders=true:=by kernel_rfl
def Vw(g:List (Nat×List VP))(b j:List (Nat×List VP×Bool))(p:List (Nat×It)):An:=⟨find g,find b,find j,λk=>match find p k with|some x=>x|none=>[]⟩
def Vh(b:List (Nat×List VP×Bool)):An:=Vw [] b [] []
def UN:An:=Vh []
abbrev FO(f:FuncId)(g:Mb):Prop:=Kt Tryz.prog TT f g/\KY Tryz.prog f
theorem nl:IG Tryz.prog TT (find []):=OL
theorem cn{f:FuncId}{g:Mb}{l:List (FuncId×Mb)}(h:FO f g)(hl:IG Tryz.prog TT (find l)):IG Tryz.prog TT (find ((f,g)::l)):=N5 h.1 h.2 hl
theorem uv {l : Env} (an : An) (n : Nat) {sm : Sm} {fn : Func} {f : FuncId} {c : Code} {F : sm.ins.D -> Option sm.outs.D} (hf : Tryz.prog.funcs[f]? = some fn) (hb : fn.body = some c) (hl : JK Tryz.prog TT l) (hF : ∀ x, Lq (find tbl) l an n fn sm x = F x := by intro x; kernel_rfl) (h1 : decide (sm.ps.length <= fn.ntmps) = true := by kernel_rfl) (h2 : (fn.name == "runtime.NumGoroutine") = false := by kernel_rfl) : FO f ⟨sm, F⟩ := ⟨Ny hf hb h1 uS hl follows hF, fn, c, hf, hb, h2⟩
theorem mk {l : List (FuncId × Mb)} (an : An) (n : Nat) {sm : Sm} {fn : Func} {f : FuncId} {c : Code} {F : sm.ins.D -> Option sm.outs.D} (hf : Tryz.prog.funcs[f]? = some fn) (hb : fn.body = some c) (hl : IG Tryz.prog TT (find l)) (hF : ∀ x, Lq (find tbl) (plain l) an n fn sm x = F x := by intro x; kernel_rfl) (h1 : decide (sm.ps.length <= fn.ntmps) = true := by kernel_rfl) (h2 : (fn.name == "runtime.NumGoroutine") = false := by kernel_rfl) : FO f ⟨sm, F⟩ := uv an n hf hb (Nx hl) hF h1 h2
def u2{α0 α1 β:Type}(f:α0->α1->β)(x:α0×α1):β:=f x.1 x.2
def u3{α0 α1 α2 β:Type}(f:α0->α1->α2->β)(x:α0×α1×α2):β:=f x.1 x.2.1 x.2.2
def u4{α0 α1 α2 α3 β:Type}(f:α0->α1->α2->α3->β)(x:α0×α1×α2×α3):β:=f x.1 x.2.1 x.2.2.1 x.2.2.2
def u5{α0 α1 α2 α3 α4 β:Type}(f:α0->α1->α2->α3->α4->β)(x:α0×α1×α2×α3×α4):β:=f x.1 x.2.1 x.2.2.1 x.2.2.2.1 x.2.2.2.2
def u6{α0 α1 α2 α3 α4 α5 β:Type}(f:α0->α1->α2->α3->α4->α5->β)(x:α0×α1×α2×α3×α4×α5):β:=f x.1 x.2.1 x.2.2.1 x.2.2.2.1 x.2.2.2.2.1 x.2.2.2.2.2
def u7{α0 α1 α2 α3 α4 α5 α6 β:Type}(f:α0->α1->α2->α3->α4->α5->α6->β)(x:α0×α1×α2×α3×α4×α5×α6):β:=f x.1 x.2.1 x.2.2.1 x.2.2.2.1 x.2.2.2.2.1 x.2.2.2.2.2.1 x.2.2.2.2.2.2
def u8{α0 α1 α2 α3 α4 α5 α6 α7 β:Type}(f:α0->α1->α2->α3->α4->α5->α6->α7->β)(x:α0×α1×α2×α3×α4×α5×α6×α7):β:=f x.1 x.2.1 x.2.2.1 x.2.2.2.1 x.2.2.2.2.1 x.2.2.2.2.2.1 x.2.2.2.2.2.2.1 x.2.2.2.2.2.2.2
def u9{α0 α1 α2 α3 α4 α5 α6 α7 α8 β:Type}(f:α0->α1->α2->α3->α4->α5->α6->α7->α8->β)(x:α0×α1×α2×α3×α4×α5×α6×α7×α8):β:=f x.1 x.2.1 x.2.2.1 x.2.2.2.1 x.2.2.2.2.1 x.2.2.2.2.2.1 x.2.2.2.2.2.2.1 x.2.2.2.2.2.2.2.1 x.2.2.2.2.2.2.2.2
def nZ{α0 α1 α2 α3 α4 α5 α6 α7 α8 α9 α10 β:Type}(f:α0->α1->α2->α3->α4->α5->α6->α7->α8->α9->α10->β)(x:α0×α1×α2×α3×α4×α5×α6×α7×α8×α9×α10):β:=f x.1 x.2.1 x.2.2.1 x.2.2.2.1 x.2.2.2.2.1 x.2.2.2.2.2.1 x.2.2.2.2.2.2.1 x.2.2.2.2.2.2.2.1 x.2.2.2.2.2.2.2.2.1 x.2.2.2.2.2.2.2.2.2.1 x.2.2.2.2.2.2.2.2.2.2
def uf{α0 α1 α2 α3 α4 α5 α6 α7 α8 α9 α10 α11 β:Type}(f:α0->α1->α2->α3->α4->α5->α6->α7->α8->α9->α10->α11->β)(x:α0×α1×α2×α3×α4×α5×α6×α7×α8×α9×α10×α11):β:=f x.1 x.2.1 x.2.2.1 x.2.2.2.1 x.2.2.2.2.1 x.2.2.2.2.2.1 x.2.2.2.2.2.2.1 x.2.2.2.2.2.2.2.1 x.2.2.2.2.2.2.2.2.1 x.2.2.2.2.2.2.2.2.2.1 x.2.2.2.2.2.2.2.2.2.2.1 x.2.2.2.2.2.2.2.2.2.2.2
def xf{α0 α1 α2 α3 α4 α5 α6 α7 α8 α9 α10 α11 α12 β:Type}(f:α0->α1->α2->α3->α4->α5->α6->α7->α8->α9->α10->α11->α12->β)(x:α0×α1×α2×α3×α4×α5×α6×α7×α8×α9×α10×α11×α12):β:=f x.1 x.2.1 x.2.2.1 x.2.2.2.1 x.2.2.2.2.1 x.2.2.2.2.2.1 x.2.2.2.2.2.2.1 x.2.2.2.2.2.2.2.1 x.2.2.2.2.2.2.2.2.1 x.2.2.2.2.2.2.2.2.2.1 x.2.2.2.2.2.2.2.2.2.2.1 x.2.2.2.2.2.2.2.2.2.2.2.1 x.2.2.2.2.2.2.2.2.2.2.2.2
def za{α0 α1 α2 α3 α4 α5 α6 α7 α8 α9 α10 α11 α12 α13 β:Type}(f:α0->α1->α2->α3->α4->α5->α6->α7->α8->α9->α10->α11->α12->α13->β)(x:α0×α1×α2×α3×α4×α5×α6×α7×α8×α9×α10×α11×α12×α13):β:=f x.1 x.2.1 x.2.2.1 x.2.2.2.1 x.2.2.2.2.1 x.2.2.2.2.2.1 x.2.2.2.2.2.2.1 x.2.2.2.2.2.2.2.1 x.2.2.2.2.2.2.2.2.1 x.2.2.2.2.2.2.2.2.2.1 x.2.2.2.2.2.2.2.2.2.2.1 x.2.2.2.2.2.2.2.2.2.2.2.1 x.2.2.2.2.2.2.2.2.2.2.2.2.1 x.2.2.2.2.2.2.2.2.2.2.2.2.2
def rS{α0 α1 α2 α3 α4 α5 α6 α7 α8 α9 α10 α11 α12 α13 α14 β:Type}(f:α0->α1->α2->α3->α4->α5->α6->α7->α8->α9->α10->α11->α12->α13->α14->β)(x:α0×α1×α2×α3×α4×α5×α6×α7×α8×α9×α10×α11×α12×α13×α14):β:=f x.1 x.2.1 x.2.2.1 x.2.2.2.1 x.2.2.2.2.1 x.2.2.2.2.2.1 x.2.2.2.2.2.2.1 x.2.2.2.2.2.2.2.1 x.2.2.2.2.2.2.2.2.1 x.2.2.2.2.2.2.2.2.2.1 x.2.2.2.2.2.2.2.2.2.2.1 x.2.2.2.2.2.2.2.2.2.2.2.1 x.2.2.2.2.2.2.2.2.2.2.2.2.1 x.2.2.2.2.2.2.2.2.2.2.2.2.2.1 x.2.2.2.2.2.2.2.2.2.2.2.2.2.2
abbrev Px:L:=(.sl 3 (.one I))
abbrev S7:L:=(.sl 68 k8)
abbrev T4:L:=(.sl 43 k6)
abbrev ZH:L:=(.sl 77 k10)
abbrev YM:L:=(.sl 65 k5)
abbrev jP:L:=(.sl 5 (.one (.int .u8)))
abbrev zd:L:=(.sl 24 (.one (.sl 3 (.one I))))
abbrev jQ:L:=(.sl 117 k3)
abbrev nY:L:=(.sl 144 k1)
abbrev pq:L:=(.sl 72 k3)
abbrev Y3:List L:=[I,I,Px,S7,I,ZH,T4,YM,Px,Px,I]
abbrev S6:List L:=[I,I,Px]
abbrev kL:List L:=[(.sl 24 (.one Px))]
abbrev lV:List L:=[I,I,I,.bool,I]
abbrev nP:List L:=[I,I,nY,jQ,I]
abbrev bK:List L:=[I,ZH]
abbrev dY:List (L×Nat):=[(I,0),(I,0),(Px,2),(S7,2),(I,0),(ZH,2),(T4,2),(YM,2),(Px,2),(Px,2),(I,0)]
abbrev dZ:List (L×Nat):=[(jP,0),(I,0),(I,0)]
abbrev uT:List (L×Nat):=[(I,0),(I,0),(Px,2),(S7,2),(I,0),(ZH,2),(T4,2),(YM,0),(Px,2),(Px,2),(I,0)]
abbrev uU:List (L×Nat):=[(I,0),(I,0),(Px,0),(T4,0),((.sl 24 (.one Px)),2),(Px,2)]
abbrev rK:List (L×Nat):=[(I,0),(I,0),(Px,0),(T4,0),(Px,2)]
abbrev QM:List (L×Nat):=[(.bool,0)]
abbrev RA:List (L×Nat):=[(I,0)]
abbrev Vv:List (L×Nat):=[(Px,2)]
abbrev uV:List (L×Nat):=[(I,0),(I,0),(Px,0),(S7,0),(I,0),(ZH,0),(T4,0),(YM,0),(Px,0),(Px,0),(I,0)]
abbrev Y4:List (L×Nat):=[(S7,2)]
abbrev pr:List (L×Nat):=[(I,0),(I,0),(nY,2),(jQ,2),(I,0)]
abbrev kM:List (L×Nat):=[(I,0),(ZH,2)]
abbrev pt:List (L×Nat):=[(I,0),(I,0),(Px,2)]
def s6(n:Nat):Mb:=⟨⟨[.val false [jP]],[(false,QM)]⟩,N.ec⟩
theorem xv(n:Nat):FO 6 (s6 n):=mk UN n Tryz.func6 rfl nl
def yJ(n:Nat):Mb:=⟨⟨[.val false [jP]],[(false,dZ)]⟩,N.Y1 n⟩
theorem vE(n:Nat):FO 26 (yJ n):=mk (Vh [(0,[.slot 3 I,.slot 4 I],false)]) n Tryz.func26 rfl nl
def yL(n:Nat):Mb:=⟨⟨[.val false [jP],.val false [I]],[(false,RA)]⟩,u2 N.YC⟩
theorem vG(n:Nat):FO 28 (yL n):=mk UN n Tryz.func28 rfl nl
def zQ(n:Nat):Mb:=⟨⟨[.box dZ],[(false,RA)]⟩,u3 N.TR⟩
theorem ve(n:Nat):FO 93 (zQ n):=mk (Vw [] [] [(12,[.slot 3 I,.box 0 [some (jP,0),some (I,0),some (I,0)]],false)] []) n Tryz.func93 rfl nl
def xa(n:Nat):Mb:=⟨⟨[.box dZ,.val false [I]],[(false,RA)]⟩,u4 N.Pl⟩
theorem mr(n:Nat):FO 52 (xa n):=mk UN n Tryz.func52 rfl (cn (ve n) nl)
def rH(n:Nat):Mb:=⟨⟨[.box dZ,.val false [(.sl 9 (.one .str))]],[(false,[(.str,0)])]⟩,u4 N.Xq⟩
theorem qI(n:Nat):FO 104 (rH n):=mk UN n Tryz.func104 rfl (cn (mr n) nl)
def wO(n:Nat):Mb:=⟨⟨[.val false [.str],.val false [(.int .u8)]],[(false,[((.sl 9 (.one .str)),2)])]⟩,u2 (N.XN n)⟩
theorem sT(n:Nat):FO 136 (wO n):=mk (Vw [] [(0,[.own 5 9 (.one .str) 2 false,.slot 6 I,.slot 7 I],false)] [(7,[.own 5 9 (.one .str) 2 false,.slot 6 I],false)] []) n Tryz.func136 rfl nl
def yS(n:Nat):Mb:=⟨⟨[.val false [I],.val false [I],.val false [I]],[(false,QM)]⟩,u3 N.PK⟩
theorem ZY(n:Nat):FO 35 (yS n):=mk UN n Tryz.func35 rfl nl
def wP(n:Nat):Mb:=⟨⟨[.val false [(.int .u8)]],[(false,RA)]⟩,N.YB n⟩
theorem sU(n:Nat):FO 137 (wP n):=mk (Vh [(0,[.slot 3 I],true)]) n Tryz.func137 rfl nl
def rG(n:Nat):Mb:=⟨⟨[.val false [.str]],[(true,pt),(false,RA)]⟩,N.Qa n⟩
theorem qH(n:Nat):FO 103 (rG n):=mk (Vh [(0,[.slot 6 I,.box 2 [some (I,0),some (I,0),some (Px,2)],.box 5 [some (I,0),some (I,0),some (Px,2)]],true),(2,[.slot 8 I,.box 2 [some (I,0),some (I,0),some (Px,2)],.box 5 [some (I,0),some (I,0),some (Px,2)]],true)]) n Tryz.func103 rfl (cn (ZY n) (cn (sT n) (cn (sU n) nl)))
def xP(n:Nat):Mb:=⟨⟨[.box dZ,.val false [I]],[(false,QM)]⟩,u4 N.TU⟩
theorem pW(n:Nat):FO 91 (xP n):=mk UN n Tryz.func91 rfl (cn (mr n) nl)
def xc(n:Nat):Mb:=⟨⟨[.box dZ,.val false [Px]],[(false,RA)]⟩,u4 N.Vu⟩
theorem qx(n:Nat):FO 53 (xc n):=mk UN n Tryz.func53 rfl (cn (mr n) nl)
def ot(n:Nat):Mb:=⟨⟨[.box dZ],[(true,pt)]⟩,u3 (N.VX n)⟩
def qA:An:=Vh [(0,[.slot 6 I,.box 0 [some (jP,0),some (I,0),some (I,0)],.box 5 [some (I,0),some (I,0),some (Px,2)]],false)]
theorem ra(n:Nat)(x:(ot n).s.ins.D):Lq (find tbl) (plain [(52,xa n),(53,xc n),(91,xP n),(103,rG n),(104,rH n)]) qA n Tryz.f105 (ot n).s x=N.VX n x.1 x.2.1 x.2.2:=by kernel_rfl
theorem r6(n:Nat):FO 105 (ot n):=mk (an:=qA) (n:=n) (sm:=(ot n).s) Tryz.func105 rfl (cn (mr n) (cn (qx n) (cn (pW n) (cn (qH n) (cn (qI n) nl))))) (ra n)
def yM(n:Nat):Mb:=⟨⟨[.val true S6],[(false,QM)]⟩,u3 (N.Q0 n)⟩
theorem oQ(n:Nat):FO 29 (yM n):=mk (Vh [(0,[.slot 3 I],true)]) n Tryz.func29 rfl (cn (ZY n) nl)
def vt(n:Nat):Mb:=⟨⟨[.val true S6,.val false [I]],[(false,Vv)]⟩,u4 (N.SS n)⟩
theorem oL(n:Nat):FO 112 (vt n):=mk (Vw [] [(0,[.own 5 3 (.one I) 2 false,.slot 6 I],false)] [(7,[.own 5 3 (.one I) 2 false],false)] []) n Tryz.func112 rfl (cn (oQ n) nl)
def uL(n:Nat):Mb:=⟨⟨[.box dZ,.val true S6],[(true,Y4)]⟩,u6 (N.XL n)⟩
theorem r8(n:Nat):FO 107 (uL n):=mk (Vw [] [(0,[.slot 7 I,.box 0 [some (jP,0),some (I,0),some (I,0)],.box 5 [some (S7,2)]],false),(2,[.slot 9 I,.box 0 [some (jP,0),some (I,0),some (I,0)],.box 8 [some (I,0),some (I,0),some (pq,2)]],false)] [(13,[.box 0 [some (jP,0),some (I,0),some (I,0)],.box 8 [some (I,0),some (I,0),some (pq,2)]],false)] []) n Tryz.func107 rfl (cn (qx n) (cn (oL n) nl))
def yo(n:Nat):Mb:=⟨⟨[.val false [pq]],[(false,QM)]⟩,N.WN n⟩
theorem vU(n:Nat):FO 64 (yo n):=mk (Vh [(0,[.slot 3 I],true)]) n Tryz.func64 rfl (cn (ZY n) nl)
def yN(n:Nat):Mb:=⟨⟨[.val true [S7]],[(false,QM)]⟩,N.QU n⟩
theorem jz(n:Nat):FO 30 (yN n):=mk (Vh [(0,[.slot 3 I],true),(2,[.slot 5 I],true)]) n Tryz.func30 rfl (cn (ZY n) (cn (vU n) nl))
def zS(n:Nat):Mb:=⟨⟨[.val true S6],[(true,pt)]⟩,u3 N.Wa⟩
theorem uH(n:Nat):FO 95 (zS n):=mk UN n Tryz.func95 rfl nl
def zT(n:Nat):Mb:=⟨⟨[.val true [S7]],[(true,Y4)]⟩,N.Pm n⟩
theorem gL(n:Nat):FO 96 (zT n):=mk (Vh [(0,[.slot 4 I,.box 3 [some (S7,2)]],false)]) n Tryz.func96 rfl nl
def wE(n:Nat):Mb:=⟨⟨[.val true [I,I,pq],.val false [I]],[(true,[(I,0),(I,0),(I,0)])]⟩,u4 (N.Ri n)⟩
theorem oN(n:Nat):FO 126 (wE n):=mk (Vh [(0,[.slot 5 I,.box 4 [some (I,0),some (I,0),some (I,0)]],true)]) n Tryz.func126 rfl nl
def wQ(n:Nat):Mb:=⟨⟨[.val true [S7],.val false [I]],[(false,RA)]⟩,u2 (N.Yy n)⟩
theorem sV(n:Nat):FO 138 (wQ n):=mk (Vh [(0,[.slot 5 I,.slot 6 I],false)]) n Tryz.func138 rfl (cn (jz n) (cn (oN n) nl))
def uK(n:Nat):Mb:=⟨⟨[.val true S6,.val true [S7]],[(true,dY),(false,QM)]⟩,u4 (N.WA n)⟩
theorem r7(n:Nat):FO 106 (uK n):=mk (Vh [(0,[.slot 7 I,.box 4 [some (I,0),some (I,0),some (Px,2),some (S7,2),some (I,0),some (ZH,2),some (T4,2),some (YM,2),some (Px,2),some (Px,2),some (I,0)]],true),(2,[.slot 8 I,.box 4 [some (I,0),some (I,0),some (Px,2),some (S7,2),some (I,0),some (ZH,2),some (T4,2),some (YM,2),some (Px,2),some (Px,2),some (I,0)]],true),(4,[.slot 9 I,.box 6 [some (I,0),some (I,0),some (Px,2),some (S7,2),some (I,0),some (ZH,2),some (T4,2),some (YM,2),some (Px,2),some (Px,2),some (I,0)]],false),(6,[.slot 11 I,.box 6 [some (I,0),some (I,0),some (Px,2),some (S7,2),some (I,0),some (ZH,2),some (T4,2),some (YM,2),some (Px,2),some (Px,2),some (I,0)]],false)]) n Tryz.func106 rfl (cn (oQ n) (cn (jz n) (cn (ZY n) (cn (uH n) (cn (gL n) (cn (oL n) (cn (sV n) nl)))))))
def ud(n:Nat):Mb:=⟨⟨[.box dZ],[(true,dY)]⟩,u3 (N.UK n)⟩
def rV:An:=Vw [] [] [(9,[.box 0 [some (jP,0),some (I,0),some (I,0)],.box 3 [some (I,0),some (I,0),some (Px,2)]],false)] [(4,[3])]
theorem uq(n:Nat)(x:(ud n).s.ins.D):Lq (find tbl) (plain [(91,xP n),(103,rG n),(104,rH n),(105,ot n),(106,uK n),(107,uL n)]) rV n Tryz.f58 (ud n).s x=N.UK n x.1 x.2.1 x.2.2:=by kernel_rfl
theorem vO(n:Nat):FO 58 (ud n):=mk (an:=rV) (n:=n) (sm:=(ud n).s) Tryz.func58 rfl (cn (pW n) (cn (qH n) (cn (qI n) (cn (r6 n) (cn (r7 n) (cn (r8 n) nl)))))) (uq n)
def yj(n:Nat):Mb:=⟨⟨[.box dZ,.val true S6],[(false,RA)]⟩,u6 (N.XI n)⟩
theorem vQ(n:Nat):FO 60 (yj n):=mk (Vw [(2,[.slot 14 .bool,.box 0 [some (jP,0),some (I,0),some (I,0)]])] [] [] []) n Tryz.func60 rfl (cn (mr n) (cn (pW n) (cn (oL n) nl)))
def yk(n:Nat):Mb:=⟨⟨[.box dZ],[(false,[(nY,2)])]⟩,u3 (N.YA n)⟩
theorem vR(n:Nat):FO 61 (yk n):=mk (Vw [] [(0,[.own 3 144 k1 2 false,.slot 4 I,.box 0 [some (jP,0),some (I,0),some (I,0)]],false)] [(7,[.own 3 144 k1 2 false,.box 0 [some (jP,0),some (I,0),some (I,0)]],false)] []) n Tryz.func61 rfl (cn (qx n) (cn (pW n) nl))
def wD(n:Nat):Mb:=⟨⟨[.val true nP],[(true,pr)]⟩,u5 N.P6⟩
theorem oM(n:Nat):FO 125 (wD n):=mk UN n Tryz.func125 rfl nl
def zU(n:Nat):Mb:=⟨⟨[.val true bK],[(true,kM)]⟩,u2 (N.Rf n)⟩
theorem oV(n:Nat):FO 97 (zU n):=mk (Vh [(0,[.slot 4 I,.box 3 [some (I,0),some (ZH,2)]],false)]) n Tryz.func97 rfl (cn (oM n) nl)
def yf(n:Nat):Mb:=⟨⟨[.val true Y3],[(true,dY)]⟩,nZ (N.Tr n)⟩
theorem qy(n:Nat):FO 55 (yf n):=mk UN n Tryz.func55 rfl (cn (uH n) (cn (gL n) (cn (oV n) nl)))
def v7(n:Nat):Mb:=⟨⟨[.val false [nY]],[(false,QM)]⟩,N.Q1 n⟩
theorem qJ(n:Nat):FO 118 (v7 n):=mk (Vh [(0,[.slot 3 I],true)]) n Tryz.func118 rfl (cn (ZY n) nl)
def v8(n:Nat):Mb:=⟨⟨[.val false [jQ],.val false [I]],[(false,RA)]⟩,u2 (N.X9 n)⟩
theorem sI(n:Nat):FO 119 (v8 n):=mk (Vw [] [(0,[.slot 5 I,.slot 6 I],false)] [(7,[.slot 5 I],false)] []) n Tryz.func119 rfl nl
def yp(n:Nat):Mb:=⟨⟨[.val true nP],[(false,QM)]⟩,u5 (N.WK n)⟩
theorem vV(n:Nat):FO 65 (yp n):=mk (Vh [(0,[.slot 3 I,.slot 4 I],false),(2,[.slot 3 I,.slot 5 I],true),(4,[.slot 7 I],true)]) n Tryz.func65 rfl (cn (ZY n) (cn (qJ n) (cn (sI n) nl)))
def yO(n:Nat):Mb:=⟨⟨[.val true bK],[(false,QM)]⟩,u2 (N.Qr n)⟩
theorem oR(n:Nat):FO 31 (yO n):=mk (Vh [(0,[.slot 3 I],true)]) n Tryz.func31 rfl (cn (ZY n) (cn (vV n) nl))
def yq(n:Nat):Mb:=⟨⟨[.val true S6,.val false [I]],[(false,QM)]⟩,u4 N.Wc⟩
theorem vW(n:Nat):FO 66 (yq n):=mk UN n Tryz.func66 rfl (cn (ZY n) nl)
def yP(n:Nat):Mb:=⟨⟨[.val true S6,.val false [T4]],[(false,QM)]⟩,u4 (N.Uw n)⟩
theorem qw(n:Nat):FO 32 (yP n):=mk (Vh [(0,[.slot 5 I],true),(2,[.slot 7 I],true)]) n Tryz.func32 rfl (cn (oQ n) (cn (ZY n) (cn (vW n) nl)))
def yQ(n:Nat):Mb:=⟨⟨[.val false [YM]],[(false,QM)]⟩,N.VV n⟩
theorem tu(n:Nat):FO 33 (yQ n):=mk (Vh [(0,[.slot 3 I],true),(2,[.slot 6 I],true)]) n Tryz.func33 rfl (cn (ZY n) nl)
def yR(n:Nat):Mb:=⟨⟨[.val false [Px]],[(false,QM)]⟩,N.TQ n⟩
theorem vH(n:Nat):FO 34 (yR n):=mk (Vh [(0,[.slot 3 I],true)]) n Tryz.func34 rfl (cn (ZY n) nl)
def yr(n:Nat):Mb:=⟨⟨[.val true bK,.val false [I]],[(false,RA)]⟩,u3 (N.Q2 n)⟩
theorem mu(n:Nat):FO 67 (yr n):=mk (Vh [(0,[.slot 5 I],true)]) n Tryz.func67 rfl nl
def yt(n:Nat):Mb:=⟨⟨[.val true [S7],.val false [I]],[(false,RA)]⟩,u2 (N.QX n)⟩
theorem oU(n:Nat):FO 68 (yt n):=mk (Vh [(0,[.slot 5 I],true)]) n Tryz.func68 rfl nl
def xd(n:Nat):Mb:=⟨⟨[.val false [Px],.val false [I]],[(false,QM)]⟩,u2 (N.QK n)⟩
theorem pT(n:Nat):FO 69 (xd n):=mk (Vh [(0,[.slot 5 I],true)]) n Tryz.func69 rfl nl
def yu(n:Nat):Mb:=⟨⟨[.val false [jQ]],[(false,Vv)]⟩,N.Ux n⟩
theorem qz(n:Nat):FO 70 (yu n):=mk (Vw [] [(0,[.own 3 3 (.one I) 2 false,.slot 4 I],false)] [(7,[.own 3 3 (.one I) 2 false],false)] []) n Tryz.func70 rfl (cn (pT n) nl)
def yv(n:Nat):Mb:=⟨⟨[.val false [T4],.val false [I]],[(false,RA)]⟩,u2 (N.Sw n)⟩
theorem rA(n:Nat):FO 71 (yv n):=mk (Vh [(0,[.slot 5 I],true)]) n Tryz.func71 rfl nl
def yw(n:Nat):Mb:=⟨⟨[.val true Y3,.val true [I,I,I,I]],[(false,RA)]⟩,rS (N.QV n)⟩
theorem uA(n:Nat):FO 72 (yw n):=mk UN n Tryz.func72 rfl (cn (mu n) (cn (oU n) nl))
def yT(n:Nat):Mb:=⟨⟨[.val true Y3,.val true [I,I,I,I]],[(false,QM)]⟩,rS (N.Ts n)⟩
theorem vI(n:Nat):FO 36 (yT n):=mk UN n Tryz.func36 rfl (cn (mu n) (cn (oU n) (cn (pT n) (cn (qz n) (cn (rA n) (cn (uA n) nl))))))
def s8(n:Nat):Mb:=⟨⟨[.val true Y3],[(false,QM)]⟩,nZ (N.SU n)⟩
theorem uc(n:Nat):FO 8 (s8 n):=mk (Vh [(0,[.slot 3 I],true)]) n Tryz.func8 rfl (cn (oQ n) (cn (jz n) (cn (oR n) (cn (qw n) (cn (tu n) (cn (vH n) (cn (ZY n) (cn (vI n) nl))))))))
def wR(n:Nat):Mb:=⟨⟨[.val true S6,.val false [I]],[(false,QM)]⟩,u4 (N.TS n)⟩
theorem oO(n:Nat):FO 139 (wR n):=mk UN n Tryz.func139 rfl (cn (oQ n) (cn (ZY n) nl))
def vm(n:Nat):Mb:=⟨⟨[.val true S6,.val false [I]],[(false,RA)]⟩,u4 (N.X7 n)⟩
theorem r9(n:Nat):FO 108 (vm n):=mk UN n Tryz.func108 rfl (cn (oO n) nl)
def vn(n:Nat):Mb:=⟨⟨[.val true bK],[(true,kM)]⟩,u2 (N.Xn n)⟩
theorem sA(n:Nat):FO 109 (vn n):=mk (Vw [] [(0,[.slot 4 I,.box 3 [some (I,0),some (ZH,2)]],false)] [(7,[.box 3 [some (I,0),some (ZH,2)]],false)] []) n Tryz.func109 rfl (cn (oR n) (cn (oV n) (cn (oM n) nl)))
def wv(n:Nat):Mb:=⟨⟨[.val true [I,I,pq],.val false [nY]],[(false,[(jQ,2)]),(false,RA)]⟩,u4 (N.Vb n)⟩
theorem tE(n:Nat):FO 160 (wv n):=mk (Vw [] [(0,[.own 6 117 k3 2 false,.slot 7 I,.slot 8 I],false)] [(7,[.own 6 117 k3 2 false,.slot 7 I],false),(27,[.slot 10 I],false)] []) n Tryz.func160 rfl (cn (oN n) nl)
def wS(n:Nat):Mb:=⟨⟨[.val true [S7],.val false [nY]],[(false,[(jQ,2)]),(false,QM)]⟩,u2 (N.TN n)⟩
theorem sX(n:Nat):FO 140 (wS n):=mk (Vw [] [(0,[.own 4 117 k3 2 false,.slot 5 .bool,.own 9 117 k3 2 false,.own 6 117 k3 2 false,.own 7 144 k1 2 false,.own 8 4 (.one .bool) 2 false],true),(2,[.slot 10 I,.slot 11 I],false),(4,[.slot 12 I,.slot 13 I,.slot 14 I],false),(6,[.slot 19 I,.own 7 144 k1 2 false],false),(8,[.slot 20 I,.own 7 144 k1 2 false],false)] [(19,[.slot 12 I,.slot 13 I],false),(31,[.own 7 144 k1 2 false],false)] []) n Tryz.func140 rfl (cn (jz n) (cn (qJ n) (cn (tE n) nl)))
def zV(n:Nat):Mb:=⟨⟨[.val true [S7],.val false [I],.val false [I],.val false [I]],[(false,RA),(true,[(I,0),(I,0),(I,0)]),(false,RA)]⟩,u4 (N.TW n)⟩
theorem pX(n:Nat):FO 98 (zV n):=mk UN n Tryz.func98 rfl (cn (jz n) (cn (ZY n) (cn (oU n) (cn (oN n) nl))))
def wF(n:Nat):Mb:=⟨⟨[.val false [pq],.val true [I,I,I]],[(false,[(pq,2)])]⟩,u4 (N.Uy n)⟩
theorem sJ(n:Nat):FO 127 (wF n):=mk (Vw [] [(0,[.own 5 72 k3 2 false,.slot 6 .bool,.slot 7 I],false)] [(7,[.own 5 72 k3 2 false,.slot 6 .bool],false),(21,[.own 5 72 k3 2 false,.slot 6 .bool],false),(36,[.own 5 72 k3 2 false],false)] []) n Tryz.func127 rfl nl
def zW(n:Nat):Mb:=⟨⟨[.val true [S7],.val false [I],.val true [I,I,I]],[(true,Y4)]⟩,u5 (N.SX n)⟩
theorem pY(n:Nat):FO 99 (zW n):=mk UN n Tryz.func99 rfl (cn (gL n) (cn (sJ n) nl))
def xA(n:Nat):Mb:=⟨⟨[.val true [S7],.val false [I],.val false [I],.val false [I]],[(true,Y4),(false,RA)]⟩,u4 (N.Zu n)⟩
theorem tP(n:Nat):FO 176 (xA n):=mk UN n Tryz.func176 rfl (cn (gL n) (cn (pX n) (cn (pY n) nl)))
def xB(n:Nat):Mb:=⟨⟨[.val true [S7],.val false [I],.val false [I],.val false [I]],[(true,Y4),(false,RA)]⟩,u4 (N.XC n)⟩
theorem tQ(n:Nat):FO 177 (xB n):=mk UN n Tryz.func177 rfl (cn (gL n) (cn (pX n) (cn (pY n) nl)))
def xC(n:Nat):Mb:=⟨⟨[.val true [S7],.val false [I],.val false [I],.val false [I]],[(true,Y4),(false,RA)]⟩,u4 (N.XE n)⟩
theorem tR(n:Nat):FO 178 (xC n):=mk UN n Tryz.func178 rfl (cn (gL n) (cn (pX n) (cn (pY n) nl)))
def wx(n:Nat):Mb:=⟨⟨[.val true [S7],.val false [jQ],.val false [I]],[(true,Y4),(false,QM)]⟩,u3 (N.SM n)⟩
theorem oP(n:Nat):FO 161 (wx n):=mk (Vw [] [(0,[.slot 9 I,.box 6 [some (S7,2)],.box 8 [some (S7,2)]],true)] [(24,[.slot 11 I,.box 8 [some (S7,2)]],false)] []) n Tryz.func161 rfl (cn (gL n) (cn (tP n) (cn (tQ n) (cn (tR n) nl))))
def wT(n:Nat):Mb:=⟨⟨[.val true [S7],.val false [jQ]],[(true,Y4),(false,QM)]⟩,u2 (N.W9 n)⟩
theorem sY(n:Nat):FO 141 (wT n):=mk UN n Tryz.func141 rfl (cn (oP n) nl)
def vp(n:Nat):Mb:=⟨⟨[.val true [S7],.val true bK,.val false [I],.val false [nY]],[(true,Y4),(true,kM),(false,RA)]⟩,u5 (N.TM n)⟩
theorem sB(n:Nat):FO 110 (vp n):=mk UN n Tryz.func110 rfl (cn (jz n) (cn (oR n) (cn (ZY n) (cn (gL n) (cn (oV n) (cn (sX n) (cn (sY n) nl)))))))
def vq(n:Nat):Mb:=⟨⟨[.val true nP],[(false,[(YM,2)])]⟩,u5 (N.XF n)⟩
theorem sC(n:Nat):FO 111 (vq n):=mk (Vh [(0,[.own 3 65 k5 2 false,.slot 5 I],false)]) n Tryz.func111 rfl (cn (qz n) nl)
def yi(n:Nat):Mb:=⟨⟨[.val true Y3,.val false [I],.val false [nY]],[(true,dY),(false,RA)]⟩,xf (N.Zv n)⟩
theorem vP(n:Nat):FO 59 (yi n):=mk (Vw [] [] [(18,[.box 9 [some (I,0),some (ZH,0)]],false)] []) n Tryz.func59 rfl (cn (uc n) (cn (qy n) (cn (r9 n) (cn (sA n) (cn (sB n) (cn (sC n) nl))))))
def wU(n:Nat):Mb:=⟨⟨[.val true [S7],.val false [jQ]],[(true,Y4),(false,QM)]⟩,u2 (N.Ub n)⟩
theorem sZ(n:Nat):FO 142 (wU n):=mk UN n Tryz.func142 rfl (cn (oP n) nl)
def vu(n:Nat):Mb:=⟨⟨[.val true [S7],.val true bK,.val false [I]],[(true,Y4),(true,kM),(false,QM)]⟩,u4 (N.WJ n)⟩
theorem sD(n:Nat):FO 113 (vu n):=mk UN n Tryz.func113 rfl (cn (jz n) (cn (oR n) (cn (mu n) (cn (gL n) (cn (oV n) (cn (sZ n) nl))))))
def ym(n:Nat):Mb:=⟨⟨[.val true Y3,.val false [I]],[(true,dY),(false,QM)]⟩,uf (N.Zt n)⟩
theorem vS(n:Nat):FO 62 (ym n):=mk (Vw [] [(0,[.slot 8 I,.own 9 65 k5 2 false,.slot 10 I,.box 4 [some (I,0),some (I,0),some (Px,2),some (S7,2),some (I,0),some (ZH,2),some (T4,2),some (YM,2),some (Px,2),some (Px,2),some (I,0)],.box 6 [some (I,0),some (I,0),some (Px,2),some (S7,2),some (I,0),some (ZH,2),some (T4,2),some (YM,2),some (Px,2),some (Px,2),some (I,0)]],true)] [(7,[.slot 8 I,.own 9 65 k5 2 false,.box 4 [some (I,0),some (I,0),some (Px,2),some (S7,2),some (I,0),some (ZH,2),some (T4,2),some (YM,2),some (Px,2),some (Px,2),some (I,0)],.box 6 [some (I,0),some (I,0),some (Px,2),some (S7,2),some (I,0),some (ZH,2),some (T4,2),some (YM,2),some (Px,2),some (Px,2),some (I,0)]],true)] []) n Tryz.func62 rfl (cn (uc n) (cn (qy n) (cn (mu n) (cn (qz n) (cn (sD n) nl)))))
def yg(n:Nat):Mb:=⟨⟨[.val true [S7],.val false [I],.val false [I],.val false [I]],[(true,Y4),(false,RA)]⟩,u4 (N.Yz n)⟩
theorem vM(n:Nat):FO 56 (yg n):=mk UN n Tryz.func56 rfl (cn (gL n) (cn (pX n) (cn (pY n) nl)))
def yG(n:Nat):Mb:=⟨⟨[.val true Y3,.val false [I],.val false [I],.val false [I]],[(true,dY),(false,RA)]⟩,za (N.XD n)⟩
theorem vB(n:Nat):FO 21 (yG n):=mk UN n Tryz.func21 rfl (cn (uc n) (cn (qy n) (cn (vM n) nl)))
def wV(n:Nat):Mb:=⟨⟨[.val false [T4],.val false [YM]],[(false,Vv)]⟩,u2 (N.XH n)⟩
theorem sd(n:Nat):FO 143 (wV n):=mk (Vw [] [(0,[.own 5 3 (.one I) 2 false,.slot 6 I],false),(2,[.slot 7 .bool,.slot 8 I],false)] [(7,[.own 5 3 (.one I) 2 false],false)] []) n Tryz.func143 rfl nl
def wW(n:Nat):Mb:=⟨⟨[.val true [S7],.val false [YM],.val false [I]],[(false,Vv)]⟩,u3 (N.WL n)⟩
theorem sg(n:Nat):FO 144 (wW n):=mk (Vw [] [(0,[.own 8 3 (.one I) 2 false,.slot 9 I],false),(2,[.own 7 3 (.one I) 2 false,.own 8 3 (.one I) 2 false,.slot 10 I],false)] [(7,[.own 8 3 (.one I) 2 false],false),(13,[.own 7 3 (.one I) 2 false,.own 8 3 (.one I) 2 false],false)] []) n Tryz.func144 rfl (cn (oU n) (cn (pT n) nl))
def xN(n:Nat):Mb:=⟨⟨[.val true S6,.val false [I]],[(false,Vv)]⟩,u4 N.UL⟩
theorem te(n:Nat):FO 210 (xN n):=mk (Vw [] [] [(15,[.own 5 3 (.one I) 2 false],false),(21,[.own 5 3 (.one I) 2 false],false),(27,[.own 5 3 (.one I) 2 false],false),(33,[.own 5 3 (.one I) 2 false],false)] []) n Tryz.func210 rfl nl
def xL(n:Nat):Mb:=⟨⟨[.val true S6,.val false [I],.val false [.bool]],[(false,Vv)]⟩,u5 (N.Wb n)⟩
theorem qS(n:Nat):FO 207 (xL n):=mk (Vw [] [(0,[.own 7 3 (.one I) 2 false,.slot 9 I],false)] [(7,[.own 7 3 (.one I) 2 false],false)] []) n Tryz.func207 rfl (cn (te n) nl)
def xJ(n:Nat):Mb:=⟨⟨[.val true S6,.val false [I],.val false [.bool]],[(false,Vv)]⟩,u5 (N.Tt n)⟩
theorem qR(n:Nat):FO 192 (xJ n):=mk (Vw [] [(0,[.own 7 3 (.one I) 2 false,.slot 8 I],false),(2,[.own 9 3 (.one I) 2 false,.slot 10 I,.own 7 3 (.one I) 2 false],false),(4,[.own 9 3 (.one I) 2 false,.slot 13 I,.own 7 3 (.one I) 2 false],false)] [(13,[.own 9 3 (.one I) 2 false,.own 7 3 (.one I) 2 false],false),(19,[.own 9 3 (.one I) 2 false,.own 7 3 (.one I) 2 false],false)] []) n Tryz.func192 rfl (cn (qS n) nl)
def xD(n:Nat):Mb:=⟨⟨[.val true S6,.val false [I],.val false [.bool]],[(false,Vv)]⟩,u5 (N.Xl n)⟩
theorem tS(n:Nat):FO 179 (xD n):=mk UN n Tryz.func179 rfl (cn (oO n) (cn (qR n) nl))
def wy(n:Nat):Mb:=⟨⟨[.val true S6,.val false [I],.val false [I]],[(false,RA)]⟩,u5 (N.TO n)⟩
theorem tF(n:Nat):FO 162 (wy n):=mk UN n Tryz.func162 rfl (cn (oO n) (cn (tS n) nl))
def wX(n:Nat):Mb:=⟨⟨[.val true S6,.val false [I],.val false [I]],[(false,RA)]⟩,u5 (N.XG n)⟩
theorem si(n:Nat):FO 145 (wX n):=mk UN n Tryz.func145 rfl (cn (tF n) nl)
def wz(n:Nat):Mb:=⟨⟨[.val false kL],[(false,QM)]⟩,N.W8 n⟩
theorem tG(n:Nat):FO 163 (wz n):=mk (Vh [(0,[.slot 3 I],true),(2,[.slot 4 I],true)]) n Tryz.func163 rfl (cn (ZY n) nl)
def xE(n:Nat):Mb:=⟨⟨[.val false kL,.row false Vv,.row false Vv,.row false Vv,.val false [I]],[]⟩,u5 (N.YD n)⟩
theorem tT(n:Nat):FO 180 (xE n):=mk (Vw [] [(0,[.slot 14 I,.own 11 3 (.one I) 2 false],false),(2,[.slot 15 I,.own 1 3 (.one I) 2 true,.own 2 3 (.one I) 2 true,.own 11 3 (.one I) 2 false,.own 12 3 (.one I) 2 false,.own 13 4 (.one .bool) 2 false],false),(4,[.slot 17 I,.slot 18 I,.slot 19 I,.own 11 3 (.one I) 2 false,.own 12 3 (.one I) 2 false],false),(6,[.slot 21 I,.own 1 3 (.one I) 2 true,.own 2 3 (.one I) 2 true,.own 11 3 (.one I) 2 false],false),(8,[.slot 15 I,.own 3 3 (.one I) 2 true],false)] [(19,[.slot 17 I,.slot 18 I,.own 11 3 (.one I) 2 false,.own 12 3 (.one I) 2 false],false),(25,[.own 1 3 (.one I) 2 true,.own 2 3 (.one I) 2 true,.own 11 3 (.one I) 2 false],false),(57,[.own 11 3 (.one I) 2 false,.own 12 3 (.one I) 2 false],false)] []) n Tryz.func180 rfl nl
def w4(n:Nat):Mb:=⟨⟨[.val false kL],[(false,RA)]⟩,N.SV n⟩
theorem tH(n:Nat):FO 164 (w4 n):=mk (Vw [] [(0,[.slot 8 I,.own 5 3 (.one I) 2 false,.own 6 3 (.one I) 2 false,.own 7 3 (.one I) 2 false],false),(2,[.slot 9 I,.slot 10 I],false)] [(13,[.slot 9 I],false)] []) n Tryz.func164 rfl (cn (tT n) nl)
def w5(n:Nat):Mb:=⟨⟨[.val false kL,.val false [I]],[(false,[((.sl 24 (.one Px)),0)])]⟩,u2 (N.SH n)⟩
theorem tI(n:Nat):FO 165 (w5 n):=mk (Vh [(0,[.own 5 24 (.one Px) 2 false,.slot 6 I],false)]) n Tryz.func165 rfl nl
def wY(n:Nat):Mb:=⟨⟨[.val false kL],[(false,Vv),(false,RA)]⟩,N.Vt n⟩
theorem sj(n:Nat):FO 146 (wY n):=mk (Vh [(0,[.own 8 3 (.one I) 2 false,.slot 9 I],false),(2,[.own 4 3 (.one I) 2 false,.slot 6 I,.slot 7 (.sl 24 (.one Px)),.own 8 3 (.one I) 2 false],false),(4,[.own 4 3 (.one I) 2 false,.slot 6 I,.slot 7 (.sl 24 (.one Px)),.own 8 3 (.one I) 2 false,.slot 10 I],false)]) n Tryz.func146 rfl (cn (tG n) (cn (tH n) (cn (tI n) nl)))
def vw(n:Nat):Mb:=⟨⟨[.val true S6,.val true [S7],.val false [T4],.val false [YM]],[(false,[(T4,2)]),(false,[(YM,2)])]⟩,u6 (N.WB n)⟩
theorem sE(n:Nat):FO 114 (vw n):=mk (Vw [] [(0,[.own 14 24 (.one Px) 2 false,.slot 15 I],false),(2,[.own 16 3 (.one I) 2 false,.slot 17 I],false),(4,[.slot 20 I,.own 10 43 k6 2 false,.own 11 65 k5 2 false],false)] [(19,[.own 10 43 k6 2 false,.own 11 65 k5 2 false],false)] []) n Tryz.func114 rfl (cn (jz n) (cn (qw n) (cn (tu n) (cn (oU n) (cn (sd n) (cn (sg n) (cn (si n) (cn (sj n) nl))))))))
def xF(n:Nat):Mb:=⟨⟨[.val true S6,.val true lV],[(false,Vv)]⟩,u8 (N.Tv n)⟩
theorem tU(n:Nat):FO 181 (xF n):=mk UN n Tryz.func181 rfl (cn (qR n) nl)
def xG(n:Nat):Mb:=⟨⟨[.val false [T4]],[(false,Vv)]⟩,N.Xo n⟩
theorem tV(n:Nat):FO 182 (xG n):=mk (Vh [(0,[.own 3 3 (.one I) 2 false,.slot 4 I],false),(2,[.slot 5 I,.own 3 3 (.one I) 2 false],false)]) n Tryz.func182 rfl nl
def xO(n:Nat):Mb:=⟨⟨[.val true lV,.val false [Px],.val false [I]],[(false,RA)]⟩,u7 N.Uz⟩
theorem tn(n:Nat):FO 211 (xO n):=mk UN n Tryz.func211 rfl nl
def xM(n:Nat):Mb:=⟨⟨[.val true lV,.val false [Px],.val false [I],.val false [I]],[(false,QM)]⟩,u8 N.WO⟩
theorem td(n:Nat):FO 208 (xM n):=mk UN n Tryz.func208 rfl (cn (tn n) nl)
def uP(n:Nat):Mb:=⟨⟨[.val true S6,.val true lV,.val false [Px]],[(false,Vv)]⟩,u9 (N.SJ n)⟩
theorem tY(n:Nat):FO 193 (uP n):=mk (Vw [] [(0,[.own 7 3 (.one I) 2 false,.slot 9 I],false),(2,[.own 10 3 (.one I) 2 false,.slot 11 I],false),(4,[.slot 12 I,.own 10 3 (.one I) 2 false],false)] [(7,[.own 7 3 (.one I) 2 false],false)] []) n Tryz.func193 rfl (cn (qS n) (cn (td n) nl))
def uQ(n:Nat):Mb:=⟨⟨[.box uU,.val false [I]],[(false,RA)]⟩,u7 (N.Xr n)⟩
theorem tZ(n:Nat):FO 194 (uQ n):=mk (Vh [(0,[.slot 5 I],true)]) n Tryz.func194 rfl nl
def nF(n:Nat):Mb:=⟨⟨[.box uU,.val false [I],.val false [I]],[(false,QM)]⟩,u8 (N.Qq n)⟩
def qC:An:=Vw [(10,[.slot 72 .bool,.box 0 [some (I,0),some (I,0),some (Px,0),some (T4,0),some ((.sl 24 (.one Px)),2),some (Px,2)]])] [(0,[.slot 9 I,.box 0 [some (I,0),some (I,0),some (Px,0),some (T4,0),some ((.sl 24 (.one Px)),2),some (Px,2)]],true)] [(7,[.box 0 [some (I,0),some (I,0),some (Px,0),some (T4,0),some ((.sl 24 (.one Px)),2),some (Px,2)]],true)] []
theorem rf(n:Nat)(x:(nF n).s.ins.D):Lq (find tbl) (plain [(69,xd n),(183,nF n),(193,uP n),(194,uQ n)]) qC n Tryz.f183 (nF n).s x=N.Qq (n+1) x.1 x.2.1 x.2.2.1 x.2.2.2.1 x.2.2.2.2.1 x.2.2.2.2.2.1 x.2.2.2.2.2.2.1 x.2.2.2.2.2.2.2:=by kernel_rfl
theorem tW(n:Nat):FO 183 (nF n):=by
 induction n with
 |zero=>exact⟨OM,_,_,Tryz.func183,rfl,by kernel_rfl⟩
 |succ n ih=>exact mk (an:=qC) (n:=n) (sm:=(nF n).s) (F:=λ(x:(nF n).s.ins.D)=>N.Qq (n+1) x.1 x.2.1 x.2.2.1 x.2.2.2.1 x.2.2.2.2.1 x.2.2.2.2.2.1 x.2.2.2.2.2.2.1 x.2.2.2.2.2.2.2) Tryz.func183 rfl (cn (pT n) (cn ih (cn (tY n) (cn (tZ n) nl)))) (rf n)
def w6(n:Nat):Mb:=⟨⟨[.val true S6,.val false [T4]],[(false,Vv)]⟩,u4 (N.YE n)⟩
theorem tJ(n:Nat):FO 166 (w6 n):=mk (Vw [] [(0,[.slot 6 I,.box 12 [some (I,0),some (I,0),some (Px,0),some (T4,0),some ((.sl 24 (.one Px)),2),some (Px,2)]],false),(2,[.slot 8 I,.box 12 [some (I,0),some (I,0),some (Px,0),some (T4,0),some ((.sl 24 (.one Px)),2),some (Px,2)]],false)] [(13,[.box 12 [some (I,0),some (I,0),some (Px,0),some (T4,0),some ((.sl 24 (.one Px)),2),some (Px,2)]],false)] []) n Tryz.func166 rfl (cn (tU n) (cn (tV n) (cn (tW n) nl)))
def wZ(n:Nat):Mb:=⟨⟨[.val true S6,.val false [T4]],[(false,[(T4,2)])]⟩,u4 (N.Vc n)⟩
theorem sn(n:Nat):FO 147 (wZ n):=mk (Vw [] [(0,[.own 6 43 k6 2 false,.slot 7 I],false)] [(10,[.box 8 [some (I,0),some (I,0),some (I,0),some (.bool,0),some (I,0)]],false)] []) n Tryz.func147 rfl (cn (tJ n) nl)
def vx(n:Nat):Mb:=⟨⟨[.val true S6,.val false [T4]],[(false,[(T4,2)])]⟩,u4 (N.W7 n)⟩
theorem sF(n:Nat):FO 115 (vx n):=mk UN n Tryz.func115 rfl (cn (qw n) (cn (sn n) nl))
def wa(n:Nat):Mb:=⟨⟨[.val true bK,.val false [I]],[(true,pr),(false,QM)]⟩,u3 (N.XA n)⟩
theorem sq(n:Nat):FO 148 (wa n):=mk UN n Tryz.func148 rfl (cn (mu n) (cn (oM n) nl))
def wb(n:Nat):Mb:=⟨⟨[.val true nP,.val false [I]],[(false,[(jQ,2)])]⟩,u6 (N.XB n)⟩
theorem ss(n:Nat):FO 149 (wb n):=mk (Vw [] [(0,[.own 5 117 k3 2 false,.slot 6 I],false)] [(7,[.own 5 117 k3 2 false],false)] []) n Tryz.func149 rfl nl
def wc(n:Nat):Mb:=⟨⟨[.val true [S7],.val false [jQ]],[(true,Y4),(false,QM)]⟩,u2 (N.Y0 n)⟩
theorem sv(n:Nat):FO 150 (wc n):=mk UN n Tryz.func150 rfl (cn (oP n) nl)
def vy(n:Nat):Mb:=⟨⟨[.box uT,.box [(I,0),(I,0),(I,0),(I,0)]],[(false,QM)]⟩,rS (N.XK n)⟩
theorem sG(n:Nat):FO 116 (vy n):=mk (Vw [] [(1,[.slot 11 I,.box 0 [some (I,0),some (I,0),some (Px,2),some (S7,2),some (I,0),some (ZH,2),some (T4,2),some (YM,0),some (Px,2),some (Px,2),some (I,0)]],false)] [(10,[.box 0 [some (I,0),some (I,0),some (Px,2),some (S7,2),some (I,0),some (ZH,2),some (T4,2),some (YM,0),some (Px,2),some (Px,2),some (I,0)]],false),(12,[.box 0 [some (I,0),some (I,0),some (Px,2),some (S7,2),some (I,0),some (ZH,2),some (T4,2),some (YM,0),some (Px,2),some (Px,2),some (I,0)],.box 1 [some (I,0),some (I,0),some (I,0),some (I,0)]],true)] []) n Tryz.func116 rfl (cn (rA n) (cn (uA n) (cn (sq n) (cn (ss n) (cn (sv n) nl)))))
def vz(n:Nat):Mb:=⟨⟨[.val true bK,.val false [I]],[(true,kM),(false,QM)]⟩,u3 (N.X6 n)⟩
theorem sH(n:Nat):FO 117 (vz n):=mk UN n Tryz.func117 rfl (cn (oR n) (cn (mu n) (cn (oV n) nl)))
def yn(n:Nat):Mb:=⟨⟨[.box uT],[]⟩,nZ (N.XM n)⟩
theorem vT(n:Nat):FO 63 (yn n):=mk (Vw [(10,[.slot 93 .bool,.box 0 [some (I,0),some (I,0),some (Px,2),some (S7,2),some (I,0),some (ZH,2),some (T4,2),some (YM,0),some (Px,2),some (Px,2),some (I,0)],.box 7 [some (I,0),some (I,0),some (I,0),some (I,0)]])] [(0,[.own 4 65 k5 2 false,.own 5 3 (.one I) 2 false,.slot 6 I,.box 0 [some (I,0),some (I,0),some (Px,2),some (S7,2),some (I,0),some (ZH,2),some (T4,2),some (YM,0),some (Px,2),some (Px,2),some (I,0)]],false),(2,[.slot 9 I,.box 0 [some (I,0),some (I,0),some (Px,2),some (S7,2),some (I,0),some (ZH,2),some (T4,2),some (YM,0),some (Px,2),some (Px,2),some (I,0)]],false),(4,[.slot 10 .bool,.slot 11 I],false)] [(7,[.own 4 65 k5 2 false,.own 5 3 (.one I) 2 false,.box 0 [some (I,0),some (I,0),some (Px,2),some (S7,2),some (I,0),some (ZH,2),some (T4,2),some (YM,0),some (Px,2),some (Px,2),some (I,0)]],false),(13,[.box 0 [some (I,0),some (I,0),some (Px,2),some (S7,2),some (I,0),some (ZH,2),some (T4,2),some (YM,0),some (Px,2),some (Px,2),some (I,0)]],false)] [(13,[4])]) n Tryz.func63 rfl (cn (rA n) (cn (sE n) (cn (sF n) (cn (sG n) (cn (sH n) nl)))))
def yK(n:Nat):Mb:=⟨⟨[.box dZ,.val false [I]],[(true,uV)]⟩,u4 (N.XJ n)⟩
theorem vF(n:Nat):FO 27 (yK n):=mk (Vw [] [(0,[.slot 6 I,.box 0 [some (jP,0),some (I,0),some (I,0)],.box 5 [some (I,0),some (I,0),some (Px,2),some (S7,2),some (I,0),some (ZH,2),some (T4,2),some (YM,0),some (Px,2),some (Px,2),some (I,0)]],false),(3,[.slot 7 I,.box 5 [some (I,0),some (I,0),some (Px,2),some (S7,2),some (I,0),some (ZH,2),some (T4,2),some (YM,0),some (Px,2),some (Px,2),some (I,0)]],false)] [(7,[.box 0 [some (jP,0),some (I,0),some (I,0)],.box 5 [some (I,0),some (I,0),some (Px,2),some (S7,2),some (I,0),some (ZH,2),some (T4,2),some (YM,0),some (Px,2),some (Px,2),some (I,0)]],false),(33,[.slot 26 .bool],false)] [(12,[5])]) n Tryz.func27 rfl (cn (vB n) (cn (mr n) (cn (vO n) (cn (vP n) (cn (vQ n) (cn (vR n) (cn (vS n) (cn (vT n) nl))))))))
def s7(n:Nat):Mb:=⟨⟨[.val false [jP]],[(true,uV)]⟩,N.VT n⟩
theorem xw(n:Nat):FO 7 (s7 n):=mk UN n Tryz.func7 rfl (cn (vE n) (cn (vF n) (cn (vG n) nl)))
def ya(n:Nat):Mb:=⟨⟨[.val false [I],.val false [I],.val false [I]],[(false,QM)]⟩,u3 N.PU⟩
theorem ZZ(n:Nat):FO 43 (ya n):=mk UN n Tryz.func43 rfl nl
def yU(n:Nat):Mb:=⟨⟨[.val true S6],[(false,QM)]⟩,u3 (N.SO n)⟩
theorem oS(n:Nat):FO 37 (yU n):=mk (Vh [(0,[.slot 29 I],true)]) n Tryz.func37 rfl (cn (ZZ n) nl)
def yx(n:Nat):Mb:=⟨⟨[.val true [I,I,pq]],[(false,QM)]⟩,u3 (N.Yr n)⟩
theorem vX(n:Nat):FO 73 (yx n):=mk (Vh [(0,[.slot 24 I],true)]) n Tryz.func73 rfl (cn (ZZ n) nl)
def yV(n:Nat):Mb:=⟨⟨[.val true [S7]],[(false,QM)]⟩,N.Qy n⟩
theorem pR(n:Nat):FO 38 (yV n):=mk (Vh [(0,[.slot 10 I],true),(2,[.slot 39 I],true)]) n Tryz.func38 rfl (cn (vX n) nl)
def yz(n:Nat):Mb:=⟨⟨[.val false [nY]],[(false,QM)]⟩,N.SP n⟩
theorem vY(n:Nat):FO 74 (yz n):=mk (Vh [(0,[.slot 7 I],true)]) n Tryz.func74 rfl (cn (ZZ n) nl)
def wA(n:Nat):Mb:=⟨⟨[.val false [nY]],[(false,[(nY,2)])]⟩,N.QR⟩
theorem qK(n:Nat):FO 120 (wA n):=mk UN n Tryz.func120 rfl nl
def zA(n:Nat):Mb:=⟨⟨[.val false [jQ],.val false [nY]],[(false,QM)]⟩,u2 (N.VK n)⟩
theorem vZ(n:Nat):FO 75 (zA n):=mk (Vh [(0,[.slot 16 I,.own 5 144 k1 2 false],true),(2,[.slot 8 .bool,.slot 22 I,.own 5 144 k1 2 false],false),(4,[.slot 59 I],true)]) n Tryz.func75 rfl (cn (ZZ n) (cn (qK n) nl))
def yW(n:Nat):Mb:=⟨⟨[.val true bK],[(false,QM)]⟩,u2 (N.Q4 n)⟩
theorem tv(n:Nat):FO 39 (yW n):=mk (Vh [(0,[.slot 18 I],true)]) n Tryz.func39 rfl (cn (ZZ n) (cn (vY n) (cn (vZ n) nl)))
def we(n:Nat):Mb:=⟨⟨[.val true S6,.val false [I]],[(false,QM)]⟩,u4 N.TH⟩
theorem qN(n:Nat):FO 151 (we n):=mk UN n Tryz.func151 rfl (cn (ZZ n) nl)
def wB(n:Nat):Mb:=⟨⟨[.val true S6,.val false [I]],[(false,RA)]⟩,u4 (N.Q5 n)⟩
theorem qL(n:Nat):FO 121 (wB n):=mk UN n Tryz.func121 rfl (cn (oS n) (cn (qN n) nl))
def zB(n:Nat):Mb:=⟨⟨[.val true S6,.val true lV],[(false,QM)]⟩,u8 (N.Rn n)⟩
theorem uB(n:Nat):FO 76 (zB n):=mk UN n Tryz.func76 rfl (cn (qL n) nl)
def yX(n:Nat):Mb:=⟨⟨[.val true S6,.val false [T4]],[(false,QM)]⟩,u4 (N.SL n)⟩
theorem oT(n:Nat):FO 40 (yX n):=mk (Vh [(0,[.slot 19 I],true),(2,[.slot 59 I],true)]) n Tryz.func40 rfl (cn (oS n) (cn (ZZ n) (cn (uB n) nl)))
def yY(n:Nat):Mb:=⟨⟨[.val false [YM]],[(false,QM)]⟩,N.VE n⟩
theorem tw(n:Nat):FO 41 (yY n):=mk (Vh [(0,[.slot 10 I],true),(2,[.slot 51 I],true)]) n Tryz.func41 rfl (cn (ZZ n) nl)
def yZ(n:Nat):Mb:=⟨⟨[.val false [Px]],[(false,QM)]⟩,N.T9 n⟩
theorem vJ(n:Nat):FO 42 (yZ n):=mk (Vh [(0,[.slot 7 I],true)]) n Tryz.func42 rfl (cn (ZZ n) nl)
def zC(n:Nat):Mb:=⟨⟨[.val true bK,.val false [I]],[(false,RA)]⟩,u3 (N.Qo n)⟩
theorem pU(n:Nat):FO 77 (zC n):=mk (Vh [(0,[.slot 10 I],true)]) n Tryz.func77 rfl nl
def zD(n:Nat):Mb:=⟨⟨[.val true [S7],.val false [I]],[(false,RA)]⟩,u2 (N.SQ n)⟩
theorem mv(n:Nat):FO 78 (zD n):=mk (Vh [(0,[.slot 10 I],true)]) n Tryz.func78 rfl nl
def zE(n:Nat):Mb:=⟨⟨[.val false [Px],.val false [I]],[(false,QM)]⟩,u2 (N.QZ n)⟩
theorem mw(n:Nat):FO 79 (zE n):=mk (Vh [(0,[.slot 9 I],true)]) n Tryz.func79 rfl nl
def zF(n:Nat):Mb:=⟨⟨[.val false [jQ]],[(false,Vv)]⟩,N.WV n⟩
theorem va(n:Nat):FO 80 (zF n):=mk (Vw [] [(0,[.own 3 3 (.one I) 2 false,.slot 8 I],false)] [(7,[.own 3 3 (.one I) 2 false],false)] []) n Tryz.func80 rfl (cn (mw n) nl)
def zG(n:Nat):Mb:=⟨⟨[.val false [T4],.val false [I]],[(false,RA)]⟩,u2 (N.Rd n)⟩
theorem rB(n:Nat):FO 81 (zG n):=mk (Vh [(0,[.slot 9 I],true)]) n Tryz.func81 rfl nl
def zH(n:Nat):Mb:=⟨⟨[.val true Y3,.val true [I,I,I,I]],[(false,RA)]⟩,rS (N.TG n)⟩
theorem uC(n:Nat):FO 82 (zH n):=mk UN n Tryz.func82 rfl (cn (pU n) (cn (mv n) nl))
def yb(n:Nat):Mb:=⟨⟨[.val true Y3,.val true [I,I,I,I]],[(false,QM)]⟩,rS (N.TI n)⟩
theorem vK(n:Nat):FO 44 (yb n):=mk UN n Tryz.func44 rfl (cn (pU n) (cn (mv n) (cn (mw n) (cn (va n) (cn (rB n) (cn (uC n) nl))))))
def s9(n:Nat):Mb:=⟨⟨[.val true Y3],[(false,QM)]⟩,nZ (N.Qw n)⟩
theorem vd(n:Nat):FO 9 (s9 n):=mk (Vh [(0,[.slot 56 I],true)]) n Tryz.func9 rfl (cn (oS n) (cn (pR n) (cn (tv n) (cn (oT n) (cn (tw n) (cn (vJ n) (cn (ZZ n) (cn (vK n) nl))))))))
def yA(n:Nat):Mb:=⟨⟨[.val false [jP],.val false [I]],[(false,RA)]⟩,u2 N.dp⟩
theorem uz(n:Nat):FO 11 (yA n):=mk UN n Tryz.func11 rfl nl
def zN(n:Nat):Mb:=⟨⟨[.val false [Px]],[(false,Vv)]⟩,N.Sr⟩
theorem uE(n:Nat):FO 88 (zN n):=mk UN n Tryz.func88 rfl nl
def zI(n:Nat):Mb:=⟨⟨[.val true S6],[(true,pt)]⟩,u3 N.VF⟩
theorem vb(n:Nat):FO 83 (zI n):=mk UN n Tryz.func83 rfl (cn (uE n) nl)
def zJ(n:Nat):Mb:=⟨⟨[.val true [S7]],[(true,Y4)]⟩,N.Pt n⟩
theorem pV(n:Nat):FO 84 (zJ n):=mk (Vh [(0,[.slot 9 I,.box 3 [some (S7,2)]],false)]) n Tryz.func84 rfl nl
def wg(n:Nat):Mb:=⟨⟨[.val false [jQ]],[(false,[(jQ,2)])]⟩,N.XZ⟩
theorem sw(n:Nat):FO 152 (wg n):=mk UN n Tryz.func152 rfl nl
def wC(n:Nat):Mb:=⟨⟨[.val true nP],[(true,pr)]⟩,u5 N.Rz⟩
theorem qM(n:Nat):FO 122 (wC n):=mk UN n Tryz.func122 rfl (cn (qK n) (cn (sw n) nl))
def zK(n:Nat):Mb:=⟨⟨[.val true bK],[(true,kM)]⟩,u2 (N.Ql n)⟩
theorem uD(n:Nat):FO 85 (zK n):=mk (Vh [(0,[.slot 12 I,.box 3 [some (I,0),some (ZH,2)]],false)]) n Tryz.func85 rfl (cn (qM n) nl)
def zL(n:Nat):Mb:=⟨⟨[.val false [T4]],[(false,[(T4,2)])]⟩,N.Qm⟩
theorem rC(n:Nat):FO 86 (zL n):=mk UN n Tryz.func86 rfl nl
def zM(n:Nat):Mb:=⟨⟨[.val false [YM]],[(false,[(YM,2)])]⟩,N.QS⟩
theorem rD(n:Nat):FO 87 (zM n):=mk UN n Tryz.func87 rfl nl
def yc(n:Nat):Mb:=⟨⟨[.val true Y3],[(true,dY)]⟩,nZ (N.RF n)⟩
theorem tz(n:Nat):FO 45 (yc n):=mk UN n Tryz.func45 rfl (cn (vb n) (cn (pV n) (cn (uD n) (cn (rC n) (cn (rD n) (cn (uE n) nl))))))
def wG(n:Nat):Mb:=⟨⟨[.val false [T4],.val false [YM]],[(false,Vv)]⟩,u2 (N.Zq n)⟩
theorem sK(n:Nat):FO 128 (wG n):=mk (Vw [] [(0,[.own 5 3 (.one I) 2 false,.slot 13 I],false),(2,[.slot 8 .bool,.slot 33 I],false)] [(7,[.own 5 3 (.one I) 2 false],false)] []) n Tryz.func128 rfl nl
def wH(n:Nat):Mb:=⟨⟨[.val true [S7],.val false [YM],.val false [I]],[(false,Vv)]⟩,u3 (N.Ys n)⟩
theorem sL(n:Nat):FO 129 (wH n):=mk (Vw [] [(0,[.own 8 3 (.one I) 2 false,.slot 15 I],false),(2,[.own 7 3 (.one I) 2 false,.own 8 3 (.one I) 2 false,.slot 30 I],false)] [(7,[.own 8 3 (.one I) 2 false],false),(13,[.own 7 3 (.one I) 2 false,.own 8 3 (.one I) 2 false],false)] []) n Tryz.func129 rfl (cn (mv n) (cn (mw n) nl))
def xH(n:Nat):Mb:=⟨⟨[.val true S6,.val false [I]],[(false,Vv)]⟩,u4 N.Xx⟩
theorem qQ(n:Nat):FO 184 (xH n):=mk (Vw [] [] [(12,[.own 5 3 (.one I) 2 false],false),(18,[.own 5 3 (.one I) 2 false],false),(24,[.own 5 3 (.one I) 2 false],false),(30,[.own 5 3 (.one I) 2 false],false)] []) n Tryz.func184 rfl nl
def w7(n:Nat):Mb:=⟨⟨[.val true S6,.val false [I],.val false [.bool]],[(false,Vv)]⟩,u5 (N.YY n)⟩
theorem qP(n:Nat):FO 167 (w7 n):=mk (Vw [] [(0,[.own 7 3 (.one I) 2 false,.slot 15 I],false)] [(7,[.own 7 3 (.one I) 2 false],false)] []) n Tryz.func167 rfl (cn (qQ n) nl)
def wh(n:Nat):Mb:=⟨⟨[.val true S6,.val false [I],.val false [.bool]],[(false,Vv)]⟩,u5 (N.Ul n)⟩
theorem qO(n:Nat):FO 153 (wh n):=mk (Vw [] [(0,[.slot 19 I,.own 7 3 (.one I) 2 false],false),(2,[.own 9 3 (.one I) 2 false,.own 7 3 (.one I) 2 false],false),(4,[.own 9 3 (.one I) 2 false,.slot 57 I,.own 7 3 (.one I) 2 false],false)] [(19,[.own 9 3 (.one I) 2 false,.own 7 3 (.one I) 2 false],false)] []) n Tryz.func153 rfl (cn (qP n) nl)
def wI(n:Nat):Mb:=⟨⟨[.val true S6,.val false [I],.val false [I]],[(false,RA)]⟩,u5 (N.TF n)⟩
theorem sN(n:Nat):FO 130 (wI n):=mk UN n Tryz.func130 rfl (cn (qL n) (cn (qN n) (cn (qO n) nl)))
def wi(n:Nat):Mb:=⟨⟨[.val false kL],[(false,QM)]⟩,N.Wu n⟩
theorem sx(n:Nat):FO 154 (wi n):=mk (Vh [(0,[.slot 12 I],true),(2,[.slot 33 I],true)]) n Tryz.func154 rfl (cn (ZZ n) nl)
def wj(n:Nat):Mb:=⟨⟨[.val false kL],[(false,[((.sl 24 (.one Px)),2)])]⟩,N.Yp n⟩
theorem sy(n:Nat):FO 155 (wj n):=mk (Vw [] [(0,[.slot 5 I,.own 4 24 (.one Px) 2 false],false),(2,[.slot 45 I,.own 4 24 (.one Px) 2 false],false),(4,[.slot 55 I,.own 4 24 (.one Px) 2 false],false)] [(9,[.slot 3 I],false),(19,[.own 4 24 (.one Px) 2 false],false)] []) n Tryz.func155 rfl nl
def wJ(n:Nat):Mb:=⟨⟨[.val false kL],[(false,Vv),(false,RA)]⟩,N.XX n⟩
theorem sO(n:Nat):FO 131 (wJ n):=mk (Vh [(0,[.own 5 3 (.one I) 2 false,.slot 6 I,.slot 17 I],false),(2,[.own 5 3 (.one I) 2 false,.slot 6 I,.slot 24 I],false)]) n Tryz.func131 rfl (cn (sx n) (cn (sy n) nl))
def vh(n:Nat):Mb:=⟨⟨[.val true S6,.val true [S7],.val false [T4],.val false [YM]],[(false,[(T4,2)]),(false,[(YM,2)])]⟩,u6 (N.Vy n)⟩
theorem ru(n:Nat):FO 100 (vh n):=mk (Vw [] [(0,[.own 14 24 (.one Px) 2 false,.slot 62 I],false),(2,[.own 17 3 (.one I) 2 false,.slot 68 I],false),(4,[.slot 110 I,.own 10 43 k6 2 false,.own 11 65 k5 2 false],false)] [(19,[.own 10 43 k6 2 false,.own 11 65 k5 2 false],false),(48,[.slot 20 I],false)] []) n Tryz.func100 rfl (cn (oS n) (cn (pR n) (cn (oT n) (cn (tw n) (cn (mv n) (cn (rC n) (cn (rD n) (cn (sK n) (cn (sL n) (cn (sN n) (cn (sO n) nl)))))))))))
def wk(n:Nat):Mb:=⟨⟨[.val false [T4]],[(false,Vv)]⟩,N.XY n⟩
theorem sz(n:Nat):FO 156 (wk n):=uv (Vh [(0,[.slot 7 I,.box 3 [some (Px,2)]],false)]) n Tryz.func156 rfl (NK nl o6 (by kernel_rfl):JK Tryz.prog TT (M8 _ 168 169 kD []))
def uM(n:Nat):Mb:=⟨⟨[.val true S6,.val true lV],[(false,Vv)]⟩,u8 (N.Tb n)⟩
theorem tK(n:Nat):FO 170 (uM n):=uv (Vw [] [(0,[.slot 58 I,.box 6 [some (Px,2)]],false)] [(15,[.box 5 [some (Px,2)]],false),(42,[.box 6 [some (Px,2)]],false)] []) n Tryz.func170 rfl (NK (cn (oS n) (cn (uB n) (cn (mw n) (cn (qO n) (cn (qP n) (cn (qQ n) nl)))))) lS (by kernel_rfl):JK Tryz.prog TT (M8 _ 168 190 fL [212]))
def uN(n:Nat):Mb:=⟨⟨[.box rK,.val false [I]],[(false,QM)]⟩,u6 (N.Tj n)⟩
theorem tL(n:Nat):FO 171 (uN n):=mk UN n Tryz.func171 rfl (cn (mw n) nl)
def uO(n:Nat):Mb:=⟨⟨[.box rK,.val false [I],.val false [I]],[(false,RA)]⟩,u7 (N.R0 n)⟩
theorem tM(n:Nat):FO 172 (uO n):=mk (Vh [(0,[.slot 14 I],true)]) n Tryz.func172 rfl nl
def nE(n:Nat):Mb:=⟨⟨[.box rK,.val false [I],.val false [I]],[(false,QM)]⟩,u7 (N.P4 n)⟩
def qB:An:=Vw [(4,[.slot 45 .bool,.box 0 [some (I,0),some (I,0),some (Px,0),some (T4,0),some (Px,2)]]),(7,[.slot 64 .bool,.box 0 [some (I,0),some (I,0),some (Px,0),some (T4,0),some (Px,2)]])] [(0,[.slot 23 I,.box 0 [some (I,0),some (I,0),some (Px,0),some (T4,0),some (Px,2)]],true)] [(7,[.box 0 [some (I,0),some (I,0),some (Px,0),some (T4,0),some (Px,2)]],true)] []
theorem re(n:Nat)(x:(nE n).s.ins.D):Lq (find tbl) (plain [(157,nE n),(170,uM n),(171,uN n),(172,uO n)]) qB n Tryz.f157 (nE n).s x=N.P4 (n+1) x.1 x.2.1 x.2.2.1 x.2.2.2.1 x.2.2.2.2.1 x.2.2.2.2.2.1 x.2.2.2.2.2.2:=by kernel_rfl
theorem tA(n:Nat):FO 157 (nE n):=by
 induction n with
 |zero=>exact⟨OM,_,_,Tryz.func157,rfl,by kernel_rfl⟩
 |succ n ih=>exact mk (an:=qB) (n:=n) (sm:=(nE n).s) (F:=λ(x:(nE n).s.ins.D)=>N.P4 (n+1) x.1 x.2.1 x.2.2.1 x.2.2.2.1 x.2.2.2.2.1 x.2.2.2.2.2.1 x.2.2.2.2.2.2) Tryz.func157 rfl (cn ih (cn (tK n) (cn (tL n) (cn (tM n) nl)))) (re n)
end Go.Proofs.YthlchdmdanagkaaGreat.Ev
