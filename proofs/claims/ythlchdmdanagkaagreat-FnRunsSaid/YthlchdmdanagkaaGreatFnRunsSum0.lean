/- Summaries. Conditions: none. -/
import Derived.Test.YthlchdmdanagkaaGreatLib5
import Derived.Test.YthlchdmdanagkaaGreatFnRunsSort
import Derived.Test.YthlchdmdanagkaaGreatFnRunsNat
import Derived.Test.YthlchdmdanagkaaGreatProg
import Derived.KernelRfl
set_option linter.all false
namespace Go.Proofs.YthlchdmdanagkaaGreat.Ev
open Go Go.Ev Go.Proofs
set_option maxRecDepth 100000
abbrev I:L:=.int .i64
abbrev TT:List (String×Array Value):=[]
def k0:Ls:=(.cons .str (.one (.int .u64)))
def k1:Ls:=(.cons I (.one I))
def k2:Ls:=(.cons .str (.one (.int .u8)))
def k3:Ls:=(.cons I (.cons I (.one I)))
def k4:Ls:=(.cons I (.cons I (.cons .bool (.one (.int .u8)))))
def k5:Ls:=(.cons I (.cons I (.cons I (.one I))))
def k6:Ls:=(.cons I (.cons I (.cons I (.cons .bool (.one I)))))
def k7:Ls:=(.cons I (.cons I (.one (.sl 3 (.one I)))))
def k8:Ls:=(.cons I (.cons I (.one (.sl 72 k3))))
def k9:Ls:=(.cons (.sl 5 (.one (.int .u8))) (.cons I (.one I)))
def k10:Ls:=(.cons I (.cons I (.cons (.sl 144 k1) (.cons (.sl 117 k3) (.one I)))))
def yN:Ls:=(.cons I (.cons I (.cons (.sl 3 (.one I)) (.cons (.sl 43 k6) (.one (.sl 3 (.one I)))))))
def yO:Ls:=(.cons I (.one (.sl 77 k10)))
def yP:Ls:=(.cons I (.cons I (.cons (.sl 3 (.one I)) (.cons (.sl 43 k6) (.cons (.sl 24 (.one (.sl 3 (.one I)))) (.one (.sl 3 (.one I))))))))
def yQ:Ls:=(.cons I (.cons I (.cons (.sl 3 (.one I)) (.cons (.sl 68 k8) (.cons I (.cons (.sl 77 k10) (.cons (.sl 43 k6) (.cons (.sl 65 k5) (.cons (.sl 3 (.one I)) (.cons (.sl 3 (.one I)) (.one I)))))))))))
def tbl:List (Nat×Ty):=[
 (3,⟨false,(.one I),[],false⟩),
 (4,⟨false,(.one .bool),[],false⟩),
 (5,⟨false,(.one (.int .u8)),[],false⟩),
 (9,⟨false,(.one .str),[],false⟩),
 (22,⟨false,(.one (.sl 5 (.one (.int .u8)))),[],false⟩),
 (24,⟨false,(.one (.sl 3 (.one I))),[],false⟩),
 (26,⟨true,k7,[(0,3),(1,3),(2,24)],false⟩),
 (27,⟨false,(.one (.sl 68 k8)),[],false⟩),
 (29,⟨true,(.one (.sl 68 k8)),[(0,27)],false⟩),
 (30,⟨false,(.one (.sl 77 k10)),[],false⟩),
 (32,⟨true,yO,[(0,3),(1,30)],false⟩),
 (33,⟨false,(.one (.sl 43 k6)),[],false⟩),
 (34,⟨false,(.one (.sl 65 k5)),[],false⟩),
 (36,⟨true,yQ,[(0,26),(3,29),(4,32),(6,33),(7,34),(8,24),(9,24),(10,3)],false⟩),
 (43,⟨true,k6,[(0,3),(1,3),(2,3),(3,4),(4,3)],true⟩),
 (65,⟨true,k5,[(0,3),(1,3),(2,3),(3,3)],true⟩),
 (66,⟨false,(.one (.sl 72 k3)),[],false⟩),
 (68,⟨true,k8,[(0,3),(1,3),(2,66)],false⟩),
 (72,⟨true,k3,[(0,3),(1,3),(2,3)],true⟩),
 (74,⟨false,(.one (.sl 144 k1)),[],false⟩),
 (75,⟨false,(.one (.sl 117 k3)),[],false⟩),
 (77,⟨true,k10,[(0,3),(1,3),(2,74),(3,75),(4,3)],false⟩),
 (86,⟨true,k9,[(0,22),(1,3),(2,3)],false⟩),
 (117,⟨true,k3,[(0,3),(1,3),(2,3)],true⟩),
 (134,⟨false,(.one (.sl 9 (.one .str))),[],false⟩),
 (144,⟨true,k1,[(0,3),(1,3)],true⟩),
 (161,⟨false,(.one (.sl 24 (.one (.sl 3 (.one I))))),[],false⟩),
 (182,⟨true,yN,[(0,26),(3,33),(4,24)],false⟩),
 (185,⟨false,(.one (.sl 4 (.one .bool))),[],false⟩),
 (199,⟨true,yP,[(0,26),(3,33),(4,161),(5,24)],false⟩)]
theorem uq:tbl.all (λp=>OU Tryz.prog p.1 p.2)=true:=by kernel_rfl
theorem follows:Tryz.prog.follows .mixedOrders=true:=by kernel_rfl
def Ws(g:List (Nat×List VP))(b j:List (Nat×List VP×Bool))(p:List (Nat×It)):An:=⟨find g,find b,find j,λk=>match find p k with|some x=>x|none=>[]⟩
def U8(b:List (Nat×List VP×Bool)):An:=Ws [] b [] []
def Un:An:=U8 []
abbrev FO(f:FuncId)(g:Mb):Prop:=Kt Tryz.prog TT f g/\KY Tryz.prog f
theorem nl:IG Tryz.prog TT (find []):=OL
theorem cn{f:FuncId}{g:Mb}{l:List (FuncId×Mb)}(h:FO f g)(hl:IG Tryz.prog TT (find l)):IG Tryz.prog TT (find ((f,g)::l)):=N5 h.1 h.2 hl
theorem vO {l : Env} (an : An) (n : Nat) {sm : Sm} {fn : Func} {f : FuncId} {c : Code} {F : sm.ins.D -> Option sm.outs.D} (hf : Tryz.prog.funcs[f]? = some fn) (hb : fn.body = some c) (hl : JK Tryz.prog TT l) (hF : ∀ x, Lq (find tbl) l an n fn sm x = F x := by intro x; kernel_rfl) (h1 : decide (sm.ps.length <= fn.ntmps) = true := by kernel_rfl) (h2 : (fn.name == "runtime.NumGoroutine") = false := by kernel_rfl) : FO f ⟨sm, F⟩ := ⟨Ny hf hb h1 uq hl follows hF, fn, c, hf, hb, h2⟩
theorem mk {l : List (FuncId × Mb)} (an : An) (n : Nat) {sm : Sm} {fn : Func} {f : FuncId} {c : Code} {F : sm.ins.D -> Option sm.outs.D} (hf : Tryz.prog.funcs[f]? = some fn) (hb : fn.body = some c) (hl : IG Tryz.prog TT (find l)) (hF : ∀ x, Lq (find tbl) (plain l) an n fn sm x = F x := by intro x; kernel_rfl) (h1 : decide (sm.ps.length <= fn.ntmps) = true := by kernel_rfl) (h2 : (fn.name == "runtime.NumGoroutine") = false := by kernel_rfl) : FO f ⟨sm, F⟩ := vO an n hf hb (Nx hl) hF h1 h2
def u2{α0 α1 β:Type}(f:α0->α1->β)(x:α0×α1):β:=f x.1 x.2
def u3{α0 α1 α2 β:Type}(f:α0->α1->α2->β)(x:α0×α1×α2):β:=f x.1 x.2.1 x.2.2
def u4{α0 α1 α2 α3 β:Type}(f:α0->α1->α2->α3->β)(x:α0×α1×α2×α3):β:=f x.1 x.2.1 x.2.2.1 x.2.2.2
def u5{α0 α1 α2 α3 α4 β:Type}(f:α0->α1->α2->α3->α4->β)(x:α0×α1×α2×α3×α4):β:=f x.1 x.2.1 x.2.2.1 x.2.2.2.1 x.2.2.2.2
def u6{α0 α1 α2 α3 α4 α5 β:Type}(f:α0->α1->α2->α3->α4->α5->β)(x:α0×α1×α2×α3×α4×α5):β:=f x.1 x.2.1 x.2.2.1 x.2.2.2.1 x.2.2.2.2.1 x.2.2.2.2.2
def u7{α0 α1 α2 α3 α4 α5 α6 β:Type}(f:α0->α1->α2->α3->α4->α5->α6->β)(x:α0×α1×α2×α3×α4×α5×α6):β:=f x.1 x.2.1 x.2.2.1 x.2.2.2.1 x.2.2.2.2.1 x.2.2.2.2.2.1 x.2.2.2.2.2.2
def u8{α0 α1 α2 α3 α4 α5 α6 α7 β:Type}(f:α0->α1->α2->α3->α4->α5->α6->α7->β)(x:α0×α1×α2×α3×α4×α5×α6×α7):β:=f x.1 x.2.1 x.2.2.1 x.2.2.2.1 x.2.2.2.2.1 x.2.2.2.2.2.1 x.2.2.2.2.2.2.1 x.2.2.2.2.2.2.2
def u9{α0 α1 α2 α3 α4 α5 α6 α7 α8 β:Type}(f:α0->α1->α2->α3->α4->α5->α6->α7->α8->β)(x:α0×α1×α2×α3×α4×α5×α6×α7×α8):β:=f x.1 x.2.1 x.2.2.1 x.2.2.2.1 x.2.2.2.2.1 x.2.2.2.2.2.1 x.2.2.2.2.2.2.1 x.2.2.2.2.2.2.2.1 x.2.2.2.2.2.2.2.2
def qy{α0 α1 α2 α3 α4 α5 α6 α7 α8 α9 α10 β:Type}(f:α0->α1->α2->α3->α4->α5->α6->α7->α8->α9->α10->β)(x:α0×α1×α2×α3×α4×α5×α6×α7×α8×α9×α10):β:=f x.1 x.2.1 x.2.2.1 x.2.2.2.1 x.2.2.2.2.1 x.2.2.2.2.2.1 x.2.2.2.2.2.2.1 x.2.2.2.2.2.2.2.1 x.2.2.2.2.2.2.2.2.1 x.2.2.2.2.2.2.2.2.2.1 x.2.2.2.2.2.2.2.2.2.2
def vH{α0 α1 α2 α3 α4 α5 α6 α7 α8 α9 α10 α11 β:Type}(f:α0->α1->α2->α3->α4->α5->α6->α7->α8->α9->α10->α11->β)(x:α0×α1×α2×α3×α4×α5×α6×α7×α8×α9×α10×α11):β:=f x.1 x.2.1 x.2.2.1 x.2.2.2.1 x.2.2.2.2.1 x.2.2.2.2.2.1 x.2.2.2.2.2.2.1 x.2.2.2.2.2.2.2.1 x.2.2.2.2.2.2.2.2.1 x.2.2.2.2.2.2.2.2.2.1 x.2.2.2.2.2.2.2.2.2.2.1 x.2.2.2.2.2.2.2.2.2.2.2
def zy{α0 α1 α2 α3 α4 α5 α6 α7 α8 α9 α10 α11 α12 β:Type}(f:α0->α1->α2->α3->α4->α5->α6->α7->α8->α9->α10->α11->α12->β)(x:α0×α1×α2×α3×α4×α5×α6×α7×α8×α9×α10×α11×α12):β:=f x.1 x.2.1 x.2.2.1 x.2.2.2.1 x.2.2.2.2.1 x.2.2.2.2.2.1 x.2.2.2.2.2.2.1 x.2.2.2.2.2.2.2.1 x.2.2.2.2.2.2.2.2.1 x.2.2.2.2.2.2.2.2.2.1 x.2.2.2.2.2.2.2.2.2.2.1 x.2.2.2.2.2.2.2.2.2.2.2.1 x.2.2.2.2.2.2.2.2.2.2.2.2
def zz{α0 α1 α2 α3 α4 α5 α6 α7 α8 α9 α10 α11 α12 α13 β:Type}(f:α0->α1->α2->α3->α4->α5->α6->α7->α8->α9->α10->α11->α12->α13->β)(x:α0×α1×α2×α3×α4×α5×α6×α7×α8×α9×α10×α11×α12×α13):β:=f x.1 x.2.1 x.2.2.1 x.2.2.2.1 x.2.2.2.2.1 x.2.2.2.2.2.1 x.2.2.2.2.2.2.1 x.2.2.2.2.2.2.2.1 x.2.2.2.2.2.2.2.2.1 x.2.2.2.2.2.2.2.2.2.1 x.2.2.2.2.2.2.2.2.2.2.1 x.2.2.2.2.2.2.2.2.2.2.2.1 x.2.2.2.2.2.2.2.2.2.2.2.2.1 x.2.2.2.2.2.2.2.2.2.2.2.2.2
def sB{α0 α1 α2 α3 α4 α5 α6 α7 α8 α9 α10 α11 α12 α13 α14 β:Type}(f:α0->α1->α2->α3->α4->α5->α6->α7->α8->α9->α10->α11->α12->α13->α14->β)(x:α0×α1×α2×α3×α4×α5×α6×α7×α8×α9×α10×α11×α12×α13×α14):β:=f x.1 x.2.1 x.2.2.1 x.2.2.2.1 x.2.2.2.2.1 x.2.2.2.2.2.1 x.2.2.2.2.2.2.1 x.2.2.2.2.2.2.2.1 x.2.2.2.2.2.2.2.2.1 x.2.2.2.2.2.2.2.2.2.1 x.2.2.2.2.2.2.2.2.2.2.1 x.2.2.2.2.2.2.2.2.2.2.2.1 x.2.2.2.2.2.2.2.2.2.2.2.2.1 x.2.2.2.2.2.2.2.2.2.2.2.2.2.1 x.2.2.2.2.2.2.2.2.2.2.2.2.2.2
def z8{α0 α1 α2 α3 α4 α5 α6 α7 α8 α9 α10 α11 α12 α13 α14 α15 α16 α17 α18 α19 α20 α21 β:Type}(f:α0->α1->α2->α3->α4->α5->α6->α7->α8->α9->α10->α11->α12->α13->α14->α15->α16->α17->α18->α19->α20->α21->β)(x:α0×α1×α2×α3×α4×α5×α6×α7×α8×α9×α10×α11×α12×α13×α14×α15×α16×α17×α18×α19×α20×α21):β:=f x.1 x.2.1 x.2.2.1 x.2.2.2.1 x.2.2.2.2.1 x.2.2.2.2.2.1 x.2.2.2.2.2.2.1 x.2.2.2.2.2.2.2.1 x.2.2.2.2.2.2.2.2.1 x.2.2.2.2.2.2.2.2.2.1 x.2.2.2.2.2.2.2.2.2.2.1 x.2.2.2.2.2.2.2.2.2.2.2.1 x.2.2.2.2.2.2.2.2.2.2.2.2.1 x.2.2.2.2.2.2.2.2.2.2.2.2.2.1 x.2.2.2.2.2.2.2.2.2.2.2.2.2.2.1 x.2.2.2.2.2.2.2.2.2.2.2.2.2.2.2.1 x.2.2.2.2.2.2.2.2.2.2.2.2.2.2.2.2.1 x.2.2.2.2.2.2.2.2.2.2.2.2.2.2.2.2.2.1 x.2.2.2.2.2.2.2.2.2.2.2.2.2.2.2.2.2.2.1 x.2.2.2.2.2.2.2.2.2.2.2.2.2.2.2.2.2.2.2.1 x.2.2.2.2.2.2.2.2.2.2.2.2.2.2.2.2.2.2.2.2.1 x.2.2.2.2.2.2.2.2.2.2.2.2.2.2.2.2.2.2.2.2.2
abbrev Pw:L:=(.sl 3 (.one I))
abbrev TA:L:=(.sl 68 k8)
abbrev T7:L:=(.sl 43 k6)
abbrev ZO:L:=(.sl 77 k10)
abbrev X4:L:=(.sl 65 k5)
abbrev jn:L:=(.sl 5 (.one (.int .u8)))
abbrev ta6:L:=(.sl 24 (.one (.sl 3 (.one I))))
abbrev jo:L:=(.sl 117 k3)
abbrev oF:L:=(.sl 144 k1)
abbrev qL:L:=(.sl 72 k3)
abbrev aA:List L:=[I,I,Pw,TA,I,ZO,T7,X4,Pw,Pw,I]
abbrev Sx:List L:=[I,I,Pw]
abbrev ky:List L:=[(.sl 24 (.one Pw))]
abbrev mH:List L:=[I,I,I,.bool,I]
abbrev n7:List L:=[I,I,oF,jo,I]
abbrev bX:List L:=[I,ZO]
abbrev dv:List (L×Nat):=[(I,0),(I,0),(Pw,2),(TA,2),(I,0),(ZO,2),(T7,2),(X4,2),(Pw,2),(Pw,2),(I,0)]
abbrev dx:List (L×Nat):=[(jn,0),(I,0),(I,0)]
abbrev ur:List (L×Nat):=[(I,0),(I,0),(Pw,2),(TA,2),(I,0),(ZO,2),(T7,2),(X4,0),(Pw,2),(Pw,2),(I,0)]
abbrev uv:List (L×Nat):=[(I,0),(I,0),(Pw,0),(T7,0),((.sl 24 (.one Pw)),2),(Pw,2)]
abbrev ry:List (L×Nat):=[(I,0),(I,0),(Pw,0),(T7,0),(Pw,2)]
abbrev QL:List (L×Nat):=[(.bool,0)]
abbrev RM:List (L×Nat):=[(I,0)]
abbrev V7:List (L×Nat):=[(Pw,2)]
abbrev uw:List (L×Nat):=[(I,0),(I,0),(Pw,0),(TA,0),(I,0),(ZO,0),(T7,0),(X4,0),(Pw,0),(Pw,0),(I,0)]
abbrev ZB:List (L×Nat):=[(TA,2)]
abbrev qM:List (L×Nat):=[(I,0),(I,0),(oF,2),(jo,2),(I,0)]
abbrev kz:List (L×Nat):=[(I,0),(ZO,2)]
abbrev qN:List (L×Nat):=[(I,0),(I,0),(Pw,2)]
def s6(n:Nat):Mb:=⟨⟨[.val false [jn]],[(false,QL)]⟩,N.fI⟩
theorem yS(n:Nat):FO 6 (s6 n):=mk Un n Tryz.func6 rfl nl
def ye(n:Nat):Mb:=⟨⟨[.val false [jn]],[(false,dx)]⟩,N.Y9 n⟩
theorem vX(n:Nat):FO 26 (ye n):=mk (U8 [(0,[.slot 3 I,.slot 4 I],false)]) n Tryz.func26 rfl nl
def yg(n:Nat):Mb:=⟨⟨[.val false [jn],.val false [I]],[(false,RM)]⟩,u2 N.YN⟩
theorem vZ(n:Nat):FO 28 (yg n):=mk Un n Tryz.func28 rfl nl
def zn(n:Nat):Mb:=⟨⟨[.box dx],[(false,RM)]⟩,u3 N.TY⟩
theorem wG(n:Nat):FO 93 (zn n):=mk (Ws [] [] [(12,[.slot 3 I,.box 0 [some (jn,0),some (I,0),some (I,0)]],false)] []) n Tryz.func93 rfl nl
def yE(n:Nat):Mb:=⟨⟨[.box dx,.val false [I]],[(false,RM)]⟩,u4 N.Pl⟩
theorem nV(n:Nat):FO 52 (yE n):=mk Un n Tryz.func52 rfl (cn (wG n) nl)
def rj(n:Nat):Mb:=⟨⟨[.box dx,.val false [(.sl 9 (.one .str))]],[(false,[(.str,0)])]⟩,u4 N.X1⟩
theorem qe(n:Nat):FO 104 (rj n):=mk Un n Tryz.func104 rfl (cn (nV n) nl)
def wv(n:Nat):Mb:=⟨⟨[.val false [.str],.val false [(.int .u8)]],[(false,[((.sl 9 (.one .str)),2)])]⟩,u2 (N.XZ n)⟩
theorem tC(n:Nat):FO 136 (wv n):=mk (Ws [] [(0,[.own 5 9 (.one .str) 2 false,.slot 6 I,.slot 7 I],false)] [(7,[.own 5 9 (.one .str) 2 false,.slot 6 I],false)] []) n Tryz.func136 rfl nl
def yo(n:Nat):Mb:=⟨⟨[.val false [I],.val false [I],.val false [I]],[(false,QL)]⟩,u3 N.PK⟩
theorem Zi(n:Nat):FO 35 (yo n):=mk Un n Tryz.func35 rfl nl
def wx(n:Nat):Mb:=⟨⟨[.val false [(.int .u8)]],[(false,RM)]⟩,N.YM n⟩
theorem tD(n:Nat):FO 137 (wx n):=mk (U8 [(0,[.slot 3 I],true)]) n Tryz.func137 rfl nl
def ri(n:Nat):Mb:=⟨⟨[.val false [.str]],[(true,qN),(false,RM)]⟩,N.Qb n⟩
theorem qc(n:Nat):FO 103 (ri n):=mk (U8 [(0,[.slot 6 I,.box 2 [some (I,0),some (I,0),some (Pw,2)],.box 5 [some (I,0),some (I,0),some (Pw,2)]],true),(2,[.slot 8 I,.box 2 [some (I,0),some (I,0),some (Pw,2)],.box 5 [some (I,0),some (I,0),some (Pw,2)]],true)]) n Tryz.func103 rfl (cn (Zi n) (cn (tC n) (cn (tD n) nl)))
def xr(n:Nat):Mb:=⟨⟨[.box dx,.val false [I]],[(false,QL)]⟩,u4 N.Ta⟩
theorem qC(n:Nat):FO 91 (xr n):=mk Un n Tryz.func91 rfl (cn (nV n) nl)
def yF(n:Nat):Mb:=⟨⟨[.box dx,.val false [Pw]],[(false,RM)]⟩,u4 N.V6⟩
theorem rU(n:Nat):FO 53 (yF n):=mk Un n Tryz.func53 rfl (cn (nV n) nl)
def pK(n:Nat):Mb:=⟨⟨[.box dx],[(true,qN)]⟩,u3 (N.Vj n)⟩
def qU:An:=U8 [(0,[.slot 6 I,.box 0 [some (jn,0),some (I,0),some (I,0)],.box 5 [some (I,0),some (I,0),some (Pw,2)]],false)]
theorem sJ(n:Nat)(x:(pK n).s.ins.D):Lq (find tbl) (plain [(52,yE n),(53,yF n),(91,xr n),(103,ri n),(104,rj n)]) qU n Tryz.f105 (pK n).s x=N.Vj n x.1 x.2.1 x.2.2:=by kernel_rfl
theorem sT(n:Nat):FO 105 (pK n):=mk (an:=qU) (n:=n) (sm:=(pK n).s) Tryz.func105 rfl (cn (nV n) (cn (rU n) (cn (qC n) (cn (qc n) (cn (qe n) nl))))) (sJ n)
def yh(n:Nat):Mb:=⟨⟨[.val true Sx],[(false,QL)]⟩,u3 (N.Qr n)⟩
theorem nU(n:Nat):FO 29 (yh n):=mk (U8 [(0,[.slot 3 I],true)]) n Tryz.func29 rfl (cn (Zi n) nl)
def wP(n:Nat):Mb:=⟨⟨[.val true Sx,.val false [I]],[(false,V7)]⟩,u4 (N.SR n)⟩
theorem ox(n:Nat):FO 112 (wP n):=mk (Ws [] [(0,[.own 5 3 (.one I) 2 false,.slot 6 I],false)] [(7,[.own 5 3 (.one I) 2 false],false)] []) n Tryz.func112 rfl (cn (nU n) nl)
def ud(n:Nat):Mb:=⟨⟨[.box dx,.val true Sx],[(true,ZB)]⟩,u6 (N.XX n)⟩
theorem sV(n:Nat):FO 107 (ud n):=mk (Ws [] [(0,[.slot 7 I,.box 0 [some (jn,0),some (I,0),some (I,0)],.box 5 [some (TA,2)]],false),(2,[.slot 9 I,.box 0 [some (jn,0),some (I,0),some (I,0)],.box 8 [some (I,0),some (I,0),some (qL,2)]],false)] [(13,[.box 0 [some (jn,0),some (I,0),some (I,0)],.box 8 [some (I,0),some (I,0),some (qL,2)]],false)] []) n Tryz.func107 rfl (cn (rU n) (cn (ox n) nl))
def zN(n:Nat):Mb:=⟨⟨[.val false [qL]],[(false,QL)]⟩,N.Wa n⟩
theorem vx(n:Nat):FO 64 (zN n):=mk (U8 [(0,[.slot 3 I],true)]) n Tryz.func64 rfl (cn (Zi n) nl)
def yi(n:Nat):Mb:=⟨⟨[.val true [TA]],[(false,QL)]⟩,N.QV n⟩
theorem kS(n:Nat):FO 30 (yi n):=mk (U8 [(0,[.slot 3 I],true),(2,[.slot 5 I],true)]) n Tryz.func30 rfl (cn (Zi n) (cn (vx n) nl))
def zp(n:Nat):Mb:=⟨⟨[.val true Sx],[(true,qN)]⟩,u3 N.Wl⟩
theorem uZ(n:Nat):FO 95 (zp n):=mk Un n Tryz.func95 rfl nl
def zq(n:Nat):Mb:=⟨⟨[.val true [TA]],[(true,ZB)]⟩,N.Pm n⟩
theorem gl(n:Nat):FO 96 (zq n):=mk (U8 [(0,[.slot 4 I,.box 3 [some (TA,2)]],false)]) n Tryz.func96 rfl nl
def wb(n:Nat):Mb:=⟨⟨[.val true [I,I,qL],.val false [I]],[(true,[(I,0),(I,0),(I,0)])]⟩,u4 (N.Ri n)⟩
theorem oz(n:Nat):FO 126 (wb n):=mk (U8 [(0,[.slot 5 I,.box 4 [some (I,0),some (I,0),some (I,0)]],true)]) n Tryz.func126 rfl nl
def wy(n:Nat):Mb:=⟨⟨[.val true [TA],.val false [I]],[(false,RM)]⟩,u2 (N.Y6 n)⟩
theorem tE(n:Nat):FO 138 (wy n):=mk (U8 [(0,[.slot 5 I,.slot 6 I],false)]) n Tryz.func138 rfl (cn (kS n) (cn (oz n) nl))
def uc(n:Nat):Mb:=⟨⟨[.val true Sx,.val true [TA]],[(true,dv),(false,QL)]⟩,u4 (N.WN n)⟩
theorem sU(n:Nat):FO 106 (uc n):=mk (U8 [(0,[.slot 7 I,.box 4 [some (I,0),some (I,0),some (Pw,2),some (TA,2),some (I,0),some (ZO,2),some (T7,2),some (X4,2),some (Pw,2),some (Pw,2),some (I,0)]],true),(2,[.slot 8 I,.box 4 [some (I,0),some (I,0),some (Pw,2),some (TA,2),some (I,0),some (ZO,2),some (T7,2),some (X4,2),some (Pw,2),some (Pw,2),some (I,0)]],true),(4,[.slot 9 I,.box 6 [some (I,0),some (I,0),some (Pw,2),some (TA,2),some (I,0),some (ZO,2),some (T7,2),some (X4,2),some (Pw,2),some (Pw,2),some (I,0)]],false),(6,[.slot 11 I,.box 6 [some (I,0),some (I,0),some (Pw,2),some (TA,2),some (I,0),some (ZO,2),some (T7,2),some (X4,2),some (Pw,2),some (Pw,2),some (I,0)]],false)]) n Tryz.func106 rfl (cn (nU n) (cn (kS n) (cn (Zi n) (cn (uZ n) (cn (gl n) (cn (ox n) (cn (tE n) nl)))))))
def vF(n:Nat):Mb:=⟨⟨[.box dx],[(true,dv)]⟩,u3 (N.UR n)⟩
def sE:An:=Ws [] [] [(9,[.box 0 [some (jn,0),some (I,0),some (I,0)],.box 3 [some (I,0),some (I,0),some (Pw,2)]],false)] [(4,[3])]
theorem vM(n:Nat)(x:(vF n).s.ins.D):Lq (find tbl) (plain [(91,xr n),(103,ri n),(104,rj n),(105,pK n),(106,uc n),(107,ud n)]) sE n Tryz.f58 (vF n).s x=N.UR n x.1 x.2.1 x.2.2:=by kernel_rfl
theorem vn(n:Nat):FO 58 (vF n):=mk (an:=sE) (n:=n) (sm:=(vF n).s) Tryz.func58 rfl (cn (qC n) (cn (qc n) (cn (qe n) (cn (sT n) (cn (sU n) (cn (sV n) nl)))))) (vM n)
def zJ(n:Nat):Mb:=⟨⟨[.box dx,.val true Sx],[(false,RM)]⟩,u6 (N.XU n)⟩
theorem vq(n:Nat):FO 60 (zJ n):=mk (Ws [(2,[.slot 14 .bool,.box 0 [some (jn,0),some (I,0),some (I,0)]])] [] [] []) n Tryz.func60 rfl (cn (nV n) (cn (qC n) (cn (ox n) nl)))
def zK(n:Nat):Mb:=⟨⟨[.box dx],[(false,[(oF,2)])]⟩,u3 (N.YL n)⟩
theorem vt(n:Nat):FO 61 (zK n):=mk (Ws [] [(0,[.own 3 144 k1 2 false,.slot 4 I,.box 0 [some (jn,0),some (I,0),some (I,0)]],false)] [(7,[.own 3 144 k1 2 false,.box 0 [some (jn,0),some (I,0),some (I,0)]],false)] []) n Tryz.func61 rfl (cn (rU n) (cn (qC n) nl))
def wa(n:Nat):Mb:=⟨⟨[.val true n7],[(true,qM)]⟩,u5 N.P6⟩
theorem oy(n:Nat):FO 125 (wa n):=mk Un n Tryz.func125 rfl nl
def zr(n:Nat):Mb:=⟨⟨[.val true bX],[(true,kz)]⟩,u2 (N.Rf n)⟩
theorem o8(n:Nat):FO 97 (zr n):=mk (U8 [(0,[.slot 4 I,.box 3 [some (I,0),some (ZO,2)]],false)]) n Tryz.func97 rfl (cn (oy n) nl)
def zF(n:Nat):Mb:=⟨⟨[.val true aA],[(true,dv)]⟩,qy (N.Tz n)⟩
theorem rV(n:Nat):FO 55 (zF n):=mk Un n Tryz.func55 rfl (cn (uZ n) (cn (gl n) (cn (o8 n) nl)))
def wV(n:Nat):Mb:=⟨⟨[.val false [oF]],[(false,QL)]⟩,N.Q2 n⟩
theorem qg(n:Nat):FO 118 (wV n):=mk (U8 [(0,[.slot 3 I],true)]) n Tryz.func118 rfl (cn (Zi n) nl)
def wW(n:Nat):Mb:=⟨⟨[.val false [jo],.val false [I]],[(false,RM)]⟩,u2 (N.YK n)⟩
theorem sq(n:Nat):FO 119 (wW n):=mk (Ws [] [(0,[.slot 5 I,.slot 6 I],false)] [(7,[.slot 5 I],false)] []) n Tryz.func119 rfl nl
def zO(n:Nat):Mb:=⟨⟨[.val true n7],[(false,QL)]⟩,u5 (N.WX n)⟩
theorem vy(n:Nat):FO 65 (zO n):=mk (U8 [(0,[.slot 3 I,.slot 4 I],false),(2,[.slot 3 I,.slot 5 I],true),(4,[.slot 7 I],true)]) n Tryz.func65 rfl (cn (Zi n) (cn (qg n) (cn (sq n) nl)))
def yj(n:Nat):Mb:=⟨⟨[.val true bX],[(false,QL)]⟩,u2 (N.Qt n)⟩
theorem o5(n:Nat):FO 31 (yj n):=mk (U8 [(0,[.slot 3 I],true)]) n Tryz.func31 rfl (cn (Zi n) (cn (vy n) nl))
def zP(n:Nat):Mb:=⟨⟨[.val true Sx,.val false [I]],[(false,QL)]⟩,u4 N.Wn⟩
theorem vz(n:Nat):FO 66 (zP n):=mk Un n Tryz.func66 rfl (cn (Zi n) nl)
def yk(n:Nat):Mb:=⟨⟨[.val true Sx,.val false [T7]],[(false,QL)]⟩,u4 (N.U3 n)⟩
theorem rS(n:Nat):FO 32 (yk n):=mk (U8 [(0,[.slot 5 I],true),(2,[.slot 7 I],true)]) n Tryz.func32 rfl (cn (nU n) (cn (Zi n) (cn (vz n) nl)))
def ym(n:Nat):Mb:=⟨⟨[.val false [X4]],[(false,QL)]⟩,N.Vh n⟩
theorem uP(n:Nat):FO 33 (ym n):=mk (U8 [(0,[.slot 3 I],true),(2,[.slot 6 I],true)]) n Tryz.func33 rfl (cn (Zi n) nl)
def yn(n:Nat):Mb:=⟨⟨[.val false [Pw]],[(false,QL)]⟩,N.TX n⟩
theorem va(n:Nat):FO 34 (yn n):=mk (U8 [(0,[.slot 3 I],true)]) n Tryz.func34 rfl (cn (Zi n) nl)
def zQ(n:Nat):Mb:=⟨⟨[.val true bX,.val false [I]],[(false,RM)]⟩,u3 (N.Q3 n)⟩
theorem nW(n:Nat):FO 67 (zQ n):=mk (U8 [(0,[.slot 5 I],true)]) n Tryz.func67 rfl nl
def zR(n:Nat):Mb:=⟨⟨[.val true [TA],.val false [I]],[(false,RM)]⟩,u2 (N.QY n)⟩
theorem o7(n:Nat):FO 68 (zR n):=mk (U8 [(0,[.slot 5 I],true)]) n Tryz.func68 rfl nl
def yG(n:Nat):Mb:=⟨⟨[.val false [Pw],.val false [I]],[(false,QL)]⟩,u2 (N.QK n)⟩
theorem p9(n:Nat):FO 69 (yG n):=mk (U8 [(0,[.slot 5 I],true)]) n Tryz.func69 rfl nl
def zS(n:Nat):Mb:=⟨⟨[.val false [jo]],[(false,V7)]⟩,N.U4 n⟩
theorem rW(n:Nat):FO 70 (zS n):=mk (Ws [] [(0,[.own 3 3 (.one I) 2 false,.slot 4 I],false)] [(7,[.own 3 3 (.one I) 2 false],false)] []) n Tryz.func70 rfl (cn (p9 n) nl)
def zT(n:Nat):Mb:=⟨⟨[.val false [T7],.val false [I]],[(false,RM)]⟩,u2 (N.Sv n)⟩
theorem rX(n:Nat):FO 71 (zT n):=mk (U8 [(0,[.slot 5 I],true)]) n Tryz.func71 rfl nl
def zU(n:Nat):Mb:=⟨⟨[.val true aA,.val true [I,I,I,I]],[(false,RM)]⟩,sB (N.QW n)⟩
theorem uU(n:Nat):FO 72 (zU n):=mk Un n Tryz.func72 rfl (cn (nW n) (cn (o7 n) nl))
def yp(n:Nat):Mb:=⟨⟨[.val true aA,.val true [I,I,I,I]],[(false,QL)]⟩,sB (N.T3 n)⟩
theorem vb(n:Nat):FO 36 (yp n):=mk Un n Tryz.func36 rfl (cn (nW n) (cn (o7 n) (cn (p9 n) (cn (rW n) (cn (rX n) (cn (uU n) nl))))))
def s8(n:Nat):Mb:=⟨⟨[.val true aA],[(false,QL)]⟩,qy (N.Tu n)⟩
theorem wB(n:Nat):FO 8 (s8 n):=mk (U8 [(0,[.slot 3 I],true)]) n Tryz.func8 rfl (cn (nU n) (cn (kS n) (cn (o5 n) (cn (rS n) (cn (uP n) (cn (va n) (cn (Zi n) (cn (vb n) nl))))))))
def wz(n:Nat):Mb:=⟨⟨[.val true Sx,.val false [I]],[(false,QL)]⟩,u4 (N.TZ n)⟩
theorem o3(n:Nat):FO 139 (wz n):=mk Un n Tryz.func139 rfl (cn (nU n) (cn (Zi n) nl))
def wL(n:Nat):Mb:=⟨⟨[.val true Sx,.val false [I]],[(false,RM)]⟩,u4 (N.YI n)⟩
theorem sW(n:Nat):FO 108 (wL n):=mk Un n Tryz.func108 rfl (cn (o3 n) nl)
def wM(n:Nat):Mb:=⟨⟨[.val true bX],[(true,kz)]⟩,u2 (N.Xy n)⟩
theorem sX(n:Nat):FO 109 (wM n):=mk (Ws [] [(0,[.slot 4 I,.box 3 [some (I,0),some (ZO,2)]],false)] [(7,[.box 3 [some (I,0),some (ZO,2)]],false)] []) n Tryz.func109 rfl (cn (o5 n) (cn (o8 n) (cn (oy n) nl)))
def xN(n:Nat):Mb:=⟨⟨[.val true [I,I,qL],.val false [oF]],[(false,[(jo,2)]),(false,RM)]⟩,u4 (N.Vn n)⟩
theorem tX(n:Nat):FO 160 (xN n):=mk (Ws [] [(0,[.own 6 117 k3 2 false,.slot 7 I,.slot 8 I],false)] [(7,[.own 6 117 k3 2 false,.slot 7 I],false),(27,[.slot 10 I],false)] []) n Tryz.func160 rfl (cn (oz n) nl)
def w4(n:Nat):Mb:=⟨⟨[.val true [TA],.val false [oF]],[(false,[(jo,2)]),(false,QL)]⟩,u2 (N.TV n)⟩
theorem tF(n:Nat):FO 140 (w4 n):=mk (Ws [] [(0,[.own 4 117 k3 2 false,.slot 5 .bool,.own 9 117 k3 2 false,.own 6 117 k3 2 false,.own 7 144 k1 2 false,.own 8 4 (.one .bool) 2 false],true),(2,[.slot 10 I,.slot 11 I],false),(4,[.slot 12 I,.slot 13 I,.slot 14 I],false),(6,[.slot 19 I,.own 7 144 k1 2 false],false),(8,[.slot 20 I,.own 7 144 k1 2 false],false)] [(19,[.slot 12 I,.slot 13 I],false),(31,[.own 7 144 k1 2 false],false)] []) n Tryz.func140 rfl (cn (kS n) (cn (qg n) (cn (tX n) nl)))
def zt(n:Nat):Mb:=⟨⟨[.val true [TA],.val false [I],.val false [I],.val false [I]],[(false,RM),(true,[(I,0),(I,0),(I,0)]),(false,RM)]⟩,u4 (N.Tc n)⟩
theorem qD(n:Nat):FO 98 (zt n):=mk Un n Tryz.func98 rfl (cn (kS n) (cn (Zi n) (cn (o7 n) (cn (oz n) nl))))
def wc(n:Nat):Mb:=⟨⟨[.val false [qL],.val true [I,I,I]],[(false,[(qL,2)])]⟩,u4 (N.U5 n)⟩
theorem ss(n:Nat):FO 127 (wc n):=mk (Ws [] [(0,[.own 5 72 k3 2 false,.slot 6 .bool,.slot 7 I],false)] [(7,[.own 5 72 k3 2 false,.slot 6 .bool],false),(21,[.own 5 72 k3 2 false,.slot 6 .bool],false),(36,[.own 5 72 k3 2 false],false)] []) n Tryz.func127 rfl nl
def zu(n:Nat):Mb:=⟨⟨[.val true [TA],.val false [I],.val true [I,I,I]],[(true,ZB)]⟩,u5 (N.SU n)⟩
theorem qE(n:Nat):FO 99 (zu n):=mk Un n Tryz.func99 rfl (cn (gl n) (cn (ss n) nl))
def xX(n:Nat):Mb:=⟨⟨[.val true [TA],.val false [I],.val false [I],.val false [I]],[(true,ZB),(false,RM)]⟩,u4 (N.Z4 n)⟩
theorem uA(n:Nat):FO 176 (xX n):=mk Un n Tryz.func176 rfl (cn (gl n) (cn (qD n) (cn (qE n) nl)))
def xY(n:Nat):Mb:=⟨⟨[.val true [TA],.val false [I],.val false [I],.val false [I]],[(true,ZB),(false,RM)]⟩,u4 (N.XO n)⟩
theorem uB(n:Nat):FO 177 (xY n):=mk Un n Tryz.func177 rfl (cn (gl n) (cn (qD n) (cn (qE n) nl)))
def xZ(n:Nat):Mb:=⟨⟨[.val true [TA],.val false [I],.val false [I],.val false [I]],[(true,ZB),(false,RM)]⟩,u4 (N.XQ n)⟩
theorem uC(n:Nat):FO 178 (xZ n):=mk Un n Tryz.func178 rfl (cn (gl n) (cn (qD n) (cn (qE n) nl)))
def xO(n:Nat):Mb:=⟨⟨[.val true [TA],.val false [jo],.val false [I]],[(true,ZB),(false,QL)]⟩,u3 (N.SL n)⟩
theorem o4(n:Nat):FO 161 (xO n):=mk (Ws [] [(0,[.slot 9 I,.box 6 [some (TA,2)],.box 8 [some (TA,2)]],true)] [(24,[.slot 11 I,.box 8 [some (TA,2)]],false)] []) n Tryz.func161 rfl (cn (gl n) (cn (uA n) (cn (uB n) (cn (uC n) nl))))
def w5(n:Nat):Mb:=⟨⟨[.val true [TA],.val false [jo]],[(true,ZB),(false,QL)]⟩,u2 (N.XL n)⟩
theorem tG(n:Nat):FO 141 (w5 n):=mk Un n Tryz.func141 rfl (cn (o4 n) nl)
def wN(n:Nat):Mb:=⟨⟨[.val true [TA],.val true bX,.val false [I],.val false [oF]],[(true,ZB),(true,kz),(false,RM)]⟩,u5 (N.TS n)⟩
theorem sY(n:Nat):FO 110 (wN n):=mk Un n Tryz.func110 rfl (cn (kS n) (cn (o5 n) (cn (Zi n) (cn (gl n) (cn (o8 n) (cn (tF n) (cn (tG n) nl)))))))
def wO(n:Nat):Mb:=⟨⟨[.val true n7],[(false,[(X4,2)])]⟩,u5 (N.XR n)⟩
theorem sZ(n:Nat):FO 111 (wO n):=mk (U8 [(0,[.own 3 65 k5 2 false,.slot 5 I],false)]) n Tryz.func111 rfl (cn (rW n) nl)
def zI(n:Nat):Mb:=⟨⟨[.val true aA,.val false [I],.val false [oF]],[(true,dv),(false,RM)]⟩,zy (N.Z5 n)⟩
theorem vp(n:Nat):FO 59 (zI n):=mk (Ws [] [] [(18,[.box 9 [some (I,0),some (ZO,0)]],false)] []) n Tryz.func59 rfl (cn (wB n) (cn (rV n) (cn (sW n) (cn (sX n) (cn (sY n) (cn (sZ n) nl))))))
def w6(n:Nat):Mb:=⟨⟨[.val true [TA],.val false [jo]],[(true,ZB),(false,QL)]⟩,u2 (N.Ug n)⟩
theorem tH(n:Nat):FO 142 (w6 n):=mk Un n Tryz.func142 rfl (cn (o4 n) nl)
def wQ(n:Nat):Mb:=⟨⟨[.val true [TA],.val true bX,.val false [I]],[(true,ZB),(true,kz),(false,QL)]⟩,u4 (N.WW n)⟩
theorem sd(n:Nat):FO 113 (wQ n):=mk Un n Tryz.func113 rfl (cn (kS n) (cn (o5 n) (cn (nW n) (cn (gl n) (cn (o8 n) (cn (tH n) nl))))))
def zL(n:Nat):Mb:=⟨⟨[.val true aA,.val false [I]],[(true,dv),(false,QL)]⟩,vH (N.Z3 n)⟩
theorem vu(n:Nat):FO 62 (zL n):=mk (Ws [] [(0,[.slot 8 I,.own 9 65 k5 2 false,.slot 10 I,.box 4 [some (I,0),some (I,0),some (Pw,2),some (TA,2),some (I,0),some (ZO,2),some (T7,2),some (X4,2),some (Pw,2),some (Pw,2),some (I,0)],.box 6 [some (I,0),some (I,0),some (Pw,2),some (TA,2),some (I,0),some (ZO,2),some (T7,2),some (X4,2),some (Pw,2),some (Pw,2),some (I,0)]],true)] [(7,[.slot 8 I,.own 9 65 k5 2 false,.box 4 [some (I,0),some (I,0),some (Pw,2),some (TA,2),some (I,0),some (ZO,2),some (T7,2),some (X4,2),some (Pw,2),some (Pw,2),some (I,0)],.box 6 [some (I,0),some (I,0),some (Pw,2),some (TA,2),some (I,0),some (ZO,2),some (T7,2),some (X4,2),some (Pw,2),some (Pw,2),some (I,0)]],true)] []) n Tryz.func62 rfl (cn (wB n) (cn (rV n) (cn (nW n) (cn (rW n) (cn (sd n) nl)))))
def zG(n:Nat):Mb:=⟨⟨[.val true [TA],.val false [I],.val false [I],.val false [I]],[(true,ZB),(false,RM)]⟩,u4 (N.Y7 n)⟩
theorem vl(n:Nat):FO 56 (zG n):=mk Un n Tryz.func56 rfl (cn (gl n) (cn (qD n) (cn (qE n) nl)))
def ya(n:Nat):Mb:=⟨⟨[.val true aA,.val false [I],.val false [I],.val false [I]],[(true,dv),(false,RM)]⟩,zz (N.XP n)⟩
theorem vT(n:Nat):FO 21 (ya n):=mk Un n Tryz.func21 rfl (cn (wB n) (cn (rV n) (cn (vl n) nl)))
def w7(n:Nat):Mb:=⟨⟨[.val false [T7],.val false [X4]],[(false,V7)]⟩,u2 (N.XT n)⟩
theorem tI(n:Nat):FO 143 (w7 n):=mk (Ws [] [(0,[.own 5 3 (.one I) 2 false,.slot 6 I],false),(2,[.slot 7 .bool,.slot 8 I],false)] [(7,[.own 5 3 (.one I) 2 false],false)] []) n Tryz.func143 rfl nl
def w8(n:Nat):Mb:=⟨⟨[.val true [TA],.val false [X4],.val false [I]],[(false,V7)]⟩,u3 (N.WY n)⟩
theorem tJ(n:Nat):FO 144 (w8 n):=mk (Ws [] [(0,[.own 8 3 (.one I) 2 false,.slot 9 I],false),(2,[.own 7 3 (.one I) 2 false,.own 8 3 (.one I) 2 false,.slot 10 I],false)] [(7,[.own 8 3 (.one I) 2 false],false),(13,[.own 7 3 (.one I) 2 false,.own 8 3 (.one I) 2 false],false)] []) n Tryz.func144 rfl (cn (o7 n) (cn (p9 n) nl))
def xo(n:Nat):Mb:=⟨⟨[.val true Sx,.val false [I]],[(false,V7)]⟩,u4 N.US⟩
theorem uN(n:Nat):FO 210 (xo n):=mk (Ws [] [] [(15,[.own 5 3 (.one I) 2 false],false),(21,[.own 5 3 (.one I) 2 false],false),(27,[.own 5 3 (.one I) 2 false],false),(33,[.own 5 3 (.one I) 2 false],false)] []) n Tryz.func210 rfl nl
def xl(n:Nat):Mb:=⟨⟨[.val true Sx,.val false [I],.val false [.bool]],[(false,V7)]⟩,u5 (N.Wm n)⟩
theorem qv(n:Nat):FO 207 (xl n):=mk (Ws [] [(0,[.own 7 3 (.one I) 2 false,.slot 9 I],false)] [(7,[.own 7 3 (.one I) 2 false],false)] []) n Tryz.func207 rfl (cn (uN n) nl)
def xh(n:Nat):Mb:=⟨⟨[.val true Sx,.val false [I],.val false [.bool]],[(false,V7)]⟩,u5 (N.T4 n)⟩
theorem qu(n:Nat):FO 192 (xh n):=mk (Ws [] [(0,[.own 7 3 (.one I) 2 false,.slot 8 I],false),(2,[.own 9 3 (.one I) 2 false,.slot 10 I,.own 7 3 (.one I) 2 false],false),(4,[.own 9 3 (.one I) 2 false,.slot 13 I,.own 7 3 (.one I) 2 false],false)] [(13,[.own 9 3 (.one I) 2 false,.own 7 3 (.one I) 2 false],false),(19,[.own 9 3 (.one I) 2 false,.own 7 3 (.one I) 2 false],false)] []) n Tryz.func192 rfl (cn (qv n) nl)
def xa(n:Nat):Mb:=⟨⟨[.val true Sx,.val false [I],.val false [.bool]],[(false,V7)]⟩,u5 (N.Xw n)⟩
theorem uD(n:Nat):FO 179 (xa n):=mk Un n Tryz.func179 rfl (cn (o3 n) (cn (qu n) nl))
def xP(n:Nat):Mb:=⟨⟨[.val true Sx,.val false [I],.val false [I]],[(false,RM)]⟩,u5 (N.TW n)⟩
theorem tY(n:Nat):FO 162 (xP n):=mk Un n Tryz.func162 rfl (cn (o3 n) (cn (uD n) nl))
def w9(n:Nat):Mb:=⟨⟨[.val true Sx,.val false [I],.val false [I]],[(false,RM)]⟩,u5 (N.XS n)⟩
theorem tK(n:Nat):FO 145 (w9 n):=mk Un n Tryz.func145 rfl (cn (tY n) nl)
def xQ(n:Nat):Mb:=⟨⟨[.val false ky],[(false,QL)]⟩,N.XK n⟩
theorem tZ(n:Nat):FO 163 (xQ n):=mk (U8 [(0,[.slot 3 I],true),(2,[.slot 4 I],true)]) n Tryz.func163 rfl (cn (Zi n) nl)
def xc(n:Nat):Mb:=⟨⟨[.val false ky,.row false V7,.row false V7,.row false V7,.val false [I]],[]⟩,u5 (N.YO n)⟩
theorem uE(n:Nat):FO 180 (xc n):=mk (Ws [] [(0,[.slot 14 I,.own 11 3 (.one I) 2 false],false),(2,[.slot 15 I,.own 1 3 (.one I) 2 true,.own 2 3 (.one I) 2 true,.own 11 3 (.one I) 2 false,.own 12 3 (.one I) 2 false,.own 13 4 (.one .bool) 2 false],false),(4,[.slot 17 I,.slot 18 I,.slot 19 I,.own 11 3 (.one I) 2 false,.own 12 3 (.one I) 2 false],false),(6,[.slot 21 I,.own 1 3 (.one I) 2 true,.own 2 3 (.one I) 2 true,.own 11 3 (.one I) 2 false],false),(8,[.slot 15 I,.own 3 3 (.one I) 2 true],false)] [(19,[.slot 17 I,.slot 18 I,.own 11 3 (.one I) 2 false,.own 12 3 (.one I) 2 false],false),(25,[.own 1 3 (.one I) 2 true,.own 2 3 (.one I) 2 true,.own 11 3 (.one I) 2 false],false),(57,[.own 11 3 (.one I) 2 false,.own 12 3 (.one I) 2 false],false)] []) n Tryz.func180 rfl nl
def xR(n:Nat):Mb:=⟨⟨[.val false ky],[(false,RM)]⟩,N.SS n⟩
theorem tc(n:Nat):FO 164 (xR n):=mk (Ws [] [(0,[.slot 8 I,.own 5 3 (.one I) 2 false,.own 6 3 (.one I) 2 false,.own 7 3 (.one I) 2 false],false),(2,[.slot 9 I,.slot 10 I],false)] [(13,[.slot 9 I],false)] []) n Tryz.func164 rfl (cn (uE n) nl)
def xS(n:Nat):Mb:=⟨⟨[.val false ky,.val false [I]],[(false,[((.sl 24 (.one Pw)),0)])]⟩,u2 (N.SG n)⟩
theorem td(n:Nat):FO 165 (xS n):=mk (U8 [(0,[.own 5 24 (.one Pw) 2 false,.slot 6 I],false)]) n Tryz.func165 rfl nl
def xA(n:Nat):Mb:=⟨⟨[.val false ky],[(false,V7),(false,RM)]⟩,N.V5 n⟩
theorem tL(n:Nat):FO 146 (xA n):=mk (U8 [(0,[.own 8 3 (.one I) 2 false,.slot 9 I],false),(2,[.own 4 3 (.one I) 2 false,.slot 6 I,.slot 7 (.sl 24 (.one Pw)),.own 8 3 (.one I) 2 false],false),(4,[.own 4 3 (.one I) 2 false,.slot 6 I,.slot 7 (.sl 24 (.one Pw)),.own 8 3 (.one I) 2 false,.slot 10 I],false)]) n Tryz.func146 rfl (cn (tZ n) (cn (tc n) (cn (td n) nl)))
def wR(n:Nat):Mb:=⟨⟨[.val true Sx,.val true [TA],.val false [T7],.val false [X4]],[(false,[(T7,2)]),(false,[(X4,2)])]⟩,u6 (N.WO n)⟩
theorem sg(n:Nat):FO 114 (wR n):=mk (Ws [] [(0,[.own 14 24 (.one Pw) 2 false,.slot 15 I],false),(2,[.own 16 3 (.one I) 2 false,.slot 17 I],false),(4,[.slot 20 I,.own 10 43 k6 2 false,.own 11 65 k5 2 false],false)] [(19,[.own 10 43 k6 2 false,.own 11 65 k5 2 false],false)] []) n Tryz.func114 rfl (cn (kS n) (cn (rS n) (cn (uP n) (cn (o7 n) (cn (tI n) (cn (tJ n) (cn (tK n) (cn (tL n) nl))))))))
def xd(n:Nat):Mb:=⟨⟨[.val true Sx,.val true mH],[(false,V7)]⟩,u8 (N.T6 n)⟩
theorem uF(n:Nat):FO 181 (xd n):=mk Un n Tryz.func181 rfl (cn (qu n) nl)
def xe(n:Nat):Mb:=⟨⟨[.val false [T7]],[(false,V7)]⟩,N.Xz n⟩
theorem uG(n:Nat):FO 182 (xe n):=mk (U8 [(0,[.own 3 3 (.one I) 2 false,.slot 4 I],false),(2,[.slot 5 I,.own 3 3 (.one I) 2 false],false)]) n Tryz.func182 rfl nl
def xp(n:Nat):Mb:=⟨⟨[.val true mH,.val false [Pw],.val false [I]],[(false,RM)]⟩,u7 N.U6⟩
theorem uO(n:Nat):FO 211 (xp n):=mk Un n Tryz.func211 rfl nl
def xm(n:Nat):Mb:=⟨⟨[.val true mH,.val false [Pw],.val false [I],.val false [I]],[(false,QL)]⟩,u8 N.Wb⟩
theorem uM(n:Nat):FO 208 (xm n):=mk Un n Tryz.func208 rfl (cn (uO n) nl)
def uh(n:Nat):Mb:=⟨⟨[.val true Sx,.val true mH,.val false [Pw]],[(false,V7)]⟩,u9 (N.SH n)⟩
theorem uJ(n:Nat):FO 193 (uh n):=mk (Ws [] [(0,[.own 7 3 (.one I) 2 false,.slot 9 I],false),(2,[.own 10 3 (.one I) 2 false,.slot 11 I],false),(4,[.slot 12 I,.own 10 3 (.one I) 2 false],false)] [(7,[.own 7 3 (.one I) 2 false],false)] []) n Tryz.func193 rfl (cn (qv n) (cn (uM n) nl))
def uk(n:Nat):Mb:=⟨⟨[.box uv,.val false [I]],[(false,RM)]⟩,u7 (N.X2 n)⟩
theorem uK(n:Nat):FO 194 (uk n):=mk (U8 [(0,[.slot 5 I],true)]) n Tryz.func194 rfl nl
def np(n:Nat):Mb:=⟨⟨[.box uv,.val false [I],.val false [I]],[(false,QL)]⟩,u8 (N.Qs n)⟩
def qW:An:=Ws [(10,[.slot 72 .bool,.box 0 [some (I,0),some (I,0),some (Pw,0),some (T7,0),some ((.sl 24 (.one Pw)),2),some (Pw,2)]])] [(0,[.slot 9 I,.box 0 [some (I,0),some (I,0),some (Pw,0),some (T7,0),some ((.sl 24 (.one Pw)),2),some (Pw,2)]],true)] [(7,[.box 0 [some (I,0),some (I,0),some (Pw,0),some (T7,0),some ((.sl 24 (.one Pw)),2),some (Pw,2)]],true)] []
theorem sL(n:Nat)(x:(np n).s.ins.D):Lq (find tbl) (plain [(69,yG n),(183,np n),(193,uh n),(194,uk n)]) qW n Tryz.f183 (np n).s x=N.Qs (n+1) x.1 x.2.1 x.2.2.1 x.2.2.2.1 x.2.2.2.2.1 x.2.2.2.2.2.1 x.2.2.2.2.2.2.1 x.2.2.2.2.2.2.2:=by kernel_rfl
theorem uH(n:Nat):FO 183 (np n):=by
 induction n with
 |zero=>exact⟨OM,_,_,Tryz.func183,rfl,by kernel_rfl⟩
 |succ n ih=>exact mk (an:=qW) (n:=n) (sm:=(np n).s) (F:=λ(x:(np n).s.ins.D)=>N.Qs (n+1) x.1 x.2.1 x.2.2.1 x.2.2.2.1 x.2.2.2.2.1 x.2.2.2.2.2.1 x.2.2.2.2.2.2.1 x.2.2.2.2.2.2.2) Tryz.func183 rfl (cn (p9 n) (cn ih (cn (uJ n) (cn (uK n) nl)))) (sL n)
def xT(n:Nat):Mb:=⟨⟨[.val true Sx,.val false [T7]],[(false,V7)]⟩,u4 (N.YP n)⟩
theorem te(n:Nat):FO 166 (xT n):=mk (Ws [] [(0,[.slot 6 I,.box 12 [some (I,0),some (I,0),some (Pw,0),some (T7,0),some ((.sl 24 (.one Pw)),2),some (Pw,2)]],false),(2,[.slot 8 I,.box 12 [some (I,0),some (I,0),some (Pw,0),some (T7,0),some ((.sl 24 (.one Pw)),2),some (Pw,2)]],false)] [(13,[.box 12 [some (I,0),some (I,0),some (Pw,0),some (T7,0),some ((.sl 24 (.one Pw)),2),some (Pw,2)]],false)] []) n Tryz.func166 rfl (cn (uF n) (cn (uG n) (cn (uH n) nl)))
def xB(n:Nat):Mb:=⟨⟨[.val true Sx,.val false [T7]],[(false,[(T7,2)])]⟩,u4 (N.Vo n)⟩
theorem tM(n:Nat):FO 147 (xB n):=mk (Ws [] [(0,[.own 6 43 k6 2 false,.slot 7 I],false)] [(10,[.box 8 [some (I,0),some (I,0),some (I,0),some (.bool,0),some (I,0)]],false)] []) n Tryz.func147 rfl (cn (te n) nl)
def wS(n:Nat):Mb:=⟨⟨[.val true Sx,.val false [T7]],[(false,[(T7,2)])]⟩,u4 (N.XJ n)⟩
theorem si(n:Nat):FO 115 (wS n):=mk Un n Tryz.func115 rfl (cn (rS n) (cn (tM n) nl))
def xC(n:Nat):Mb:=⟨⟨[.val true bX,.val false [I]],[(true,qM),(false,QL)]⟩,u3 (N.XM n)⟩
theorem tN(n:Nat):FO 148 (xC n):=mk Un n Tryz.func148 rfl (cn (nW n) (cn (oy n) nl))
def xD(n:Nat):Mb:=⟨⟨[.val true n7,.val false [I]],[(false,[(jo,2)])]⟩,u6 (N.XN n)⟩
theorem tO(n:Nat):FO 149 (xD n):=mk (Ws [] [(0,[.own 5 117 k3 2 false,.slot 6 I],false)] [(7,[.own 5 117 k3 2 false],false)] []) n Tryz.func149 rfl nl
def xE(n:Nat):Mb:=⟨⟨[.val true [TA],.val false [jo]],[(true,ZB),(false,QL)]⟩,u2 (N.Y8 n)⟩
theorem tP(n:Nat):FO 150 (xE n):=mk Un n Tryz.func150 rfl (cn (o4 n) nl)
def wT(n:Nat):Mb:=⟨⟨[.box ur,.box [(I,0),(I,0),(I,0),(I,0)]],[(false,QL)]⟩,sB (N.XW n)⟩
theorem sj(n:Nat):FO 116 (wT n):=mk (Ws [] [(1,[.slot 11 I,.box 0 [some (I,0),some (I,0),some (Pw,2),some (TA,2),some (I,0),some (ZO,2),some (T7,2),some (X4,0),some (Pw,2),some (Pw,2),some (I,0)]],false)] [(10,[.box 0 [some (I,0),some (I,0),some (Pw,2),some (TA,2),some (I,0),some (ZO,2),some (T7,2),some (X4,0),some (Pw,2),some (Pw,2),some (I,0)]],false),(12,[.box 0 [some (I,0),some (I,0),some (Pw,2),some (TA,2),some (I,0),some (ZO,2),some (T7,2),some (X4,0),some (Pw,2),some (Pw,2),some (I,0)],.box 1 [some (I,0),some (I,0),some (I,0),some (I,0)]],true)] []) n Tryz.func116 rfl (cn (rX n) (cn (uU n) (cn (tN n) (cn (tO n) (cn (tP n) nl)))))
def wU(n:Nat):Mb:=⟨⟨[.val true bX,.val false [I]],[(true,kz),(false,QL)]⟩,u3 (N.YH n)⟩
theorem sn(n:Nat):FO 117 (wU n):=mk Un n Tryz.func117 rfl (cn (o5 n) (cn (nW n) (cn (o8 n) nl)))
def zM(n:Nat):Mb:=⟨⟨[.box ur],[]⟩,qy (N.XY n)⟩
theorem vw(n:Nat):FO 63 (zM n):=mk (Ws [(10,[.slot 93 .bool,.box 0 [some (I,0),some (I,0),some (Pw,2),some (TA,2),some (I,0),some (ZO,2),some (T7,2),some (X4,0),some (Pw,2),some (Pw,2),some (I,0)],.box 7 [some (I,0),some (I,0),some (I,0),some (I,0)]])] [(0,[.own 4 65 k5 2 false,.own 5 3 (.one I) 2 false,.slot 6 I,.box 0 [some (I,0),some (I,0),some (Pw,2),some (TA,2),some (I,0),some (ZO,2),some (T7,2),some (X4,0),some (Pw,2),some (Pw,2),some (I,0)]],false),(2,[.slot 9 I,.box 0 [some (I,0),some (I,0),some (Pw,2),some (TA,2),some (I,0),some (ZO,2),some (T7,2),some (X4,0),some (Pw,2),some (Pw,2),some (I,0)]],false),(4,[.slot 10 .bool,.slot 11 I],false)] [(7,[.own 4 65 k5 2 false,.own 5 3 (.one I) 2 false,.box 0 [some (I,0),some (I,0),some (Pw,2),some (TA,2),some (I,0),some (ZO,2),some (T7,2),some (X4,0),some (Pw,2),some (Pw,2),some (I,0)]],false),(13,[.box 0 [some (I,0),some (I,0),some (Pw,2),some (TA,2),some (I,0),some (ZO,2),some (T7,2),some (X4,0),some (Pw,2),some (Pw,2),some (I,0)]],false)] [(13,[4])]) n Tryz.func63 rfl (cn (rX n) (cn (sg n) (cn (si n) (cn (sj n) (cn (sn n) nl)))))
def yf(n:Nat):Mb:=⟨⟨[.box dx,.val false [I]],[(true,uw)]⟩,u4 (N.XV n)⟩
theorem vY(n:Nat):FO 27 (yf n):=mk (Ws [] [(0,[.slot 6 I,.box 0 [some (jn,0),some (I,0),some (I,0)],.box 5 [some (I,0),some (I,0),some (Pw,2),some (TA,2),some (I,0),some (ZO,2),some (T7,2),some (X4,0),some (Pw,2),some (Pw,2),some (I,0)]],false),(3,[.slot 7 I,.box 5 [some (I,0),some (I,0),some (Pw,2),some (TA,2),some (I,0),some (ZO,2),some (T7,2),some (X4,0),some (Pw,2),some (Pw,2),some (I,0)]],false)] [(7,[.box 0 [some (jn,0),some (I,0),some (I,0)],.box 5 [some (I,0),some (I,0),some (Pw,2),some (TA,2),some (I,0),some (ZO,2),some (T7,2),some (X4,0),some (Pw,2),some (Pw,2),some (I,0)]],false),(33,[.slot 26 .bool],false)] [(12,[5])]) n Tryz.func27 rfl (cn (vT n) (cn (nV n) (cn (vn n) (cn (vp n) (cn (vq n) (cn (vt n) (cn (vu n) (cn (vw n) nl))))))))
def s7(n:Nat):Mb:=⟨⟨[.val false [jn]],[(true,uw)]⟩,N.Ve n⟩
theorem yT(n:Nat):FO 7 (s7 n):=mk Un n Tryz.func7 rfl (cn (vX n) (cn (vY n) (cn (vZ n) nl)))
def yX(n:Nat):Mb:=⟨⟨[.val false [jn],.val false [I]],[(false,RM)]⟩,u2 N.bB⟩
theorem vQ(n:Nat):FO 11 (yX n):=mk Un n Tryz.func11 rfl nl
def zk(n:Nat):Mb:=⟨⟨[.val false [Pw]],[(false,V7)]⟩,N.Sq⟩
theorem uY(n:Nat):FO 88 (zk n):=mk Un n Tryz.func88 rfl nl
def zf(n:Nat):Mb:=⟨⟨[.val true Sx],[(true,qN)]⟩,u3 N.VN⟩
theorem wD(n:Nat):FO 83 (zf n):=mk Un n Tryz.func83 rfl (cn (uY n) nl)
def zg(n:Nat):Mb:=⟨⟨[.val true [TA]],[(true,ZB)]⟩,N.Pt n⟩
theorem qB(n:Nat):FO 84 (zg n):=mk (U8 [(0,[.slot 9 I,.box 3 [some (TA,2)]],false)]) n Tryz.func84 rfl nl
def wX(n:Nat):Mb:=⟨⟨[.val false [oF]],[(false,[(oF,2)])]⟩,N.QS⟩
theorem qh(n:Nat):FO 120 (wX n):=mk Un n Tryz.func120 rfl nl
def xG(n:Nat):Mb:=⟨⟨[.val false [jo]],[(false,[(jo,2)])]⟩,N.Xk⟩
theorem tQ(n:Nat):FO 152 (xG n):=mk Un n Tryz.func152 rfl nl
def wZ(n:Nat):Mb:=⟨⟨[.val true n7],[(true,qM)]⟩,u5 N.Ry⟩
theorem qj(n:Nat):FO 122 (wZ n):=mk Un n Tryz.func122 rfl (cn (qh n) (cn (tQ n) nl))
def zh(n:Nat):Mb:=⟨⟨[.val true bX],[(true,kz)]⟩,u2 (N.Qm n)⟩
theorem uX(n:Nat):FO 85 (zh n):=mk (U8 [(0,[.slot 12 I,.box 3 [some (I,0),some (ZO,2)]],false)]) n Tryz.func85 rfl (cn (qj n) nl)
def zi(n:Nat):Mb:=⟨⟨[.val false [T7]],[(false,[(T7,2)])]⟩,N.Qn⟩
theorem rZ(n:Nat):FO 86 (zi n):=mk Un n Tryz.func86 rfl nl
def zj(n:Nat):Mb:=⟨⟨[.val false [X4]],[(false,[(X4,2)])]⟩,N.QT⟩
theorem ra(n:Nat):FO 87 (zj n):=mk Un n Tryz.func87 rfl nl
def zA(n:Nat):Mb:=⟨⟨[.val true aA],[(true,dv)]⟩,qy (N.RE n)⟩
theorem uS(n:Nat):FO 45 (zA n):=mk Un n Tryz.func45 rfl (cn (wD n) (cn (qB n) (cn (uX n) (cn (rZ n) (cn (ra n) (cn (uY n) nl))))))
def yx(n:Nat):Mb:=⟨⟨[.val false [I],.val false [I],.val false [I]],[(false,QL)]⟩,u3 N.PV⟩
theorem ae(n:Nat):FO 43 (yx n):=mk Un n Tryz.func43 rfl nl
def yq(n:Nat):Mb:=⟨⟨[.val true Sx],[(false,QL)]⟩,u3 (N.SN n)⟩
theorem o6(n:Nat):FO 37 (yq n):=mk (U8 [(0,[.slot 29 I],true)]) n Tryz.func37 rfl (cn (ae n) nl)
def zV(n:Nat):Mb:=⟨⟨[.val true [I,I,qL]],[(false,QL)]⟩,u3 (N.Yz n)⟩
theorem v7(n:Nat):FO 73 (zV n):=mk (U8 [(0,[.slot 24 I],true)]) n Tryz.func73 rfl (cn (ae n) nl)
def yr(n:Nat):Mb:=⟨⟨[.val true [TA]],[(false,QL)]⟩,N.Q0 n⟩
theorem rT(n:Nat):FO 38 (yr n):=mk (U8 [(0,[.slot 10 I],true),(2,[.slot 39 I],true)]) n Tryz.func38 rfl (cn (v7 n) nl)
def zW(n:Nat):Mb:=⟨⟨[.val false [oF]],[(false,QL)]⟩,N.SO n⟩
theorem v8(n:Nat):FO 74 (zW n):=mk (U8 [(0,[.slot 7 I],true)]) n Tryz.func74 rfl (cn (ae n) nl)
def zX(n:Nat):Mb:=⟨⟨[.val false [jo],.val false [oF]],[(false,QL)]⟩,u2 (N.VT n)⟩
theorem wA(n:Nat):FO 75 (zX n):=mk (U8 [(0,[.slot 16 I,.own 5 144 k1 2 false],true),(2,[.slot 8 .bool,.slot 22 I,.own 5 144 k1 2 false],false),(4,[.slot 59 I],true)]) n Tryz.func75 rfl (cn (ae n) (cn (qh n) nl))
def yt(n:Nat):Mb:=⟨⟨[.val true bX],[(false,QL)]⟩,u2 (N.Q5 n)⟩
theorem uQ(n:Nat):FO 39 (yt n):=mk (U8 [(0,[.slot 18 I],true)]) n Tryz.func39 rfl (cn (ae n) (cn (v8 n) (cn (wA n) nl)))
def xF(n:Nat):Mb:=⟨⟨[.val true Sx,.val false [I]],[(false,QL)]⟩,u4 N.TL⟩
theorem qk(n:Nat):FO 151 (xF n):=mk Un n Tryz.func151 rfl (cn (ae n) nl)
def wY(n:Nat):Mb:=⟨⟨[.val true Sx,.val false [I]],[(false,RM)]⟩,u4 (N.Q6 n)⟩
theorem qi(n:Nat):FO 121 (wY n):=mk Un n Tryz.func121 rfl (cn (o6 n) (cn (qk n) nl))
def zY(n:Nat):Mb:=⟨⟨[.val true Sx,.val true mH],[(false,QL)]⟩,u8 (N.Rn n)⟩
theorem uV(n:Nat):FO 76 (zY n):=mk Un n Tryz.func76 rfl (cn (qi n) nl)
def yu(n:Nat):Mb:=⟨⟨[.val true Sx,.val false [T7]],[(false,QL)]⟩,u4 (N.SK n)⟩
theorem p8(n:Nat):FO 40 (yu n):=mk (U8 [(0,[.slot 19 I],true),(2,[.slot 59 I],true)]) n Tryz.func40 rfl (cn (o6 n) (cn (ae n) (cn (uV n) nl)))
def yv(n:Nat):Mb:=⟨⟨[.val false [X4]],[(false,QL)]⟩,N.VM n⟩
theorem uR(n:Nat):FO 41 (yv n):=mk (U8 [(0,[.slot 10 I],true),(2,[.slot 51 I],true)]) n Tryz.func41 rfl (cn (ae n) nl)
def yw(n:Nat):Mb:=⟨⟨[.val false [Pw]],[(false,QL)]⟩,N.UF n⟩
theorem vd(n:Nat):FO 42 (yw n):=mk (U8 [(0,[.slot 7 I],true)]) n Tryz.func42 rfl (cn (ae n) nl)
def zZ(n:Nat):Mb:=⟨⟨[.val true bX,.val false [I]],[(false,RM)]⟩,u3 (N.Qp n)⟩
theorem qA(n:Nat):FO 77 (zZ n):=mk (U8 [(0,[.slot 10 I],true)]) n Tryz.func77 rfl nl
def za(n:Nat):Mb:=⟨⟨[.val true [TA],.val false [I]],[(false,RM)]⟩,u2 (N.SP n)⟩
theorem nX(n:Nat):FO 78 (za n):=mk (U8 [(0,[.slot 10 I],true)]) n Tryz.func78 rfl nl
def zb(n:Nat):Mb:=⟨⟨[.val false [Pw],.val false [I]],[(false,QL)]⟩,u2 (N.Qa n)⟩
theorem nY(n:Nat):FO 79 (zb n):=mk (U8 [(0,[.slot 9 I],true)]) n Tryz.func79 rfl nl
def zc(n:Nat):Mb:=⟨⟨[.val false [jo]],[(false,V7)]⟩,N.Wg n⟩
theorem wC(n:Nat):FO 80 (zc n):=mk (Ws [] [(0,[.own 3 3 (.one I) 2 false,.slot 8 I],false)] [(7,[.own 3 3 (.one I) 2 false],false)] []) n Tryz.func80 rfl (cn (nY n) nl)
def zd(n:Nat):Mb:=⟨⟨[.val false [T7],.val false [I]],[(false,RM)]⟩,u2 (N.Rc n)⟩
theorem rY(n:Nat):FO 81 (zd n):=mk (U8 [(0,[.slot 9 I],true)]) n Tryz.func81 rfl nl
def ze(n:Nat):Mb:=⟨⟨[.val true aA,.val true [I,I,I,I]],[(false,RM)]⟩,sB (N.TK n)⟩
theorem uW(n:Nat):FO 82 (ze n):=mk Un n Tryz.func82 rfl (cn (qA n) (cn (nX n) nl))
def yz(n:Nat):Mb:=⟨⟨[.val true aA,.val true [I,I,I,I]],[(false,QL)]⟩,sB (N.TM n)⟩
theorem ve(n:Nat):FO 44 (yz n):=mk Un n Tryz.func44 rfl (cn (qA n) (cn (nX n) (cn (nY n) (cn (wC n) (cn (rY n) (cn (uW n) nl))))))
def s9(n:Nat):Mb:=⟨⟨[.val true aA],[(false,QL)]⟩,qy (N.RZ n)⟩
theorem yU(n:Nat):FO 9 (s9 n):=mk (U8 [(0,[.slot 56 I],true)]) n Tryz.func9 rfl (cn (o6 n) (cn (rT n) (cn (uQ n) (cn (p8 n) (cn (uR n) (cn (vd n) (cn (ae n) (cn (ve n) nl))))))))
def we(n:Nat):Mb:=⟨⟨[.val false [T7],.val false [X4]],[(false,V7)]⟩,u2 (N.Zz n)⟩
theorem su(n:Nat):FO 128 (we n):=mk (Ws [] [(0,[.own 5 3 (.one I) 2 false,.slot 13 I],false),(2,[.slot 8 .bool,.slot 33 I],false)] [(7,[.own 5 3 (.one I) 2 false],false)] []) n Tryz.func128 rfl nl
def wg(n:Nat):Mb:=⟨⟨[.val true [TA],.val false [X4],.val false [I]],[(false,V7)]⟩,u3 (N.Y0 n)⟩
theorem sv(n:Nat):FO 129 (wg n):=mk (Ws [] [(0,[.own 8 3 (.one I) 2 false,.slot 15 I],false),(2,[.own 7 3 (.one I) 2 false,.own 8 3 (.one I) 2 false,.slot 30 I],false)] [(7,[.own 8 3 (.one I) 2 false],false),(13,[.own 7 3 (.one I) 2 false,.own 8 3 (.one I) 2 false],false)] []) n Tryz.func129 rfl (cn (nX n) (cn (nY n) nl))
def xf(n:Nat):Mb:=⟨⟨[.val true Sx,.val false [I]],[(false,V7)]⟩,u4 N.X9⟩
theorem qt(n:Nat):FO 184 (xf n):=mk (Ws [] [] [(12,[.own 5 3 (.one I) 2 false],false),(18,[.own 5 3 (.one I) 2 false],false),(24,[.own 5 3 (.one I) 2 false],false),(30,[.own 5 3 (.one I) 2 false],false)] []) n Tryz.func184 rfl nl
def xU(n:Nat):Mb:=⟨⟨[.val true Sx,.val false [I],.val false [.bool]],[(false,V7)]⟩,u5 (N.Yh n)⟩
theorem qo(n:Nat):FO 167 (xU n):=mk (Ws [] [(0,[.own 7 3 (.one I) 2 false,.slot 15 I],false)] [(7,[.own 7 3 (.one I) 2 false],false)] []) n Tryz.func167 rfl (cn (qt n) nl)
def xH(n:Nat):Mb:=⟨⟨[.val true Sx,.val false [I],.val false [.bool]],[(false,V7)]⟩,u5 (N.Us n)⟩
theorem qn(n:Nat):FO 153 (xH n):=mk (Ws [] [(0,[.slot 19 I,.own 7 3 (.one I) 2 false],false),(2,[.own 9 3 (.one I) 2 false,.own 7 3 (.one I) 2 false],false),(4,[.own 9 3 (.one I) 2 false,.slot 57 I,.own 7 3 (.one I) 2 false],false)] [(19,[.own 9 3 (.one I) 2 false,.own 7 3 (.one I) 2 false],false)] []) n Tryz.func153 rfl (cn (qo n) nl)
def wh(n:Nat):Mb:=⟨⟨[.val true Sx,.val false [I],.val false [I]],[(false,RM)]⟩,u5 (N.TJ n)⟩
theorem sw(n:Nat):FO 130 (wh n):=mk Un n Tryz.func130 rfl (cn (qi n) (cn (qk n) (cn (qn n) nl)))
def xI(n:Nat):Mb:=⟨⟨[.val false ky],[(false,QL)]⟩,N.W8 n⟩
theorem tR(n:Nat):FO 154 (xI n):=mk (U8 [(0,[.slot 12 I],true),(2,[.slot 33 I],true)]) n Tryz.func154 rfl (cn (ae n) nl)
def xJ(n:Nat):Mb:=⟨⟨[.val false ky],[(false,[((.sl 24 (.one Pw)),2)])]⟩,N.Yx n⟩
theorem tS(n:Nat):FO 155 (xJ n):=mk (Ws [] [(0,[.slot 5 I,.own 4 24 (.one Pw) 2 false],false),(2,[.slot 45 I,.own 4 24 (.one Pw) 2 false],false),(4,[.slot 55 I,.own 4 24 (.one Pw) 2 false],false)] [(9,[.slot 3 I],false),(19,[.own 4 24 (.one Pw) 2 false],false)] []) n Tryz.func155 rfl nl
def wi(n:Nat):Mb:=⟨⟨[.val false ky],[(false,V7),(false,RM)]⟩,N.Xi n⟩
theorem sx(n:Nat):FO 131 (wi n):=mk (U8 [(0,[.own 5 3 (.one I) 2 false,.slot 6 I,.slot 17 I],false),(2,[.own 5 3 (.one I) 2 false,.slot 6 I,.slot 24 I],false)]) n Tryz.func131 rfl (cn (tR n) (cn (tS n) nl))
def wI(n:Nat):Mb:=⟨⟨[.val true Sx,.val true [TA],.val false [T7],.val false [X4]],[(false,[(T7,2)]),(false,[(X4,2)])]⟩,u6 (N.V9 n)⟩
theorem sQ(n:Nat):FO 100 (wI n):=mk (Ws [] [(0,[.own 14 24 (.one Pw) 2 false,.slot 62 I],false),(2,[.own 17 3 (.one I) 2 false,.slot 68 I],false),(4,[.slot 110 I,.own 10 43 k6 2 false,.own 11 65 k5 2 false],false)] [(19,[.own 10 43 k6 2 false,.own 11 65 k5 2 false],false),(48,[.slot 20 I],false)] []) n Tryz.func100 rfl (cn (o6 n) (cn (rT n) (cn (p8 n) (cn (uR n) (cn (nX n) (cn (rZ n) (cn (ra n) (cn (su n) (cn (sv n) (cn (sw n) (cn (sx n) nl)))))))))))
def xK(n:Nat):Mb:=⟨⟨[.val false [T7]],[(false,V7)]⟩,N.Xj n⟩
theorem tT(n:Nat):FO 156 (xK n):=vO (U8 [(0,[.slot 7 I,.box 3 [some (Pw,2)]],false)]) n Tryz.func156 rfl (NK nl pT (by kernel_rfl):JK Tryz.prog TT (M8 _ 168 169 kh []))
def ue(n:Nat):Mb:=⟨⟨[.val true Sx,.val true mH],[(false,V7)]⟩,u8 (N.Ti n)⟩
theorem tn(n:Nat):FO 170 (ue n):=vO (Ws [] [(0,[.slot 58 I,.box 6 [some (Pw,2)]],false)] [(15,[.box 5 [some (Pw,2)]],false),(42,[.box 6 [some (Pw,2)]],false)] []) n Tryz.func170 rfl (NK (cn (o6 n) (cn (uV n) (cn (nY n) (cn (qn n) (cn (qo n) (cn (qt n) nl)))))) mE (by kernel_rfl):JK Tryz.prog TT (M8 _ 168 190 fg [212]))
def uf(n:Nat):Mb:=⟨⟨[.box ry,.val false [I]],[(false,QL)]⟩,u6 (N.Tp n)⟩
theorem tu(n:Nat):FO 171 (uf n):=mk Un n Tryz.func171 rfl (cn (nY n) nl)
def ug(n:Nat):Mb:=⟨⟨[.box ry,.val false [I],.val false [I]],[(false,RM)]⟩,u7 (N.Rz n)⟩
theorem tv(n:Nat):FO 172 (ug n):=mk (U8 [(0,[.slot 14 I],true)]) n Tryz.func172 rfl nl
def nk(n:Nat):Mb:=⟨⟨[.box ry,.val false [I],.val false [I]],[(false,QL)]⟩,u7 (N.P4 n)⟩
def qV:An:=Ws [(4,[.slot 45 .bool,.box 0 [some (I,0),some (I,0),some (Pw,0),some (T7,0),some (Pw,2)]]),(7,[.slot 64 .bool,.box 0 [some (I,0),some (I,0),some (Pw,0),some (T7,0),some (Pw,2)]])] [(0,[.slot 23 I,.box 0 [some (I,0),some (I,0),some (Pw,0),some (T7,0),some (Pw,2)]],true)] [(7,[.box 0 [some (I,0),some (I,0),some (Pw,0),some (T7,0),some (Pw,2)]],true)] []
theorem sK(n:Nat)(x:(nk n).s.ins.D):Lq (find tbl) (plain [(157,nk n),(170,ue n),(171,uf n),(172,ug n)]) qV n Tryz.f157 (nk n).s x=N.P4 (n+1) x.1 x.2.1 x.2.2.1 x.2.2.2.1 x.2.2.2.2.1 x.2.2.2.2.2.1 x.2.2.2.2.2.2:=by kernel_rfl
theorem tU(n:Nat):FO 157 (nk n):=by
 induction n with
 |zero=>exact⟨OM,_,_,Tryz.func157,rfl,by kernel_rfl⟩
 |succ n ih=>exact mk (an:=qV) (n:=n) (sm:=(nk n).s) (F:=λ(x:(nk n).s.ins.D)=>N.P4 (n+1) x.1 x.2.1 x.2.2.1 x.2.2.2.1 x.2.2.2.2.1 x.2.2.2.2.2.1 x.2.2.2.2.2.2) Tryz.func157 rfl (cn ih (cn (tn n) (cn (tu n) (cn (tv n) nl)))) (sK n)
end Go.Proofs.YthlchdmdanagkaaGreat.Ev
