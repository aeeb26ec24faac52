/- Tables of types;summaries of the functions. Conditions: none. -/
import Derived.Test.YthlchdmdanagkaaGreatLib5
import Derived.Test.YthlchdmdanagkaaGreatFnRestockedSort
import Derived.Test.YthlchdmdanagkaaGreatFnRestockedNat
import Derived.Test.YthlchdmdanagkaaGreatProg
import Derived.KernelRfl
set_option linter.all false
namespace Go.Proofs.YthlchdmdanagkaaGreat.Ev
open Go Go.Ev Go.Proofs
set_option maxRecDepth 100000
abbrev I:L:=.int .i64
abbrev TT:List (String×Array Value):=[]
def k0:Ls:=(.cons .str (.one (.int .u64)))
def k1:Ls:=(.cons I (.one I))
def k2:Ls:=(.cons .str (.one (.int .u8)))
def k3:Ls:=(.cons I (.cons I (.one I)))
def k4:Ls:=(.cons I (.cons I (.cons .bool (.one (.int .u8)))))
def k5:Ls:=(.cons I (.cons I (.cons I (.one I))))
def k6:Ls:=(.cons I (.cons I (.cons I (.cons .bool (.one I)))))
def k7:Ls:=(.cons I (.cons I (.one (.sl 3 (.one I)))))
def k8:Ls:=(.cons I (.cons I (.one (.sl 72 k3))))
def k9:Ls:=(.cons (.sl 5 (.one (.int .u8))) (.cons I (.one I)))
def k10:Ls:=(.cons I (.cons I (.cons (.sl 144 k1) (.cons (.sl 117 k3) (.one I)))))
def xB:Ls:=(.cons I (.cons I (.cons (.sl 3 (.one I)) (.cons (.sl 43 k6) (.one (.sl 3 (.one I)))))))
def xC:Ls:=(.cons I (.one (.sl 77 k10)))
def xD:Ls:=(.cons I (.cons I (.cons (.sl 3 (.one I)) (.cons (.sl 43 k6) (.cons (.sl 24 (.one (.sl 3 (.one I)))) (.one (.sl 3 (.one I))))))))
def xE:Ls:=(.cons I (.cons I (.cons (.sl 3 (.one I)) (.cons (.sl 68 k8) (.cons I (.cons (.sl 77 k10) (.cons (.sl 43 k6) (.cons (.sl 65 k5) (.cons (.sl 3 (.one I)) (.cons (.sl 3 (.one I)) (.one I)))))))))))
def tbl:List (Nat×Ty):=[
 (3,⟨false,(.one I),[],false⟩),
 (4,⟨false,(.one .bool),[],false⟩),
 (5,⟨false,(.one (.int .u8)),[],false⟩),
 (9,⟨false,(.one .str),[],false⟩),
 (22,⟨false,(.one (.sl 5 (.one (.int .u8)))),[],false⟩),
 (24,⟨false,(.one (.sl 3 (.one I))),[],false⟩),
 (26,⟨true,k7,[(0,3),(1,3),(2,24)],false⟩),
 (27,⟨false,(.one (.sl 68 k8)),[],false⟩),
 (29,⟨true,(.one (.sl 68 k8)),[(0,27)],false⟩),
 (30,⟨false,(.one (.sl 77 k10)),[],false⟩),
 (32,⟨true,xC,[(0,3),(1,30)],false⟩),
 (33,⟨false,(.one (.sl 43 k6)),[],false⟩),
 (34,⟨false,(.one (.sl 65 k5)),[],false⟩),
 (36,⟨true,xE,[(0,26),(3,29),(4,32),(6,33),(7,34),(8,24),(9,24),(10,3)],false⟩),
 (43,⟨true,k6,[(0,3),(1,3),(2,3),(3,4),(4,3)],true⟩),
 (65,⟨true,k5,[(0,3),(1,3),(2,3),(3,3)],true⟩),
 (66,⟨false,(.one (.sl 72 k3)),[],false⟩),
 (68,⟨true,k8,[(0,3),(1,3),(2,66)],false⟩),
 (72,⟨true,k3,[(0,3),(1,3),(2,3)],true⟩),
 (74,⟨false,(.one (.sl 144 k1)),[],false⟩),
 (75,⟨false,(.one (.sl 117 k3)),[],false⟩),
 (77,⟨true,k10,[(0,3),(1,3),(2,74),(3,75),(4,3)],false⟩),
 (86,⟨true,k9,[(0,22),(1,3),(2,3)],false⟩),
 (117,⟨true,k3,[(0,3),(1,3),(2,3)],true⟩),
 (134,⟨false,(.one (.sl 9 (.one .str))),[],false⟩),
 (144,⟨true,k1,[(0,3),(1,3)],true⟩),
 (161,⟨false,(.one (.sl 24 (.one (.sl 3 (.one I))))),[],false⟩),
 (182,⟨true,xB,[(0,26),(3,33),(4,24)],false⟩),
 (185,⟨false,(.one (.sl 4 (.one .bool))),[],false⟩),
 (199,⟨true,xD,[(0,26),(3,33),(4,161),(5,24)],false⟩)]
theorem tK:tbl.all (λp=>PA Tryz.prog p.1 p.2)=true:=by kernel_rfl
theorem follows:Tryz.prog.follows .mixedOrders=true:=by kernel_rfl
def V6(g:List (Nat×List VP))(b j:List (Nat×List VP×Bool))(p:List (Nat×Is)):An:=⟨find g,find b,find j,λk=>match find p k with|some x=>x|none=>[]⟩
def V8(b:List (Nat×List VP×Bool)):An:=V6 [] b [] []
def VD:An:=V8 []
abbrev FO(f:FuncId)(g:NB):Prop:=LS Tryz.prog TT f g/\K5 Tryz.prog f
theorem nl:Io Tryz.prog TT (find []):=O1
theorem cn{f:FuncId}{g:NB}{l:List (FuncId×NB)}(h:FO f g)(hl:Io Tryz.prog TT (find l)):Io Tryz.prog TT (find ((f,g)::l)):=Ol h.1 h.2 hl
theorem td {l : Env} (an : An) (n : Nat) {sm : Sm} {fn : Func} {f : FuncId} {c : Code} {F : sm.ins.D -> Option sm.outs.D} (hf : Tryz.prog.funcs[f]? = some fn) (hb : fn.body = some c) (hl : Jn Tryz.prog TT l) (hF : ∀ x, MQ (find tbl) l an n fn sm x = F x := by intro x; kernel_rfl) (h1 : decide (sm.ps.length <= fn.ntmps) = true := by kernel_rfl) (h2 : (fn.name == "runtime.NumGoroutine") = false := by kernel_rfl) : FO f ⟨sm, F⟩ := ⟨Od hf hb h1 tK hl follows hF, fn, c, hf, hb, h2⟩
theorem mk {l : List (FuncId × NB)} (an : An) (n : Nat) {sm : Sm} {fn : Func} {f : FuncId} {c : Code} {F : sm.ins.D -> Option sm.outs.D} (hf : Tryz.prog.funcs[f]? = some fn) (hb : fn.body = some c) (hl : Io Tryz.prog TT (find l)) (hF : ∀ x, MQ (find tbl) (plain l) an n fn sm x = F x := by intro x; kernel_rfl) (h1 : decide (sm.ps.length <= fn.ntmps) = true := by kernel_rfl) (h2 : (fn.name == "runtime.NumGoroutine") = false := by kernel_rfl) : FO f ⟨sm, F⟩ := td an n hf hb (Oc hl) hF h1 h2
def u2{α0 α1 β:Type}(f:α0->α1->β)(x:α0×α1):β:=f x.1 x.2
def u3{α0 α1 α2 β:Type}(f:α0->α1->α2->β)(x:α0×α1×α2):β:=f x.1 x.2.1 x.2.2
def u4{α0 α1 α2 α3 β:Type}(f:α0->α1->α2->α3->β)(x:α0×α1×α2×α3):β:=f x.1 x.2.1 x.2.2.1 x.2.2.2
def u5{α0 α1 α2 α3 α4 β:Type}(f:α0->α1->α2->α3->α4->β)(x:α0×α1×α2×α3×α4):β:=f x.1 x.2.1 x.2.2.1 x.2.2.2.1 x.2.2.2.2
def u6{α0 α1 α2 α3 α4 α5 β:Type}(f:α0->α1->α2->α3->α4->α5->β)(x:α0×α1×α2×α3×α4×α5):β:=f x.1 x.2.1 x.2.2.1 x.2.2.2.1 x.2.2.2.2.1 x.2.2.2.2.2
def u7{α0 α1 α2 α3 α4 α5 α6 β:Type}(f:α0->α1->α2->α3->α4->α5->α6->β)(x:α0×α1×α2×α3×α4×α5×α6):β:=f x.1 x.2.1 x.2.2.1 x.2.2.2.1 x.2.2.2.2.1 x.2.2.2.2.2.1 x.2.2.2.2.2.2
def u8{α0 α1 α2 α3 α4 α5 α6 α7 β:Type}(f:α0->α1->α2->α3->α4->α5->α6->α7->β)(x:α0×α1×α2×α3×α4×α5×α6×α7):β:=f x.1 x.2.1 x.2.2.1 x.2.2.2.1 x.2.2.2.2.1 x.2.2.2.2.2.1 x.2.2.2.2.2.2.1 x.2.2.2.2.2.2.2
def u9{α0 α1 α2 α3 α4 α5 α6 α7 α8 β:Type}(f:α0->α1->α2->α3->α4->α5->α6->α7->α8->β)(x:α0×α1×α2×α3×α4×α5×α6×α7×α8):β:=f x.1 x.2.1 x.2.2.1 x.2.2.2.1 x.2.2.2.2.1 x.2.2.2.2.2.1 x.2.2.2.2.2.2.1 x.2.2.2.2.2.2.2.1 x.2.2.2.2.2.2.2.2
def pd{α0 α1 α2 α3 α4 α5 α6 α7 α8 α9 α10 β:Type}(f:α0->α1->α2->α3->α4->α5->α6->α7->α8->α9->α10->β)(x:α0×α1×α2×α3×α4×α5×α6×α7×α8×α9×α10):β:=f x.1 x.2.1 x.2.2.1 x.2.2.2.1 x.2.2.2.2.1 x.2.2.2.2.2.1 x.2.2.2.2.2.2.1 x.2.2.2.2.2.2.2.1 x.2.2.2.2.2.2.2.2.1 x.2.2.2.2.2.2.2.2.2.1 x.2.2.2.2.2.2.2.2.2.2
def wY{α0 α1 α2 α3 α4 α5 α6 α7 α8 α9 α10 α11 β:Type}(f:α0->α1->α2->α3->α4->α5->α6->α7->α8->α9->α10->α11->β)(x:α0×α1×α2×α3×α4×α5×α6×α7×α8×α9×α10×α11):β:=f x.1 x.2.1 x.2.2.1 x.2.2.2.1 x.2.2.2.2.1 x.2.2.2.2.2.1 x.2.2.2.2.2.2.1 x.2.2.2.2.2.2.2.1 x.2.2.2.2.2.2.2.2.1 x.2.2.2.2.2.2.2.2.2.1 x.2.2.2.2.2.2.2.2.2.2.1 x.2.2.2.2.2.2.2.2.2.2.2
def yn{α0 α1 α2 α3 α4 α5 α6 α7 α8 α9 α10 α11 α12 β:Type}(f:α0->α1->α2->α3->α4->α5->α6->α7->α8->α9->α10->α11->α12->β)(x:α0×α1×α2×α3×α4×α5×α6×α7×α8×α9×α10×α11×α12):β:=f x.1 x.2.1 x.2.2.1 x.2.2.2.1 x.2.2.2.2.1 x.2.2.2.2.2.1 x.2.2.2.2.2.2.1 x.2.2.2.2.2.2.2.1 x.2.2.2.2.2.2.2.2.1 x.2.2.2.2.2.2.2.2.2.1 x.2.2.2.2.2.2.2.2.2.2.1 x.2.2.2.2.2.2.2.2.2.2.2.1 x.2.2.2.2.2.2.2.2.2.2.2.2
def wZ{α0 α1 α2 α3 α4 α5 α6 α7 α8 α9 α10 α11 α12 α13 β:Type}(f:α0->α1->α2->α3->α4->α5->α6->α7->α8->α9->α10->α11->α12->α13->β)(x:α0×α1×α2×α3×α4×α5×α6×α7×α8×α9×α10×α11×α12×α13):β:=f x.1 x.2.1 x.2.2.1 x.2.2.2.1 x.2.2.2.2.1 x.2.2.2.2.2.1 x.2.2.2.2.2.2.1 x.2.2.2.2.2.2.2.1 x.2.2.2.2.2.2.2.2.1 x.2.2.2.2.2.2.2.2.2.1 x.2.2.2.2.2.2.2.2.2.2.1 x.2.2.2.2.2.2.2.2.2.2.2.1 x.2.2.2.2.2.2.2.2.2.2.2.2.1 x.2.2.2.2.2.2.2.2.2.2.2.2.2
def qV{α0 α1 α2 α3 α4 α5 α6 α7 α8 α9 α10 α11 α12 α13 α14 β:Type}(f:α0->α1->α2->α3->α4->α5->α6->α7->α8->α9->α10->α11->α12->α13->α14->β)(x:α0×α1×α2×α3×α4×α5×α6×α7×α8×α9×α10×α11×α12×α13×α14):β:=f x.1 x.2.1 x.2.2.1 x.2.2.2.1 x.2.2.2.2.1 x.2.2.2.2.2.1 x.2.2.2.2.2.2.1 x.2.2.2.2.2.2.2.1 x.2.2.2.2.2.2.2.2.1 x.2.2.2.2.2.2.2.2.2.1 x.2.2.2.2.2.2.2.2.2.2.1 x.2.2.2.2.2.2.2.2.2.2.2.1 x.2.2.2.2.2.2.2.2.2.2.2.2.1 x.2.2.2.2.2.2.2.2.2.2.2.2.2.1 x.2.2.2.2.2.2.2.2.2.2.2.2.2.2
abbrev QV:L:=(.sl 3 (.one I))
abbrev Sw:L:=(.sl 68 k8)
abbrev T8:L:=(.sl 43 k6)
abbrev ZY:L:=(.sl 77 k10)
abbrev fM:L:=(.sl 5 (.one (.int .u8)))
abbrev Ye:L:=(.sl 65 k5)
abbrev yq:L:=(.sl 24 (.one (.sl 3 (.one I))))
abbrev iO:L:=(.sl 117 k3)
abbrev mg:L:=(.sl 144 k1)
abbrev o4:L:=(.sl 72 k3)
abbrev ah:List L:=[I,I,QV,Sw,I,ZY,T8,Ye,QV,QV,I]
abbrev Th:List L:=[I,I,QV]
abbrev ja:List L:=[(.sl 24 (.one QV))]
abbrev kf:List L:=[I,I,I,.bool,I]
abbrev mc:List L:=[I,I,mg,iO,I]
abbrev bP:List L:=[I,ZY]
abbrev aD:List (L×Nat):=[(fM,0),(I,0),(I,0)]
abbrev dX:List (L×Nat):=[(I,0),(I,0),(QV,2),(Sw,2),(I,0),(ZY,2),(T8,2),(Ye,2),(QV,2),(QV,2),(I,0)]
abbrev tL:List (L×Nat):=[(I,0),(I,0),(QV,2),(Sw,2),(I,0),(ZY,2),(T8,2),(Ye,0),(QV,2),(QV,2),(I,0)]
abbrev tM:List (L×Nat):=[(I,0),(I,0),(QV,0),(T8,0),((.sl 24 (.one QV)),2),(QV,2)]
abbrev qO:List (L×Nat):=[(I,0),(I,0),(QV,0),(T8,0),(QV,2)]
abbrev Qv:List (L×Nat):=[(.bool,0)]
abbrev o5:List (L×Nat):=[(I,0),(I,0),(QV,0),(Sw,0),(I,0),(ZY,0),(T8,0),(Ye,0),(QV,0),(QV,0),(I,0)]
abbrev RV:List (L×Nat):=[(I,0)]
abbrev WR:List (L×Nat):=[(QV,2)]
abbrev Yy:List (L×Nat):=[(Sw,2)]
abbrev o6:List (L×Nat):=[(I,0),(I,0),(mg,2),(iO,2),(I,0)]
abbrev jb:List (L×Nat):=[(I,0),(ZY,2)]
abbrev o7:List (L×Nat):=[(I,0),(I,0),(QV,2)]
def s6(n:Nat):NB:=⟨⟨[.val false [fM]],[(false,Qv)]⟩,N.eR⟩
theorem xG(n:Nat):FO 6 (s6 n):=mk VD n Tryz.func6 rfl nl
def xQ(n:Nat):NB:=⟨⟨[.val false [fM]],[(false,aD)]⟩,N.ZM n⟩
theorem uA(n:Nat):FO 26 (xQ n):=mk (V8 [(0,[.slot 3 I,.slot 4 I],false)]) n Tryz.func26 rfl nl
def xS(n:Nat):NB:=⟨⟨[.val false [fM],.val false [I]],[(false,RV)]⟩,u2 N.YY⟩
theorem uC(n:Nat):FO 28 (xS n):=mk VD n Tryz.func28 rfl nl
def yc(n:Nat):NB:=⟨⟨[.box aD],[(false,RV)]⟩,u3 N.T3⟩
theorem ue(n:Nat):FO 93 (yc n):=mk (V6 [] [] [(12,[.slot 3 I,.box 0 [some (fM,0),some (I,0),some (I,0)]],false)] []) n Tryz.func93 rfl nl
def wu(n:Nat):NB:=⟨⟨[.box aD,.val false [I]],[(false,RV)]⟩,u4 N.P1⟩
theorem fe(n:Nat):FO 52 (wu n):=mk VD n Tryz.func52 rfl (cn (ue n) nl)
def qL(n:Nat):NB:=⟨⟨[.box aD,.val false [(.sl 9 (.one .str))]],[(false,[(.str,0)])]⟩,u4 N.YF⟩
theorem pN(n:Nat):FO 104 (qL n):=mk VD n Tryz.func104 rfl (cn (fe n) nl)
def vV(n:Nat):NB:=⟨⟨[.val false [.str],.val false [(.int .u8)]],[(false,[((.sl 9 (.one .str)),2)])]⟩,u2 (N.Xn n)⟩
theorem rV(n:Nat):FO 136 (vV n):=mk (V6 [] [(0,[.own 5 9 (.one .str) 2 false,.slot 6 I,.slot 7 I],false)] [(7,[.own 5 9 (.one .str) 2 false,.slot 6 I],false)] []) n Tryz.func136 rfl nl
def xZ(n:Nat):NB:=⟨⟨[.val false [I],.val false [I],.val false [I]],[(false,Qv)]⟩,u3 N.Pw⟩
theorem Zm(n:Nat):FO 35 (xZ n):=mk VD n Tryz.func35 rfl nl
def vW(n:Nat):NB:=⟨⟨[.val false [(.int .u8)]],[(false,RV)]⟩,N.YX n⟩
theorem rW(n:Nat):FO 137 (vW n):=mk (V8 [(0,[.slot 3 I],true)]) n Tryz.func137 rfl nl
def qK(n:Nat):NB:=⟨⟨[.val false [.str]],[(true,o7),(false,RV)]⟩,N.Q9 n⟩
theorem pM(n:Nat):FO 103 (qK n):=mk (V8 [(0,[.slot 6 I,.box 2 [some (I,0),some (I,0),some (QV,2)],.box 5 [some (I,0),some (I,0),some (QV,2)]],true),(2,[.slot 8 I,.box 2 [some (I,0),some (I,0),some (QV,2)],.box 5 [some (I,0),some (I,0),some (QV,2)]],true)]) n Tryz.func103 rfl (cn (Zm n) (cn (rV n) (cn (rW n) nl)))
def wX(n:Nat):NB:=⟨⟨[.box aD,.val false [I]],[(false,Qv)]⟩,u4 N.Sx⟩
theorem nh(n:Nat):FO 91 (wX n):=mk VD n Tryz.func91 rfl (cn (fe n) nl)
def wv(n:Nat):NB:=⟨⟨[.box aD,.val false [QV]],[(false,RV)]⟩,u4 N.Qi⟩
theorem kI(n:Nat):FO 53 (wv n):=mk VD n Tryz.func53 rfl (cn (fe n) nl)
def n7(n:Nat):NB:=⟨⟨[.box aD],[(true,o7)]⟩,u3 (N.Vy n)⟩
def pG:An:=V8 [(0,[.slot 6 I,.box 0 [some (fM,0),some (I,0),some (I,0)],.box 5 [some (I,0),some (I,0),some (QV,2)]],false)]
theorem qg(n:Nat)(x:(n7 n).s.ins.D):MQ (find tbl) (plain [(52,wu n),(53,wv n),(91,wX n),(103,qK n),(104,qL n)]) pG n Tryz.f105 (n7 n).s x=N.Vy n x.1 x.2.1 x.2.2:=by kernel_rfl
theorem qw(n:Nat):FO 105 (n7 n):=mk (an:=pG) (n:=n) (sm:=(n7 n).s) Tryz.func105 rfl (cn (fe n) (cn (kI n) (cn (nh n) (cn (pM n) (cn (pN n) nl))))) (qg n)
def xT(n:Nat):NB:=⟨⟨[.val true Th],[(false,Qv)]⟩,u3 (N.Ra n)⟩
theorem nY(n:Nat):FO 29 (xT n):=mk (V8 [(0,[.slot 3 I],true)]) n Tryz.func29 rfl (cn (Zm n) nl)
def uv(n:Nat):NB:=⟨⟨[.val true Th,.val false [I]],[(false,WR)]⟩,u4 (N.S5 n)⟩
theorem nT(n:Nat):FO 112 (uv n):=mk (V6 [] [(0,[.own 5 3 (.one I) 2 false,.slot 6 I],false)] [(7,[.own 5 3 (.one I) 2 false],false)] []) n Tryz.func112 rfl (cn (nY n) nl)
def tD(n:Nat):NB:=⟨⟨[.box aD,.val true Th],[(true,Yy)]⟩,u6 (N.Xl n)⟩
theorem qy(n:Nat):FO 107 (tD n):=mk (V6 [] [(0,[.slot 7 I,.box 0 [some (fM,0),some (I,0),some (I,0)],.box 5 [some (Sw,2)]],false),(2,[.slot 9 I,.box 0 [some (fM,0),some (I,0),some (I,0)],.box 8 [some (I,0),some (I,0),some (o4,2)]],false)] [(13,[.box 0 [some (fM,0),some (I,0),some (I,0)],.box 8 [some (I,0),some (I,0),some (o4,2)]],false)] []) n Tryz.func107 rfl (cn (kI n) (cn (nT n) nl))
def yB(n:Nat):NB:=⟨⟨[.val false [o4]],[(false,Qv)]⟩,N.Ws n⟩
theorem uR(n:Nat):FO 64 (yB n):=mk (V8 [(0,[.slot 3 I],true)]) n Tryz.func64 rfl (cn (Zm n) nl)
def xU(n:Nat):NB:=⟨⟨[.val true [Sw]],[(false,Qv)]⟩,N.Q1 n⟩
theorem jH(n:Nat):FO 30 (xU n):=mk (V8 [(0,[.slot 3 I],true),(2,[.slot 5 I],true)]) n Tryz.func30 rfl (cn (Zm n) (cn (uR n) nl))
def ye(n:Nat):NB:=⟨⟨[.val true Th],[(true,o7)]⟩,u3 N.W6⟩
theorem tA(n:Nat):FO 95 (ye n):=mk VD n Tryz.func95 rfl nl
def yf(n:Nat):NB:=⟨⟨[.val true [Sw]],[(true,Yy)]⟩,N.QJ n⟩
theorem eW(n:Nat):FO 96 (yf n):=mk (V8 [(0,[.slot 4 I,.box 3 [some (Sw,2)]],false)]) n Tryz.func96 rfl nl
def vL(n:Nat):NB:=⟨⟨[.val true [I,I,o4],.val false [I]],[(true,[(I,0),(I,0),(I,0)])]⟩,u4 (N.SG n)⟩
theorem nV(n:Nat):FO 126 (vL n):=mk (V8 [(0,[.slot 5 I,.box 4 [some (I,0),some (I,0),some (I,0)]],true)]) n Tryz.func126 rfl nl
def vX(n:Nat):NB:=⟨⟨[.val true [Sw],.val false [I]],[(false,RV)]⟩,u2 (N.ZJ n)⟩
theorem rX(n:Nat):FO 138 (vX n):=mk (V8 [(0,[.slot 5 I,.slot 6 I],false)]) n Tryz.func138 rfl (cn (jH n) (cn (nV n) nl))
def tC(n:Nat):NB:=⟨⟨[.val true Th,.val true [Sw]],[(true,dX),(false,Qv)]⟩,u4 (N.Wf n)⟩
theorem qx(n:Nat):FO 106 (tC n):=mk (V8 [(0,[.slot 7 I,.box 4 [some (I,0),some (I,0),some (QV,2),some (Sw,2),some (I,0),some (ZY,2),some (T8,2),some (Ye,2),some (QV,2),some (QV,2),some (I,0)]],true),(2,[.slot 8 I,.box 4 [some (I,0),some (I,0),some (QV,2),some (Sw,2),some (I,0),some (ZY,2),some (T8,2),some (Ye,2),some (QV,2),some (QV,2),some (I,0)]],true),(4,[.slot 9 I,.box 6 [some (I,0),some (I,0),some (QV,2),some (Sw,2),some (I,0),some (ZY,2),some (T8,2),some (Ye,2),some (QV,2),some (QV,2),some (I,0)]],false),(6,[.slot 11 I,.box 6 [some (I,0),some (I,0),some (QV,2),some (Sw,2),some (I,0),some (ZY,2),some (T8,2),some (Ye,2),some (QV,2),some (QV,2),some (I,0)]],false)]) n Tryz.func106 rfl (cn (nY n) (cn (jH n) (cn (Zm n) (cn (tA n) (cn (eW n) (cn (nT n) (cn (rX n) nl)))))))
def tS(n:Nat):NB:=⟨⟨[.box aD],[(true,dX)]⟩,u3 (N.Uq n)⟩
def qY:An:=V6 [] [] [(9,[.box 0 [some (fM,0),some (I,0),some (I,0)],.box 3 [some (I,0),some (I,0),some (QV,2)]],false)] [(4,[3])]
theorem tZ(n:Nat)(x:(tS n).s.ins.D):MQ (find tbl) (plain [(91,wX n),(103,qK n),(104,qL n),(105,n7 n),(106,tC n),(107,tD n)]) qY n Tryz.f58 (tS n).s x=N.Uq n x.1 x.2.1 x.2.2:=by kernel_rfl
theorem uL(n:Nat):FO 58 (tS n):=mk (an:=qY) (n:=n) (sm:=(tS n).s) Tryz.func58 rfl (cn (nh n) (cn (pM n) (cn (pN n) (cn (qw n) (cn (qx n) (cn (qy n) nl)))))) (tZ n)
def xw(n:Nat):NB:=⟨⟨[.box aD,.val true Th],[(false,RV)]⟩,u6 (N.Xi n)⟩
theorem uN(n:Nat):FO 60 (xw n):=mk (V6 [(2,[.slot 14 .bool,.box 0 [some (fM,0),some (I,0),some (I,0)]])] [] [] []) n Tryz.func60 rfl (cn (fe n) (cn (nh n) (cn (nT n) nl)))
def xy(n:Nat):NB:=⟨⟨[.box aD],[(false,[(mg,2)])]⟩,u3 (N.YW n)⟩
theorem uO(n:Nat):FO 61 (xy n):=mk (V6 [] [(0,[.own 3 144 k1 2 false,.slot 4 I,.box 0 [some (fM,0),some (I,0),some (I,0)]],false)] [(7,[.own 3 144 k1 2 false,.box 0 [some (fM,0),some (I,0),some (I,0)]],false)] []) n Tryz.func61 rfl (cn (kI n) (cn (nh n) nl))
def vK(n:Nat):NB:=⟨⟨[.val true mc],[(true,o6)]⟩,u5 N.Qd⟩
theorem nU(n:Nat):FO 125 (vK n):=mk VD n Tryz.func125 rfl nl
def yg(n:Nat):NB:=⟨⟨[.val true bP],[(true,jb)]⟩,u2 (N.SE n)⟩
theorem ni(n:Nat):FO 97 (yg n):=mk (V8 [(0,[.slot 4 I,.box 3 [some (I,0),some (ZY,2)]],false)]) n Tryz.func97 rfl (cn (nU n) nl)
def xr(n:Nat):NB:=⟨⟨[.val true ah],[(true,dX)]⟩,pd (N.S7 n)⟩
theorem od(n:Nat):FO 55 (xr n):=mk VD n Tryz.func55 rfl (cn (tA n) (cn (eW n) (cn (ni n) nl)))
def vD(n:Nat):NB:=⟨⟨[.val false [mg]],[(false,Qv)]⟩,N.Rc n⟩
theorem pO(n:Nat):FO 118 (vD n):=mk (V8 [(0,[.slot 3 I],true)]) n Tryz.func118 rfl (cn (Zm n) nl)
def vE(n:Nat):NB:=⟨⟨[.val false [iO],.val false [I]],[(false,RV)]⟩,u2 (N.YV n)⟩
theorem rI(n:Nat):FO 119 (vE n):=mk (V6 [] [(0,[.slot 5 I,.slot 6 I],false)] [(7,[.slot 5 I],false)] []) n Tryz.func119 rfl nl
def yC(n:Nat):NB:=⟨⟨[.val true mc],[(false,Qv)]⟩,u5 (N.Wo n)⟩
theorem uS(n:Nat):FO 65 (yC n):=mk (V8 [(0,[.slot 3 I,.slot 4 I],false),(2,[.slot 3 I,.slot 5 I],true),(4,[.slot 7 I],true)]) n Tryz.func65 rfl (cn (Zm n) (cn (pO n) (cn (rI n) nl)))
def xV(n:Nat):NB:=⟨⟨[.val true bP],[(false,Qv)]⟩,u2 (N.RP n)⟩
theorem nZ(n:Nat):FO 31 (xV n):=mk (V8 [(0,[.slot 3 I],true)]) n Tryz.func31 rfl (cn (Zm n) (cn (uS n) nl))
def yD(n:Nat):NB:=⟨⟨[.val true Th,.val false [I]],[(false,Qv)]⟩,u4 N.W8⟩
theorem uT(n:Nat):FO 66 (yD n):=mk VD n Tryz.func66 rfl (cn (Zm n) nl)
def xW(n:Nat):NB:=⟨⟨[.val true Th,.val false [T8]],[(false,Qv)]⟩,u4 (N.VQ n)⟩
theorem qC(n:Nat):FO 32 (xW n):=mk (V8 [(0,[.slot 5 I],true),(2,[.slot 7 I],true)]) n Tryz.func32 rfl (cn (nY n) (cn (Zm n) (cn (uT n) nl)))
def xX(n:Nat):NB:=⟨⟨[.val false [Ye]],[(false,Qv)]⟩,N.Vw n⟩
theorem sn(n:Nat):FO 33 (xX n):=mk (V8 [(0,[.slot 3 I],true),(2,[.slot 6 I],true)]) n Tryz.func33 rfl (cn (Zm n) nl)
def xY(n:Nat):NB:=⟨⟨[.val false [QV]],[(false,Qv)]⟩,N.Tz n⟩
theorem uD(n:Nat):FO 34 (xY n):=mk (V8 [(0,[.slot 3 I],true)]) n Tryz.func34 rfl (cn (Zm n) nl)
def yE(n:Nat):NB:=⟨⟨[.val true bP,.val false [I]],[(false,RV)]⟩,u3 (N.Rd n)⟩
theorem mI(n:Nat):FO 67 (yE n):=mk (V8 [(0,[.slot 5 I],true)]) n Tryz.func67 rfl nl
def yF(n:Nat):NB:=⟨⟨[.val true [Sw],.val false [I]],[(false,RV)]⟩,u2 (N.Q4 n)⟩
theorem nc(n:Nat):FO 68 (yF n):=mk (V8 [(0,[.slot 5 I],true)]) n Tryz.func68 rfl nl
def wx(n:Nat):NB:=⟨⟨[.val false [QV],.val false [I]],[(false,Qv)]⟩,u2 (N.Qu n)⟩
theorem oe(n:Nat):FO 69 (wx n):=mk (V8 [(0,[.slot 5 I],true)]) n Tryz.func69 rfl nl
def yG(n:Nat):NB:=⟨⟨[.val false [iO]],[(false,WR)]⟩,N.VR n⟩
theorem qD(n:Nat):FO 70 (yG n):=mk (V6 [] [(0,[.own 3 3 (.one I) 2 false,.slot 4 I],false)] [(7,[.own 3 3 (.one I) 2 false],false)] []) n Tryz.func70 rfl (cn (oe n) nl)
def yH(n:Nat):NB:=⟨⟨[.val false [T8],.val false [I]],[(false,RV)]⟩,u2 (N.TV n)⟩
theorem qE(n:Nat):FO 71 (yH n):=mk (V8 [(0,[.slot 5 I],true)]) n Tryz.func71 rfl nl
def yI(n:Nat):NB:=⟨⟨[.val true ah,.val true [I,I,I,I]],[(false,RV)]⟩,qV (N.Q2 n)⟩
theorem sv(n:Nat):FO 72 (yI n):=mk VD n Tryz.func72 rfl (cn (mI n) (cn (nc n) nl))
def xa(n:Nat):NB:=⟨⟨[.val true ah,.val true [I,I,I,I]],[(false,Qv)]⟩,qV (N.US n)⟩
theorem uE(n:Nat):FO 36 (xa n):=mk VD n Tryz.func36 rfl (cn (mI n) (cn (nc n) (cn (oe n) (cn (qD n) (cn (qE n) (cn (sv n) nl))))))
def s8(n:Nat):NB:=⟨⟨[.val true ah],[(false,Qv)]⟩,pd (N.UM n)⟩
theorem uX(n:Nat):FO 8 (s8 n):=mk (V8 [(0,[.slot 3 I],true)]) n Tryz.func8 rfl (cn (nY n) (cn (jH n) (cn (nZ n) (cn (qC n) (cn (sn n) (cn (uD n) (cn (Zm n) (cn (uE n) nl))))))))
def vY(n:Nat):NB:=⟨⟨[.val true Th,.val false [I]],[(false,Qv)]⟩,u4 (N.T4 n)⟩
theorem nW(n:Nat):FO 139 (vY n):=mk VD n Tryz.func139 rfl (cn (nY n) (cn (Zm n) nl))
def uk(n:Nat):NB:=⟨⟨[.val true Th,.val false [I]],[(false,RV)]⟩,u4 (N.YT n)⟩
theorem qz(n:Nat):FO 108 (uk n):=mk VD n Tryz.func108 rfl (cn (nW n) nl)
def um(n:Nat):NB:=⟨⟨[.val true bP],[(true,jb)]⟩,u2 (N.YC n)⟩
theorem rA(n:Nat):FO 109 (um n):=mk (V6 [] [(0,[.slot 4 I,.box 3 [some (I,0),some (ZY,2)]],false)] [(7,[.box 3 [some (I,0),some (ZY,2)]],false)] []) n Tryz.func109 rfl (cn (nZ n) (cn (ni n) (cn (nU n) nl)))
def v7(n:Nat):NB:=⟨⟨[.val true [I,I,o4],.val false [mg]],[(false,[(iO,2)]),(false,RV)]⟩,u4 (N.V2 n)⟩
theorem sC(n:Nat):FO 160 (v7 n):=mk (V6 [] [(0,[.own 6 117 k3 2 false,.slot 7 I,.slot 8 I],false)] [(7,[.own 6 117 k3 2 false,.slot 7 I],false),(27,[.slot 10 I],false)] []) n Tryz.func160 rfl (cn (nV n) nl)
def vZ(n:Nat):NB:=⟨⟨[.val true [Sw],.val false [mg]],[(false,[(iO,2)]),(false,Qv)]⟩,u2 (N.Tw n)⟩
theorem rY(n:Nat):FO 140 (vZ n):=mk (V6 [] [(0,[.own 4 117 k3 2 false,.slot 5 .bool,.own 9 117 k3 2 false,.own 6 117 k3 2 false,.own 7 144 k1 2 false,.own 8 4 (.one .bool) 2 false],true),(2,[.slot 10 I,.slot 11 I],false),(4,[.slot 12 I,.slot 13 I,.slot 14 I],false),(6,[.slot 19 I,.own 7 144 k1 2 false],false),(8,[.slot 20 I,.own 7 144 k1 2 false],false)] [(19,[.slot 12 I,.slot 13 I],false),(31,[.own 7 144 k1 2 false],false)] []) n Tryz.func140 rfl (cn (jH n) (cn (pO n) (cn (sC n) nl)))
def yh(n:Nat):NB:=⟨⟨[.val true [Sw],.val false [I],.val false [I],.val false [I]],[(false,RV),(true,[(I,0),(I,0),(I,0)]),(false,RV)]⟩,u4 (N.T6 n)⟩
theorem oh(n:Nat):FO 98 (yh n):=mk VD n Tryz.func98 rfl (cn (jH n) (cn (Zm n) (cn (nc n) (cn (nV n) nl))))
def vM(n:Nat):NB:=⟨⟨[.val false [o4],.val true [I,I,I]],[(false,[(o4,2)])]⟩,u4 (N.VS n)⟩
theorem rL(n:Nat):FO 127 (vM n):=mk (V6 [] [(0,[.own 5 72 k3 2 false,.slot 6 .bool,.slot 7 I],false)] [(7,[.own 5 72 k3 2 false,.slot 6 .bool],false),(21,[.own 5 72 k3 2 false,.slot 6 .bool],false),(36,[.own 5 72 k3 2 false],false)] []) n Tryz.func127 rfl nl
def yi(n:Nat):NB:=⟨⟨[.val true [Sw],.val false [I],.val true [I,I,I]],[(true,Yy)]⟩,u5 (N.S9 n)⟩
theorem oq(n:Nat):FO 99 (yi n):=mk VD n Tryz.func99 rfl (cn (eW n) (cn (rL n) nl))
def wI(n:Nat):NB:=⟨⟨[.val true [Sw],.val false [I],.val false [I],.val false [I]],[(true,Yy),(false,RV)]⟩,u4 (N.Z7 n)⟩
theorem sN(n:Nat):FO 176 (wI n):=mk VD n Tryz.func176 rfl (cn (eW n) (cn (oh n) (cn (oq n) nl)))
def wJ(n:Nat):NB:=⟨⟨[.val true [Sw],.val false [I],.val false [I],.val false [I]],[(true,Yy),(false,RV)]⟩,u4 (N.Xc n)⟩
theorem sO(n:Nat):FO 177 (wJ n):=mk VD n Tryz.func177 rfl (cn (eW n) (cn (oh n) (cn (oq n) nl)))
def wK(n:Nat):NB:=⟨⟨[.val true [Sw],.val false [I],.val false [I],.val false [I]],[(true,Yy),(false,RV)]⟩,u4 (N.Xd n)⟩
theorem sP(n:Nat):FO 178 (wK n):=mk VD n Tryz.func178 rfl (cn (eW n) (cn (oh n) (cn (oq n) nl)))
def v8(n:Nat):NB:=⟨⟨[.val true [Sw],.val false [iO],.val false [I]],[(true,Yy),(false,Qv)]⟩,u3 (N.Sy n)⟩
theorem nX(n:Nat):FO 161 (v8 n):=mk (V6 [] [(0,[.slot 9 I,.box 6 [some (Sw,2)],.box 8 [some (Sw,2)]],true)] [(24,[.slot 11 I,.box 8 [some (Sw,2)]],false)] []) n Tryz.func161 rfl (cn (eW n) (cn (sN n) (cn (sO n) (cn (sP n) nl))))
def va(n:Nat):NB:=⟨⟨[.val true [Sw],.val false [iO]],[(true,Yy),(false,Qv)]⟩,u2 (N.XZ n)⟩
theorem rZ(n:Nat):FO 141 (va n):=mk VD n Tryz.func141 rfl (cn (nX n) nl)
def uq(n:Nat):NB:=⟨⟨[.val true [Sw],.val true bP,.val false [I],.val false [mg]],[(true,Yy),(true,jb),(false,RV)]⟩,u5 (N.Tv n)⟩
theorem rB(n:Nat):FO 110 (uq n):=mk VD n Tryz.func110 rfl (cn (jH n) (cn (nZ n) (cn (Zm n) (cn (eW n) (cn (ni n) (cn (rY n) (cn (rZ n) nl)))))))
def ur(n:Nat):NB:=⟨⟨[.val true mc],[(false,[(Ye,2)])]⟩,u5 (N.Xe n)⟩
theorem rC(n:Nat):FO 111 (ur n):=mk (V8 [(0,[.own 3 65 k5 2 false,.slot 5 I],false)]) n Tryz.func111 rfl (cn (qD n) nl)
def xv(n:Nat):NB:=⟨⟨[.val true ah,.val false [I],.val false [mg]],[(true,dX),(false,RV)]⟩,yn (N.Z8 n)⟩
theorem uM(n:Nat):FO 59 (xv n):=mk (V6 [] [] [(18,[.box 9 [some (I,0),some (ZY,0)]],false)] []) n Tryz.func59 rfl (cn (uX n) (cn (od n) (cn (qz n) (cn (rA n) (cn (rB n) (cn (rC n) nl))))))
def vb(n:Nat):NB:=⟨⟨[.val true [Sw],.val false [iO]],[(true,Yy),(false,Qv)]⟩,u2 (N.U5 n)⟩
theorem ra(n:Nat):FO 142 (vb n):=mk VD n Tryz.func142 rfl (cn (nX n) nl)
def uw(n:Nat):NB:=⟨⟨[.val true [Sw],.val true bP,.val false [I]],[(true,Yy),(true,jb),(false,Qv)]⟩,u4 (N.Wn n)⟩
theorem rD(n:Nat):FO 113 (uw n):=mk VD n Tryz.func113 rfl (cn (jH n) (cn (nZ n) (cn (mI n) (cn (eW n) (cn (ni n) (cn (ra n) nl))))))
def xz(n:Nat):NB:=⟨⟨[.val true ah,.val false [I]],[(true,dX),(false,Qv)]⟩,wY (N.Z6 n)⟩
theorem uP(n:Nat):FO 62 (xz n):=mk (V6 [] [(0,[.slot 8 I,.own 9 65 k5 2 false,.slot 10 I,.box 4 [some (I,0),some (I,0),some (QV,2),some (Sw,2),some (I,0),some (ZY,2),some (T8,2),some (Ye,2),some (QV,2),some (QV,2),some (I,0)],.box 6 [some (I,0),some (I,0),some (QV,2),some (Sw,2),some (I,0),some (ZY,2),some (T8,2),some (Ye,2),some (QV,2),some (QV,2),some (I,0)]],true)] [(7,[.slot 8 I,.own 9 65 k5 2 false,.box 4 [some (I,0),some (I,0),some (QV,2),some (Sw,2),some (I,0),some (ZY,2),some (T8,2),some (Ye,2),some (QV,2),some (QV,2),some (I,0)],.box 6 [some (I,0),some (I,0),some (QV,2),some (Sw,2),some (I,0),some (ZY,2),some (T8,2),some (Ye,2),some (QV,2),some (QV,2),some (I,0)]],true)] []) n Tryz.func62 rfl (cn (uX n) (cn (od n) (cn (mI n) (cn (qD n) (cn (rD n) nl)))))
def xt(n:Nat):NB:=⟨⟨[.val true [Sw],.val false [I],.val false [I],.val false [I]],[(true,Yy),(false,RV)]⟩,u4 (N.ZK n)⟩
theorem uJ(n:Nat):FO 56 (xt n):=mk VD n Tryz.func56 rfl (cn (eW n) (cn (oh n) (cn (oq n) nl)))
def xL(n:Nat):NB:=⟨⟨[.val true ah,.val false [I],.val false [I],.val false [I]],[(true,dX),(false,RV)]⟩,wZ (N.S6 n)⟩
theorem sd(n:Nat):FO 21 (xL n):=mk VD n Tryz.func21 rfl (cn (uX n) (cn (od n) (cn (uJ n) nl)))
def vd(n:Nat):NB:=⟨⟨[.val false [T8],.val false [Ye]],[(false,WR)]⟩,u2 (N.Xg n)⟩
theorem re(n:Nat):FO 143 (vd n):=mk (V6 [] [(0,[.own 5 3 (.one I) 2 false,.slot 6 I],false),(2,[.slot 7 .bool,.slot 8 I],false)] [(7,[.own 5 3 (.one I) 2 false],false)] []) n Tryz.func143 rfl nl
def ve(n:Nat):NB:=⟨⟨[.val true [Sw],.val false [Ye],.val false [I]],[(false,WR)]⟩,u3 (N.Wp n)⟩
theorem rf(n:Nat):FO 144 (ve n):=mk (V6 [] [(0,[.own 8 3 (.one I) 2 false,.slot 9 I],false),(2,[.own 7 3 (.one I) 2 false,.own 8 3 (.one I) 2 false,.slot 10 I],false)] [(7,[.own 8 3 (.one I) 2 false],false),(13,[.own 7 3 (.one I) 2 false,.own 8 3 (.one I) 2 false],false)] []) n Tryz.func144 rfl (cn (nc n) (cn (oe n) nl))
def wV(n:Nat):NB:=⟨⟨[.val true Th,.val false [I]],[(false,WR)]⟩,u4 N.Ur⟩
theorem sg(n:Nat):FO 210 (wV n):=mk (V6 [] [] [(15,[.own 5 3 (.one I) 2 false],false),(21,[.own 5 3 (.one I) 2 false],false),(27,[.own 5 3 (.one I) 2 false],false),(33,[.own 5 3 (.one I) 2 false],false)] []) n Tryz.func210 rfl nl
def wT(n:Nat):NB:=⟨⟨[.val true Th,.val false [I],.val false [.bool]],[(false,WR)]⟩,u5 (N.W7 n)⟩
theorem pX(n:Nat):FO 207 (wT n):=mk (V6 [] [(0,[.own 7 3 (.one I) 2 false,.slot 9 I],false)] [(7,[.own 7 3 (.one I) 2 false],false)] []) n Tryz.func207 rfl (cn (sg n) nl)
def wR(n:Nat):NB:=⟨⟨[.val true Th,.val false [I],.val false [.bool]],[(false,WR)]⟩,u5 (N.UT n)⟩
theorem pW(n:Nat):FO 192 (wR n):=mk (V6 [] [(0,[.own 7 3 (.one I) 2 false,.slot 8 I],false),(2,[.own 9 3 (.one I) 2 false,.slot 10 I,.own 7 3 (.one I) 2 false],false),(4,[.own 9 3 (.one I) 2 false,.slot 13 I,.own 7 3 (.one I) 2 false],false)] [(13,[.own 9 3 (.one I) 2 false,.own 7 3 (.one I) 2 false],false),(19,[.own 9 3 (.one I) 2 false,.own 7 3 (.one I) 2 false],false)] []) n Tryz.func192 rfl (cn (pX n) nl)
def wL(n:Nat):NB:=⟨⟨[.val true Th,.val false [I],.val false [.bool]],[(false,WR)]⟩,u5 (N.YA n)⟩
theorem sQ(n:Nat):FO 179 (wL n):=mk VD n Tryz.func179 rfl (cn (nW n) (cn (pW n) nl))
def wA(n:Nat):NB:=⟨⟨[.val true Th,.val false [I],.val false [I]],[(false,RV)]⟩,u5 (N.Tx n)⟩
theorem sD(n:Nat):FO 162 (wA n):=mk VD n Tryz.func162 rfl (cn (nW n) (cn (sQ n) nl))
def vg(n:Nat):NB:=⟨⟨[.val true Th,.val false [I],.val false [I]],[(false,RV)]⟩,u5 (N.Xf n)⟩
theorem rh(n:Nat):FO 145 (vg n):=mk VD n Tryz.func145 rfl (cn (sD n) nl)
def wB(n:Nat):NB:=⟨⟨[.val false ja],[(false,Qv)]⟩,N.XY n⟩
theorem sE(n:Nat):FO 163 (wB n):=mk (V8 [(0,[.slot 3 I],true),(2,[.slot 4 I],true)]) n Tryz.func163 rfl (cn (Zm n) nl)
def wM(n:Nat):NB:=⟨⟨[.val false ja,.row false WR,.row false WR,.row false WR,.val false [I]],[]⟩,u5 (N.YZ n)⟩
theorem sR(n:Nat):FO 180 (wM n):=mk (V6 [] [(0,[.slot 14 I,.own 11 3 (.one I) 2 false],false),(2,[.slot 15 I,.own 1 3 (.one I) 2 true,.own 2 3 (.one I) 2 true,.own 11 3 (.one I) 2 false,.own 12 3 (.one I) 2 false,.own 13 4 (.one .bool) 2 false],false),(4,[.slot 17 I,.slot 18 I,.slot 19 I,.own 11 3 (.one I) 2 false,.own 12 3 (.one I) 2 false],false),(6,[.slot 21 I,.own 1 3 (.one I) 2 true,.own 2 3 (.one I) 2 true,.own 11 3 (.one I) 2 false],false),(8,[.slot 15 I,.own 3 3 (.one I) 2 true],false)] [(19,[.slot 17 I,.slot 18 I,.own 11 3 (.one I) 2 false,.own 12 3 (.one I) 2 false],false),(25,[.own 1 3 (.one I) 2 true,.own 2 3 (.one I) 2 true,.own 11 3 (.one I) 2 false],false),(57,[.own 11 3 (.one I) 2 false,.own 12 3 (.one I) 2 false],false)] []) n Tryz.func180 rfl nl
def wC(n:Nat):NB:=⟨⟨[.val false ja],[(false,RV)]⟩,N.S8 n⟩
theorem sF(n:Nat):FO 164 (wC n):=mk (V6 [] [(0,[.slot 8 I,.own 5 3 (.one I) 2 false,.own 6 3 (.one I) 2 false,.own 7 3 (.one I) 2 false],false),(2,[.slot 9 I,.slot 10 I],false)] [(13,[.slot 9 I],false)] []) n Tryz.func164 rfl (cn (sR n) nl)
def wD(n:Nat):NB:=⟨⟨[.val false ja,.val false [I]],[(false,[((.sl 24 (.one QV)),0)])]⟩,u2 (N.Sr n)⟩
theorem sG(n:Nat):FO 165 (wD n):=mk (V8 [(0,[.own 5 24 (.one QV) 2 false,.slot 6 I],false)]) n Tryz.func165 rfl nl
def vh(n:Nat):NB:=⟨⟨[.val false ja],[(false,WR),(false,RV)]⟩,N.WQ n⟩
theorem ri(n:Nat):FO 146 (vh n):=mk (V8 [(0,[.own 8 3 (.one I) 2 false,.slot 9 I],false),(2,[.own 4 3 (.one I) 2 false,.slot 6 I,.slot 7 (.sl 24 (.one QV)),.own 8 3 (.one I) 2 false],false),(4,[.own 4 3 (.one I) 2 false,.slot 6 I,.slot 7 (.sl 24 (.one QV)),.own 8 3 (.one I) 2 false,.slot 10 I],false)]) n Tryz.func146 rfl (cn (sE n) (cn (sF n) (cn (sG n) nl)))
def uz(n:Nat):NB:=⟨⟨[.val true Th,.val true [Sw],.val false [T8],.val false [Ye]],[(false,[(T8,2)]),(false,[(Ye,2)])]⟩,u6 (N.Wg n)⟩
theorem rE(n:Nat):FO 114 (uz n):=mk (V6 [] [(0,[.own 14 24 (.one QV) 2 false,.slot 15 I],false),(2,[.own 16 3 (.one I) 2 false,.slot 17 I],false),(4,[.slot 20 I,.own 10 43 k6 2 false,.own 11 65 k5 2 false],false)] [(19,[.own 10 43 k6 2 false,.own 11 65 k5 2 false],false)] []) n Tryz.func114 rfl (cn (jH n) (cn (qC n) (cn (sn n) (cn (nc n) (cn (re n) (cn (rf n) (cn (rh n) (cn (ri n) nl))))))))
def wN(n:Nat):NB:=⟨⟨[.val true Th,.val true kf],[(false,WR)]⟩,u8 (N.UW n)⟩
theorem sS(n:Nat):FO 181 (wN n):=mk VD n Tryz.func181 rfl (cn (pW n) nl)
def wO(n:Nat):NB:=⟨⟨[.val false [T8]],[(false,WR)]⟩,N.YD n⟩
theorem sT(n:Nat):FO 182 (wO n):=mk (V8 [(0,[.own 3 3 (.one I) 2 false,.slot 4 I],false),(2,[.slot 5 I,.own 3 3 (.one I) 2 false],false)]) n Tryz.func182 rfl nl
def wW(n:Nat):NB:=⟨⟨[.val true kf,.val false [QV],.val false [I]],[(false,RV)]⟩,u7 N.VT⟩
theorem si(n:Nat):FO 211 (wW n):=mk VD n Tryz.func211 rfl nl
def wU(n:Nat):NB:=⟨⟨[.val true kf,.val false [QV],.val false [I],.val false [I]],[(false,Qv)]⟩,u8 N.Wt⟩
theorem sZ(n:Nat):FO 208 (wU n):=mk VD n Tryz.func208 rfl (cn (si n) nl)
def tH(n:Nat):NB:=⟨⟨[.val true Th,.val true kf,.val false [QV]],[(false,WR)]⟩,u9 (N.Ss n)⟩
theorem sW(n:Nat):FO 193 (tH n):=mk (V6 [] [(0,[.own 7 3 (.one I) 2 false,.slot 9 I],false),(2,[.own 10 3 (.one I) 2 false,.slot 11 I],false),(4,[.slot 12 I,.own 10 3 (.one I) 2 false],false)] [(7,[.own 7 3 (.one I) 2 false],false)] []) n Tryz.func193 rfl (cn (pX n) (cn (sZ n) nl))
def tI(n:Nat):NB:=⟨⟨[.box tM,.val false [I]],[(false,RV)]⟩,u7 (N.YG n)⟩
theorem sX(n:Nat):FO 194 (tI n):=mk (V8 [(0,[.slot 5 I],true)]) n Tryz.func194 rfl nl
def mV(n:Nat):NB:=⟨⟨[.box tM,.val false [I],.val false [I]],[(false,Qv)]⟩,u8 (N.RO n)⟩
def pI:An:=V6 [(10,[.slot 72 .bool,.box 0 [some (I,0),some (I,0),some (QV,0),some (T8,0),some ((.sl 24 (.one QV)),2),some (QV,2)]])] [(0,[.slot 9 I,.box 0 [some (I,0),some (I,0),some (QV,0),some (T8,0),some ((.sl 24 (.one QV)),2),some (QV,2)]],true)] [(7,[.box 0 [some (I,0),some (I,0),some (QV,0),some (T8,0),some ((.sl 24 (.one QV)),2),some (QV,2)]],true)] []
theorem qi(n:Nat)(x:(mV n).s.ins.D):MQ (find tbl) (plain [(69,wx n),(183,mV n),(193,tH n),(194,tI n)]) pI n Tryz.f183 (mV n).s x=N.RO (n+1) x.1 x.2.1 x.2.2.1 x.2.2.2.1 x.2.2.2.2.1 x.2.2.2.2.2.1 x.2.2.2.2.2.2.1 x.2.2.2.2.2.2.2:=by kernel_rfl
theorem sU(n:Nat):FO 183 (mV n):=by
 induction n with
 |zero=>exact⟨O2,_,_,Tryz.func183,rfl,by kernel_rfl⟩
 |succ n ih=>exact mk (an:=pI) (n:=n) (sm:=(mV n).s) (F:=λ(x:(mV n).s.ins.D)=>N.RO (n+1) x.1 x.2.1 x.2.2.1 x.2.2.2.1 x.2.2.2.2.1 x.2.2.2.2.2.1 x.2.2.2.2.2.2.1 x.2.2.2.2.2.2.2) Tryz.func183 rfl (cn (oe n) (cn ih (cn (sW n) (cn (sX n) nl)))) (qi n)
def wE(n:Nat):NB:=⟨⟨[.val true Th,.val false [T8]],[(false,WR)]⟩,u4 (N.Yc n)⟩
theorem sH(n:Nat):FO 166 (wE n):=mk (V6 [] [(0,[.slot 6 I,.box 12 [some (I,0),some (I,0),some (QV,0),some (T8,0),some ((.sl 24 (.one QV)),2),some (QV,2)]],false),(2,[.slot 8 I,.box 12 [some (I,0),some (I,0),some (QV,0),some (T8,0),some ((.sl 24 (.one QV)),2),some (QV,2)]],false)] [(13,[.box 12 [some (I,0),some (I,0),some (QV,0),some (T8,0),some ((.sl 24 (.one QV)),2),some (QV,2)]],false)] []) n Tryz.func166 rfl (cn (sS n) (cn (sT n) (cn (sU n) nl)))
def vk(n:Nat):NB:=⟨⟨[.val true Th,.val false [T8]],[(false,[(T8,2)])]⟩,u4 (N.V3 n)⟩
theorem rj(n:Nat):FO 147 (vk n):=mk (V6 [] [(0,[.own 6 43 k6 2 false,.slot 7 I],false)] [(10,[.box 8 [some (I,0),some (I,0),some (I,0),some (.bool,0),some (I,0)]],false)] []) n Tryz.func147 rfl (cn (sH n) nl)
def vA(n:Nat):NB:=⟨⟨[.val true Th,.val false [T8]],[(false,[(T8,2)])]⟩,u4 (N.XX n)⟩
theorem rF(n:Nat):FO 115 (vA n):=mk VD n Tryz.func115 rfl (cn (qC n) (cn (rj n) nl))
def vl(n:Nat):NB:=⟨⟨[.val true bP,.val false [I]],[(true,o6),(false,Qv)]⟩,u3 (N.Xa n)⟩
theorem rr(n:Nat):FO 148 (vl n):=mk VD n Tryz.func148 rfl (cn (mI n) (cn (nU n) nl))
def vm(n:Nat):NB:=⟨⟨[.val true mc,.val false [I]],[(false,[(iO,2)])]⟩,u6 (N.Xb n)⟩
theorem ru(n:Nat):FO 149 (vm n):=mk (V6 [] [(0,[.own 5 117 k3 2 false,.slot 6 I],false)] [(7,[.own 5 117 k3 2 false],false)] []) n Tryz.func149 rfl nl
def vn(n:Nat):NB:=⟨⟨[.val true [Sw],.val false [iO]],[(true,Yy),(false,Qv)]⟩,u2 (N.ZL n)⟩
theorem ry(n:Nat):FO 150 (vn n):=mk VD n Tryz.func150 rfl (cn (nX n) nl)
def vB(n:Nat):NB:=⟨⟨[.box tL,.box [(I,0),(I,0),(I,0),(I,0)]],[(false,Qv)]⟩,qV (N.Xk n)⟩
theorem rG(n:Nat):FO 116 (vB n):=mk (V6 [] [(1,[.slot 11 I,.box 0 [some (I,0),some (I,0),some (QV,2),some (Sw,2),some (I,0),some (ZY,2),some (T8,2),some (Ye,0),some (QV,2),some (QV,2),some (I,0)]],false)] [(10,[.box 0 [some (I,0),some (I,0),some (QV,2),some (Sw,2),some (I,0),some (ZY,2),some (T8,2),some (Ye,0),some (QV,2),some (QV,2),some (I,0)]],false),(12,[.box 0 [some (I,0),some (I,0),some (QV,2),some (Sw,2),some (I,0),some (ZY,2),some (T8,2),some (Ye,0),some (QV,2),some (QV,2),some (I,0)],.box 1 [some (I,0),some (I,0),some (I,0),some (I,0)]],true)] []) n Tryz.func116 rfl (cn (qE n) (cn (sv n) (cn (rr n) (cn (ru n) (cn (ry n) nl)))))
def vC(n:Nat):NB:=⟨⟨[.val true bP,.val false [I]],[(true,jb),(false,Qv)]⟩,u3 (N.YS n)⟩
theorem rH(n:Nat):FO 117 (vC n):=mk VD n Tryz.func117 rfl (cn (nZ n) (cn (mI n) (cn (ni n) nl)))
def yA(n:Nat):NB:=⟨⟨[.box tL],[]⟩,pd (N.Xm n)⟩
theorem uQ(n:Nat):FO 63 (yA n):=mk (V6 [(10,[.slot 93 .bool,.box 0 [some (I,0),some (I,0),some (QV,2),some (Sw,2),some (I,0),some (ZY,2),some (T8,2),some (Ye,0),some (QV,2),some (QV,2),some (I,0)],.box 7 [some (I,0),some (I,0),some (I,0),some (I,0)]])] [(0,[.own 4 65 k5 2 false,.own 5 3 (.one I) 2 false,.slot 6 I,.box 0 [some (I,0),some (I,0),some (QV,2),some (Sw,2),some (I,0),some (ZY,2),some (T8,2),some (Ye,0),some (QV,2),some (QV,2),some (I,0)]],false),(2,[.slot 9 I,.box 0 [some (I,0),some (I,0),some (QV,2),some (Sw,2),some (I,0),some (ZY,2),some (T8,2),some (Ye,0),some (QV,2),some (QV,2),some (I,0)]],false),(4,[.slot 10 .bool,.slot 11 I],false)] [(7,[.own 4 65 k5 2 false,.own 5 3 (.one I) 2 false,.box 0 [some (I,0),some (I,0),some (QV,2),some (Sw,2),some (I,0),some (ZY,2),some (T8,2),some (Ye,0),some (QV,2),some (QV,2),some (I,0)]],false),(13,[.box 0 [some (I,0),some (I,0),some (QV,2),some (Sw,2),some (I,0),some (ZY,2),some (T8,2),some (Ye,0),some (QV,2),some (QV,2),some (I,0)]],false)] [(13,[4])]) n Tryz.func63 rfl (cn (qE n) (cn (rE n) (cn (rF n) (cn (rG n) (cn (rH n) nl)))))
def xR(n:Nat):NB:=⟨⟨[.box aD,.val false [I]],[(true,o5)]⟩,u4 (N.Xj n)⟩
theorem uB(n:Nat):FO 27 (xR n):=mk (V6 [] [(0,[.slot 6 I,.box 0 [some (fM,0),some (I,0),some (I,0)],.box 5 [some (I,0),some (I,0),some (QV,2),some (Sw,2),some (I,0),some (ZY,2),some (T8,2),some (Ye,0),some (QV,2),some (QV,2),some (I,0)]],false),(3,[.slot 7 I,.box 5 [some (I,0),some (I,0),some (QV,2),some (Sw,2),some (I,0),some (ZY,2),some (T8,2),some (Ye,0),some (QV,2),some (QV,2),some (I,0)]],false)] [(7,[.box 0 [some (fM,0),some (I,0),some (I,0)],.box 5 [some (I,0),some (I,0),some (QV,2),some (Sw,2),some (I,0),some (ZY,2),some (T8,2),some (Ye,0),some (QV,2),some (QV,2),some (I,0)]],false),(33,[.slot 26 .bool],false)] [(12,[5])]) n Tryz.func27 rfl (cn (sd n) (cn (fe n) (cn (uL n) (cn (uM n) (cn (uN n) (cn (uO n) (cn (uP n) (cn (uQ n) nl))))))))
def vI(n:Nat):NB:=⟨⟨[.box aD,.val true [Sw]],[(true,[(Sw,0)])]⟩,u4 (N.Ya n)⟩
theorem rJ(n:Nat):FO 123 (vI n):=mk (V6 [] [] [(18,[.box 0 [some (fM,0),some (I,0),some (I,0)],.box 5 [some (Sw,0)]],false)] []) n Tryz.func123 rfl (cn (fe n) (cn (kI n) (cn (eW n) nl)))
def vJ(n:Nat):NB:=⟨⟨[.box aD,.val false [T8]],[(false,[(T8,2)])]⟩,u4 N.Yb⟩
theorem rK(n:Nat):FO 124 (vJ n):=mk (V6 [] [] [(18,[.box 0 [some (fM,0),some (I,0),some (I,0)],.own 5 43 k6 2 false],false)] []) n Tryz.func124 rfl (cn (fe n) (cn (kI n) nl))
def yb(n:Nat):NB:=⟨⟨[.box aD,.val true ah],[(true,o5)]⟩,wZ (N.Xh n)⟩
theorem ud(n:Nat):FO 92 (yb n):=mk (V6 [] [] [(9,[.box 0 [some (fM,0),some (I,0),some (I,0)],.box 5 [some (I,0),some (I,0),some (QV,0),some (Sw,0),some (I,0),some (ZY,0),some (T8,0),some (Ye,0),some (QV,0),some (QV,0),some (I,0)]],false)] []) n Tryz.func92 rfl (cn (fe n) (cn (kI n) (cn (od n) (cn (rJ n) (cn (rK n) nl)))))
def wq(n:Nat):NB:=⟨⟨[.box aD,.val false [I]],[(true,o5)]⟩,u4 (N.U8 n)⟩
theorem uH(n:Nat):FO 51 (wq n):=mk (V6 [(2,[.slot 16 .bool,.box 0 [some (fM,0),some (I,0),some (I,0)]])] [] [(9,[.box 0 [some (fM,0),some (I,0),some (I,0)],.box 5 [some (I,0),some (I,0),some (QV,0),some (Sw,0),some (I,0),some (ZY,0),some (T8,0),some (Ye,0),some (QV,0),some (QV,0),some (I,0)]],false)] []) n Tryz.func51 rfl (cn (uB n) (cn (nh n) (cn (ud n) nl)))
def xJ(n:Nat):NB:=⟨⟨[.val false [fM]],[(true,o5),(false,RV),(false,RV),(false,RV)]⟩,N.UP n⟩
theorem tn(n:Nat):FO 19 (xJ n):=mk VD n Tryz.func19 rfl (cn (uA n) (cn (uC n) (cn (uH n) (cn (fe n) (cn (kI n) nl)))))
def yY(n:Nat):NB:=⟨⟨[.val false [QV]],[(false,WR)]⟩,N.TR⟩
theorem sz(n:Nat):FO 88 (yY n):=mk VD n Tryz.func88 rfl nl
def yT(n:Nat):NB:=⟨⟨[.val true Th],[(true,o7)]⟩,u3 N.Vh⟩
theorem uZ(n:Nat):FO 83 (yT n):=mk VD n Tryz.func83 rfl (cn (sz n) nl)
def yU(n:Nat):NB:=⟨⟨[.val true [Sw]],[(true,Yy)]⟩,N.QN n⟩
theorem ng(n:Nat):FO 84 (yU n):=mk (V8 [(0,[.slot 9 I,.box 3 [some (Sw,2)]],false)]) n Tryz.func84 rfl nl
def vF(n:Nat):NB:=⟨⟨[.val false [mg]],[(false,[(mg,2)])]⟩,N.Qz⟩
theorem pP(n:Nat):FO 120 (vF n):=mk VD n Tryz.func120 rfl nl
def vq(n:Nat):NB:=⟨⟨[.val false [iO]],[(false,[(iO,2)])]⟩,N.Xy⟩
theorem rz(n:Nat):FO 152 (vq n):=mk VD n Tryz.func152 rfl nl
def vH(n:Nat):NB:=⟨⟨[.val true mc],[(true,o6)]⟩,u5 N.SZ⟩
theorem pR(n:Nat):FO 122 (vH n):=mk VD n Tryz.func122 rfl (cn (pP n) (cn (rz n) nl))
def yV(n:Nat):NB:=⟨⟨[.val true bP],[(true,jb)]⟩,u2 (N.RK n)⟩
theorem sy(n:Nat):FO 85 (yV n):=mk (V8 [(0,[.slot 12 I,.box 3 [some (I,0),some (ZY,2)]],false)]) n Tryz.func85 rfl (cn (pR n) nl)
def yW(n:Nat):NB:=⟨⟨[.val false [T8]],[(false,[(T8,2)])]⟩,N.RL⟩
theorem qG(n:Nat):FO 86 (yW n):=mk VD n Tryz.func86 rfl nl
def yX(n:Nat):NB:=⟨⟨[.val false [Ye]],[(false,[(Ye,2)])]⟩,N.Q0⟩
theorem qH(n:Nat):FO 87 (yX n):=mk VD n Tryz.func87 rfl nl
def xm(n:Nat):NB:=⟨⟨[.val true ah],[(true,dX)]⟩,pd (N.SY n)⟩
theorem su(n:Nat):FO 45 (xm n):=mk VD n Tryz.func45 rfl (cn (uZ n) (cn (ng n) (cn (sy n) (cn (qG n) (cn (qH n) (cn (sz n) nl))))))
def xk(n:Nat):NB:=⟨⟨[.val false [I],.val false [I],.val false [I]],[(false,Qv)]⟩,u3 N.P7⟩
theorem ab(n:Nat):FO 43 (xk n):=mk VD n Tryz.func43 rfl nl
def xc(n:Nat):NB:=⟨⟨[.val true Th],[(false,Qv)]⟩,u3 (N.S1 n)⟩
theorem na(n:Nat):FO 37 (xc n):=mk (V8 [(0,[.slot 29 I],true)]) n Tryz.func37 rfl (cn (ab n) nl)
def yJ(n:Nat):NB:=⟨⟨[.val true [I,I,o4]],[(false,Qv)]⟩,u3 (N.ZA n)⟩
theorem uU(n:Nat):FO 73 (yJ n):=mk (V8 [(0,[.slot 24 I],true)]) n Tryz.func73 rfl (cn (ab n) nl)
def xd(n:Nat):NB:=⟨⟨[.val true [Sw]],[(false,Qv)]⟩,N.RX n⟩
theorem oZ(n:Nat):FO 38 (xd n):=mk (V8 [(0,[.slot 10 I],true),(2,[.slot 39 I],true)]) n Tryz.func38 rfl (cn (uU n) nl)
def yK(n:Nat):NB:=⟨⟨[.val false [mg]],[(false,Qv)]⟩,N.S2 n⟩
theorem uV(n:Nat):FO 74 (yK n):=mk (V8 [(0,[.slot 7 I],true)]) n Tryz.func74 rfl (cn (ab n) nl)
def yL(n:Nat):NB:=⟨⟨[.val false [iO],.val false [mg]],[(false,Qv)]⟩,u2 (N.Vn n)⟩
theorem uW(n:Nat):FO 75 (yL n):=mk (V8 [(0,[.slot 16 I,.own 5 144 k1 2 false],true),(2,[.slot 8 .bool,.slot 22 I,.own 5 144 k1 2 false],false),(4,[.slot 59 I],true)]) n Tryz.func75 rfl (cn (ab n) (cn (pP n) nl))
def xe(n:Nat):NB:=⟨⟨[.val true bP],[(false,Qv)]⟩,u2 (N.Rf n)⟩
theorem sq(n:Nat):FO 39 (xe n):=mk (V8 [(0,[.slot 18 I],true)]) n Tryz.func39 rfl (cn (ab n) (cn (uV n) (cn (uW n) nl)))
def vp(n:Nat):NB:=⟨⟨[.val true Th,.val false [I]],[(false,Qv)]⟩,u4 N.Ts⟩
theorem pS(n:Nat):FO 151 (vp n):=mk VD n Tryz.func151 rfl (cn (ab n) nl)
def vG(n:Nat):NB:=⟨⟨[.val true Th,.val false [I]],[(false,RV)]⟩,u4 (N.Rh n)⟩
theorem pQ(n:Nat):FO 121 (vG n):=mk VD n Tryz.func121 rfl (cn (na n) (cn (pS n) nl))
def yM(n:Nat):NB:=⟨⟨[.val true Th,.val true kf],[(false,Qv)]⟩,u8 (N.SM n)⟩
theorem sw(n:Nat):FO 76 (yM n):=mk VD n Tryz.func76 rfl (cn (pQ n) nl)
def xf(n:Nat):NB:=⟨⟨[.val true Th,.val false [T8]],[(false,Qv)]⟩,u4 (N.Tn n)⟩
theorem oa(n:Nat):FO 40 (xf n):=mk (V8 [(0,[.slot 19 I],true),(2,[.slot 59 I],true)]) n Tryz.func40 rfl (cn (na n) (cn (ab n) (cn (sw n) nl)))
def xg(n:Nat):NB:=⟨⟨[.val false [Ye]],[(false,Qv)]⟩,N.Vf n⟩
theorem ss(n:Nat):FO 41 (xg n):=mk (V8 [(0,[.slot 10 I],true),(2,[.slot 51 I],true)]) n Tryz.func41 rfl (cn (ab n) nl)
def xh(n:Nat):NB:=⟨⟨[.val false [QV]],[(false,Qv)]⟩,N.Uf n⟩
theorem uF(n:Nat):FO 42 (xh n):=mk (V8 [(0,[.slot 7 I],true)]) n Tryz.func42 rfl (cn (ab n) nl)
def yN(n:Nat):NB:=⟨⟨[.val true bP,.val false [I]],[(false,RV)]⟩,u3 (N.RN n)⟩
theorem og(n:Nat):FO 77 (yN n):=mk (V8 [(0,[.slot 10 I],true)]) n Tryz.func77 rfl nl
def yO(n:Nat):NB:=⟨⟨[.val true [Sw],.val false [I]],[(false,RV)]⟩,u2 (N.S3 n)⟩
theorem mJ(n:Nat):FO 78 (yO n):=mk (V8 [(0,[.slot 10 I],true)]) n Tryz.func78 rfl nl
def yP(n:Nat):NB:=⟨⟨[.val false [QV],.val false [I]],[(false,Qv)]⟩,u2 (N.Q7 n)⟩
theorem mK(n:Nat):FO 79 (yP n):=mk (V8 [(0,[.slot 9 I],true)]) n Tryz.func79 rfl nl
def yQ(n:Nat):NB:=⟨⟨[.val false [iO]],[(false,WR)]⟩,N.Wy n⟩
theorem uY(n:Nat):FO 80 (yQ n):=mk (V6 [] [(0,[.own 3 3 (.one I) 2 false,.slot 8 I],false)] [(7,[.own 3 3 (.one I) 2 false],false)] []) n Tryz.func80 rfl (cn (mK n) nl)
def yR(n:Nat):NB:=⟨⟨[.val false [T8],.val false [I]],[(false,RV)]⟩,u2 (N.SC n)⟩
theorem qF(n:Nat):FO 81 (yR n):=mk (V8 [(0,[.slot 9 I],true)]) n Tryz.func81 rfl nl
def yS(n:Nat):NB:=⟨⟨[.val true ah,.val true [I,I,I,I]],[(false,RV)]⟩,qV (N.Tr n)⟩
theorem sx(n:Nat):FO 82 (yS n):=mk VD n Tryz.func82 rfl (cn (og n) (cn (mJ n) nl))
def xl(n:Nat):NB:=⟨⟨[.val true ah,.val true [I,I,I,I]],[(false,Qv)]⟩,qV (N.Tt n)⟩
theorem uG(n:Nat):FO 44 (xl n):=mk VD n Tryz.func44 rfl (cn (og n) (cn (mJ n) (cn (mK n) (cn (uY n) (cn (qF n) (cn (sx n) nl))))))
def s9(n:Nat):NB:=⟨⟨[.val true ah],[(false,Qv)]⟩,pd (N.SA n)⟩
theorem ub(n:Nat):FO 9 (s9 n):=mk (V8 [(0,[.slot 56 I],true)]) n Tryz.func9 rfl (cn (na n) (cn (oZ n) (cn (sq n) (cn (oa n) (cn (ss n) (cn (uF n) (cn (ab n) (cn (uG n) nl))))))))
def yd(n:Nat):NB:=⟨⟨[.val true [Sw],.val false [I],.val false [I],.val false [I]],[(false,RV),(false,RV)]⟩,u4 (N.Xz n)⟩
theorem s7(n:Nat):FO 94 (yd n):=mk VD n Tryz.func94 rfl (cn (oZ n) (cn (ab n) (cn (mJ n) nl)))
def xo(n:Nat):NB:=⟨⟨[.val true [I,I,o4],.val false [I]],[(false,RV),(false,Qv)]⟩,u4 (N.Qr n)⟩
theorem oc(n:Nat):FO 46 (xo n):=mk (V6 [(4,[.slot 4 I,.slot 5 .bool])] [(0,[.slot 6 I],false)] [] []) n Tryz.func46 rfl nl
def xp(n:Nat):NB:=⟨⟨[.val true [Sw],.val false [I],.val false [I],.val false [I]],[(true,Yy),(false,RV)]⟩,u4 (N.Y6 n)⟩
theorem uI(n:Nat):FO 54 (xp n):=mk (V6 [] [] [(4,[.box 8 [some (Sw,2)],.box 10 [some (Sw,2)]],true)] []) n Tryz.func54 rfl (cn (oc n) (cn (ng n) (cn (s7 n) nl)))
def xK(n:Nat):NB:=⟨⟨[.val true ah,.val false [I],.val false [I],.val false [I]],[(true,dX),(false,RV)]⟩,wZ (N.XR n)⟩
theorem tu(n:Nat):FO 20 (xK n):=mk VD n Tryz.func20 rfl (cn (ub n) (cn (su n) (cn (uI n) nl)))
def xM(n:Nat):NB:=⟨⟨[.val true [Sw],.val true [Sw]],[(false,Qv)]⟩,u2 (N.Vo n)⟩
theorem tv(n:Nat):FO 22 (xM n):=mk (V8 [(0,[.slot 5 I],true),(2,[.slot 8 I],true)]) n Tryz.func22 rfl nl
def xN(n:Nat):NB:=⟨⟨[.val false [QV],.val false [QV]],[(false,Qv)]⟩,u2 (N.We n)⟩
theorem tw(n:Nat):FO 23 (xN n):=mk (V8 [(0,[.slot 5 I],true)]) n Tryz.func23 rfl nl
def vN(n:Nat):NB:=⟨⟨[.val false [T8],.val false [Ye]],[(false,WR)]⟩,u2 (N.Z4 n)⟩
theorem rM(n:Nat):FO 128 (vN n):=mk (V6 [] [(0,[.own 5 3 (.one I) 2 false,.slot 13 I],false),(2,[.slot 8 .bool,.slot 33 I],false)] [(7,[.own 5 3 (.one I) 2 false],false)] []) n Tryz.func128 rfl nl
def vO(n:Nat):NB:=⟨⟨[.val true [Sw],.val false [Ye],.val false [I]],[(false,WR)]⟩,u3 (N.ZB n)⟩
theorem rO(n:Nat):FO 129 (vO n):=mk (V6 [] [(0,[.own 8 3 (.one I) 2 false,.slot 15 I],false),(2,[.own 7 3 (.one I) 2 false,.own 8 3 (.one I) 2 false,.slot 30 I],false)] [(7,[.own 8 3 (.one I) 2 false],false),(13,[.own 7 3 (.one I) 2 false,.own 8 3 (.one I) 2 false],false)] []) n Tryz.func129 rfl (cn (mJ n) (cn (mK n) nl))
def wP(n:Nat):NB:=⟨⟨[.val true Th,.val false [I]],[(false,WR)]⟩,u4 N.YM⟩
theorem pV(n:Nat):FO 184 (wP n):=mk (V6 [] [] [(12,[.own 5 3 (.one I) 2 false],false),(18,[.own 5 3 (.one I) 2 false],false),(24,[.own 5 3 (.one I) 2 false],false),(30,[.own 5 3 (.one I) 2 false],false)] []) n Tryz.func184 rfl nl
def wF(n:Nat):NB:=⟨⟨[.val true Th,.val false [I],.val false [.bool]],[(false,WR)]⟩,u5 (N.Yq n)⟩
theorem pU(n:Nat):FO 167 (wF n):=mk (V6 [] [(0,[.own 7 3 (.one I) 2 false,.slot 15 I],false)] [(7,[.own 7 3 (.one I) 2 false],false)] []) n Tryz.func167 rfl (cn (pV n) nl)
def vt(n:Nat):NB:=⟨⟨[.val true Th,.val false [I],.val false [.bool]],[(false,WR)]⟩,u5 (N.VH n)⟩
theorem pT(n:Nat):FO 153 (vt n):=mk (V6 [] [(0,[.slot 19 I,.own 7 3 (.one I) 2 false],false),(2,[.own 9 3 (.one I) 2 false,.own 7 3 (.one I) 2 false],false),(4,[.own 9 3 (.one I) 2 false,.slot 57 I,.own 7 3 (.one I) 2 false],false)] [(19,[.own 9 3 (.one I) 2 false,.own 7 3 (.one I) 2 false],false)] []) n Tryz.func153 rfl (cn (pU n) nl)
def vP(n:Nat):NB:=⟨⟨[.val true Th,.val false [I],.val false [I]],[(false,RV)]⟩,u5 (N.Tq n)⟩
theorem rP(n:Nat):FO 130 (vP n):=mk VD n Tryz.func130 rfl (cn (pQ n) (cn (pS n) (cn (pT n) nl)))
def vu(n:Nat):NB:=⟨⟨[.val false ja],[(false,Qv)]⟩,N.XN n⟩
theorem r6(n:Nat):FO 154 (vu n):=mk (V8 [(0,[.slot 12 I],true),(2,[.slot 33 I],true)]) n Tryz.func154 rfl (cn (ab n) nl)
def vw(n:Nat):NB:=⟨⟨[.val false ja],[(false,[((.sl 24 (.one QV)),2)])]⟩,N.Y9 n⟩
theorem r7(n:Nat):FO 155 (vw n):=mk (V6 [] [(0,[.slot 5 I,.own 4 24 (.one QV) 2 false],false),(2,[.slot 45 I,.own 4 24 (.one QV) 2 false],false),(4,[.slot 55 I,.own 4 24 (.one QV) 2 false],false)] [(9,[.slot 3 I],false),(19,[.own 4 24 (.one QV) 2 false],false)] []) n Tryz.func155 rfl nl
end Go.Proofs.YthlchdmdanagkaaGreat.Ev
