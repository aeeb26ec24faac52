/- Summaries. Conditions: none. -/
import Derived.Test.YthlchdmdanagkaaGreatDoorLib6
import Derived.Shelf.Lay
import Derived.Ground.NamesProg
import Derived.Test.YthlchdmdanagkaaGreatDoorFnPlayedSort
import Derived.Test.YthlchdmdanagkaaGreatDoorFnPlayedNat
import Derived.Test.YthlchdmdanagkaaGreatDoorProg
import Derived.KernelRfl
set_option linter.all false
namespace Go.Proofs.YthlchdmdanagkaaGreatDoor.Ev
open Go Go.Ev Go.Proofs
set_option maxRecDepth 100000
abbrev I:L:=.int .i64
abbrev TT:List (String×Array Value):=Ks
end Go.Proofs.YthlchdmdanagkaaGreatDoor.Ev
namespace Go.Proofs
open Go.Shelf
shelf_lay LaysM.n171 Nm 171 at Tryz as Tryz.lays171
end Go.Proofs
namespace Go.Proofs.YthlchdmdanagkaaGreatDoor.Ev
open Go Go.Ev Go.Proofs
def k0:Ls:=(.cons .str (.one (.int .u64)))
def k1:Ls:=(.cons I (.one I))
def k2:Ls:=(.cons .str (.one (.int .u8)))
def k3:Ls:=(.cons I (.cons I (.one I)))
def k4:Ls:=(.cons I (.cons I (.cons .bool (.one (.int .u8)))))
def k5:Ls:=(.cons I (.cons I (.cons I (.one I))))
def k6:Ls:=(.cons I (.cons I (.cons I (.cons .bool (.one I)))))
def k7:Ls:=(.cons I (.cons I (.one (.sl 3 (.one I)))))
def k8:Ls:=(.cons (.sl 5 (.one (.int .u8))) (.cons I (.one I)))
def k9:Ls:=(.cons I (.cons I (.one (.sl 141 k3))))
def k10:Ls:=(.cons I (.cons I (.cons (.sl 46 k1) (.cons (.sl 80 k3) (.one I)))))
def wO:Ls:=(.cons I (.cons I (.cons (.sl 3 (.one I)) (.cons (.sl 74 k6) (.one (.sl 3 (.one I)))))))
def rY:Ls:=(.cons I (.cons I (.cons (.sl 46 k1) (.cons I (.cons I (.cons I (.one I)))))))
def wP:Ls:=(.cons I (.one (.sl 43 k10)))
def xq:Ls:=(.cons I (.cons I (.cons (.sl 3 (.one I)) (.cons (.sl 74 k6) (.cons (.sl 24 (.one (.sl 3 (.one I)))) (.one (.sl 3 (.one I))))))))
def wQ:Ls:=(.cons I (.cons I (.cons (.sl 3 (.one I)) (.cons (.sl 106 k9) (.cons I (.cons (.sl 43 k10) (.cons (.sl 74 k6) (.cons (.sl 72 k5) (.cons (.sl 3 (.one I)) (.cons (.sl 3 (.one I)) (.one I)))))))))))
def tbl:List (Nat×Ty):=[
 (3,⟨false,(.one I),[],false⟩),
 (4,⟨false,(.one .bool),[],false⟩),
 (5,⟨false,(.one (.int .u8)),[],false⟩),
 (9,⟨false,(.one .str),[],false⟩),
 (22,⟨false,(.one (.sl 5 (.one (.int .u8)))),[],false⟩),
 (24,⟨false,(.one (.sl 3 (.one I))),[],false⟩),
 (26,⟨true,k7,[(0,3),(1,3),(2,24)],false⟩),
 (27,⟨false,(.one (.sl 106 k9)),[],false⟩),
 (29,⟨true,(.one (.sl 106 k9)),[(0,27)],false⟩),
 (30,⟨false,(.one (.sl 43 k10)),[],false⟩),
 (32,⟨true,wP,[(0,3),(1,30)],false⟩),
 (33,⟨false,(.one (.sl 74 k6)),[],false⟩),
 (34,⟨false,(.one (.sl 72 k5)),[],false⟩),
 (36,⟨true,wQ,[(0,26),(3,29),(4,32),(6,33),(7,34),(8,24),(9,24),(10,3)],false⟩),
 (40,⟨false,(.one (.sl 46 k1)),[],false⟩),
 (41,⟨false,(.one (.sl 80 k3)),[],false⟩),
 (43,⟨true,k10,[(0,3),(1,3),(2,40),(3,41),(4,3)],false⟩),
 (46,⟨true,k1,[(0,3),(1,3)],true⟩),
 (47,⟨false,(.one (.sl 57 rY)),[],false⟩),
 (51,⟨false,(.one (.sl 9 (.one .str))),[],false⟩),
 (57,⟨true,rY,[(0,3),(1,3),(2,40),(3,3),(4,3),(5,3),(6,3)],false⟩),
 (72,⟨true,k5,[(0,3),(1,3),(2,3),(3,3)],true⟩),
 (74,⟨true,k6,[(0,3),(1,3),(2,3),(3,4),(4,3)],true⟩),
 (80,⟨true,k3,[(0,3),(1,3),(2,3)],true⟩),
 (98,⟨true,k8,[(0,22),(1,3),(2,3)],false⟩),
 (104,⟨false,(.one (.sl 141 k3)),[],false⟩),
 (106,⟨true,k9,[(0,3),(1,3),(2,104)],false⟩),
 (141,⟨true,k3,[(0,3),(1,3),(2,3)],true⟩),
 (176,⟨false,(.one (.sl 24 (.one (.sl 3 (.one I))))),[],false⟩),
 (224,⟨true,wO,[(0,26),(3,33),(4,24)],false⟩)]
theorem tF:tbl.all (λp=>Oc Tryz.prog p.1 p.2)=true:=by kernel_rfl
theorem follows:Tryz.prog.follows .mixedOrders=true:=by kernel_rfl
def Y3(g:List (Nat×List VP))(b j:List (Nat×List VP×Bool))(p:List (Nat×It)):An:=⟨find g,find b,find j,λk=>match find p k with|some x=>x|none=>[]⟩
def XC(b:List (Nat×List VP×Bool)):An:=Y3 [] b [] []
def Xc:An:=XC []
abbrev FO(f:FuncId)(g:Lj):Prop:=JN Tryz.prog TT f g/\Kd Tryz.prog f
theorem nl:IJ Tryz.prog TT (find []):=OS
theorem cn{f:FuncId}{g:Lj}{l:List (FuncId×Lj)}(h:FO f g)(hl:IJ Tryz.prog TT (find l)):IJ Tryz.prog TT (find ((f,g)::l)):=OD h.1 h.2 hl
theorem tY {l : Env} (an : An) (n : Nat) {sm : Sm} {fn : Func} {f : FuncId} {c : Code} {F : sm.ins.D -> Option sm.outs.D} (hf : Tryz.prog.funcs[f]? = some fn) (hb : fn.body = some c) (hl : JM Tryz.prog TT l) (hF : ∀ x, Lx (find tbl) l an n fn sm x = F x := by intro x; kernel_rfl) (h1 : decide (sm.ps.length <= fn.ntmps) = true := by kernel_rfl) (h2 : (fn.name == "runtime.NumGoroutine") = false := by kernel_rfl) : FO f ⟨sm, F⟩ := ⟨N4 hf hb h1 tF hl follows hF, fn, c, hf, hb, h2⟩
theorem mk {l : List (FuncId × Lj)} (an : An) (n : Nat) {sm : Sm} {fn : Func} {f : FuncId} {c : Code} {F : sm.ins.D -> Option sm.outs.D} (hf : Tryz.prog.funcs[f]? = some fn) (hb : fn.body = some c) (hl : IJ Tryz.prog TT (find l)) (hF : ∀ x, Lx (find tbl) (plain l) an n fn sm x = F x := by intro x; kernel_rfl) (h1 : decide (sm.ps.length <= fn.ntmps) = true := by kernel_rfl) (h2 : (fn.name == "runtime.NumGoroutine") = false := by kernel_rfl) : FO f ⟨sm, F⟩ := tY an n hf hb (N3 hl) hF h1 h2
def u2{α0 α1 β:Type}(f:α0->α1->β)(x:α0×α1):β:=f x.1 x.2
def u3{α0 α1 α2 β:Type}(f:α0->α1->α2->β)(x:α0×α1×α2):β:=f x.1 x.2.1 x.2.2
def u4{α0 α1 α2 α3 β:Type}(f:α0->α1->α2->α3->β)(x:α0×α1×α2×α3):β:=f x.1 x.2.1 x.2.2.1 x.2.2.2
def u5{α0 α1 α2 α3 α4 β:Type}(f:α0->α1->α2->α3->α4->β)(x:α0×α1×α2×α3×α4):β:=f x.1 x.2.1 x.2.2.1 x.2.2.2.1 x.2.2.2.2
def u6{α0 α1 α2 α3 α4 α5 β:Type}(f:α0->α1->α2->α3->α4->α5->β)(x:α0×α1×α2×α3×α4×α5):β:=f x.1 x.2.1 x.2.2.1 x.2.2.2.1 x.2.2.2.2.1 x.2.2.2.2.2
def u7{α0 α1 α2 α3 α4 α5 α6 β:Type}(f:α0->α1->α2->α3->α4->α5->α6->β)(x:α0×α1×α2×α3×α4×α5×α6):β:=f x.1 x.2.1 x.2.2.1 x.2.2.2.1 x.2.2.2.2.1 x.2.2.2.2.2.1 x.2.2.2.2.2.2
def u8{α0 α1 α2 α3 α4 α5 α6 α7 β:Type}(f:α0->α1->α2->α3->α4->α5->α6->α7->β)(x:α0×α1×α2×α3×α4×α5×α6×α7):β:=f x.1 x.2.1 x.2.2.1 x.2.2.2.1 x.2.2.2.2.1 x.2.2.2.2.2.1 x.2.2.2.2.2.2.1 x.2.2.2.2.2.2.2
def tP{α0 α1 α2 α3 α4 α5 α6 α7 α8 α9 α10 β:Type}(f:α0->α1->α2->α3->α4->α5->α6->α7->α8->α9->α10->β)(x:α0×α1×α2×α3×α4×α5×α6×α7×α8×α9×α10):β:=f x.1 x.2.1 x.2.2.1 x.2.2.2.1 x.2.2.2.2.1 x.2.2.2.2.2.1 x.2.2.2.2.2.2.1 x.2.2.2.2.2.2.2.1 x.2.2.2.2.2.2.2.2.1 x.2.2.2.2.2.2.2.2.2.1 x.2.2.2.2.2.2.2.2.2.2
def tH{α0 α1 α2 α3 α4 α5 α6 α7 α8 α9 α10 α11 β:Type}(f:α0->α1->α2->α3->α4->α5->α6->α7->α8->α9->α10->α11->β)(x:α0×α1×α2×α3×α4×α5×α6×α7×α8×α9×α10×α11):β:=f x.1 x.2.1 x.2.2.1 x.2.2.2.1 x.2.2.2.2.1 x.2.2.2.2.2.1 x.2.2.2.2.2.2.1 x.2.2.2.2.2.2.2.1 x.2.2.2.2.2.2.2.2.1 x.2.2.2.2.2.2.2.2.2.1 x.2.2.2.2.2.2.2.2.2.2.1 x.2.2.2.2.2.2.2.2.2.2.2
def xk{α0 α1 α2 α3 α4 α5 α6 α7 α8 α9 α10 α11 α12 β:Type}(f:α0->α1->α2->α3->α4->α5->α6->α7->α8->α9->α10->α11->α12->β)(x:α0×α1×α2×α3×α4×α5×α6×α7×α8×α9×α10×α11×α12):β:=f x.1 x.2.1 x.2.2.1 x.2.2.2.1 x.2.2.2.2.1 x.2.2.2.2.2.1 x.2.2.2.2.2.2.1 x.2.2.2.2.2.2.2.1 x.2.2.2.2.2.2.2.2.1 x.2.2.2.2.2.2.2.2.2.1 x.2.2.2.2.2.2.2.2.2.2.1 x.2.2.2.2.2.2.2.2.2.2.2.1 x.2.2.2.2.2.2.2.2.2.2.2.2
def xl{α0 α1 α2 α3 α4 α5 α6 α7 α8 α9 α10 α11 α12 α13 β:Type}(f:α0->α1->α2->α3->α4->α5->α6->α7->α8->α9->α10->α11->α12->α13->β)(x:α0×α1×α2×α3×α4×α5×α6×α7×α8×α9×α10×α11×α12×α13):β:=f x.1 x.2.1 x.2.2.1 x.2.2.2.1 x.2.2.2.2.1 x.2.2.2.2.2.1 x.2.2.2.2.2.2.1 x.2.2.2.2.2.2.2.1 x.2.2.2.2.2.2.2.2.1 x.2.2.2.2.2.2.2.2.2.1 x.2.2.2.2.2.2.2.2.2.2.1 x.2.2.2.2.2.2.2.2.2.2.2.1 x.2.2.2.2.2.2.2.2.2.2.2.2.1 x.2.2.2.2.2.2.2.2.2.2.2.2.2
def vw{α0 α1 α2 α3 α4 α5 α6 α7 α8 α9 α10 α11 α12 α13 α14 β:Type}(f:α0->α1->α2->α3->α4->α5->α6->α7->α8->α9->α10->α11->α12->α13->α14->β)(x:α0×α1×α2×α3×α4×α5×α6×α7×α8×α9×α10×α11×α12×α13×α14):β:=f x.1 x.2.1 x.2.2.1 x.2.2.2.1 x.2.2.2.2.1 x.2.2.2.2.2.1 x.2.2.2.2.2.2.1 x.2.2.2.2.2.2.2.1 x.2.2.2.2.2.2.2.2.1 x.2.2.2.2.2.2.2.2.2.1 x.2.2.2.2.2.2.2.2.2.2.1 x.2.2.2.2.2.2.2.2.2.2.2.1 x.2.2.2.2.2.2.2.2.2.2.2.2.1 x.2.2.2.2.2.2.2.2.2.2.2.2.2.1 x.2.2.2.2.2.2.2.2.2.2.2.2.2.2
def xm{α0 α1 α2 α3 α4 α5 α6 α7 α8 α9 α10 α11 α12 α13 α14 α15 α16 α17 β:Type}(f:α0->α1->α2->α3->α4->α5->α6->α7->α8->α9->α10->α11->α12->α13->α14->α15->α16->α17->β)(x:α0×α1×α2×α3×α4×α5×α6×α7×α8×α9×α10×α11×α12×α13×α14×α15×α16×α17):β:=f x.1 x.2.1 x.2.2.1 x.2.2.2.1 x.2.2.2.2.1 x.2.2.2.2.2.1 x.2.2.2.2.2.2.1 x.2.2.2.2.2.2.2.1 x.2.2.2.2.2.2.2.2.1 x.2.2.2.2.2.2.2.2.2.1 x.2.2.2.2.2.2.2.2.2.2.1 x.2.2.2.2.2.2.2.2.2.2.2.1 x.2.2.2.2.2.2.2.2.2.2.2.2.1 x.2.2.2.2.2.2.2.2.2.2.2.2.2.1 x.2.2.2.2.2.2.2.2.2.2.2.2.2.2.1 x.2.2.2.2.2.2.2.2.2.2.2.2.2.2.2.1 x.2.2.2.2.2.2.2.2.2.2.2.2.2.2.2.2.1 x.2.2.2.2.2.2.2.2.2.2.2.2.2.2.2.2.2
def xn{α0 α1 α2 α3 α4 α5 α6 α7 α8 α9 α10 α11 α12 α13 α14 α15 α16 α17 α18 α19 α20 α21 β:Type}(f:α0->α1->α2->α3->α4->α5->α6->α7->α8->α9->α10->α11->α12->α13->α14->α15->α16->α17->α18->α19->α20->α21->β)(x:α0×α1×α2×α3×α4×α5×α6×α7×α8×α9×α10×α11×α12×α13×α14×α15×α16×α17×α18×α19×α20×α21):β:=f x.1 x.2.1 x.2.2.1 x.2.2.2.1 x.2.2.2.2.1 x.2.2.2.2.2.1 x.2.2.2.2.2.2.1 x.2.2.2.2.2.2.2.1 x.2.2.2.2.2.2.2.2.1 x.2.2.2.2.2.2.2.2.2.1 x.2.2.2.2.2.2.2.2.2.2.1 x.2.2.2.2.2.2.2.2.2.2.2.1 x.2.2.2.2.2.2.2.2.2.2.2.2.1 x.2.2.2.2.2.2.2.2.2.2.2.2.2.1 x.2.2.2.2.2.2.2.2.2.2.2.2.2.2.1 x.2.2.2.2.2.2.2.2.2.2.2.2.2.2.2.1 x.2.2.2.2.2.2.2.2.2.2.2.2.2.2.2.2.1 x.2.2.2.2.2.2.2.2.2.2.2.2.2.2.2.2.2.1 x.2.2.2.2.2.2.2.2.2.2.2.2.2.2.2.2.2.2.1 x.2.2.2.2.2.2.2.2.2.2.2.2.2.2.2.2.2.2.2.1 x.2.2.2.2.2.2.2.2.2.2.2.2.2.2.2.2.2.2.2.2.1 x.2.2.2.2.2.2.2.2.2.2.2.2.2.2.2.2.2.2.2.2.2
abbrev Qw:L:=(.sl 3 (.one I))
abbrev Uj:L:=(.sl 106 k9)
abbrev Zp:L:=(.sl 43 k10)
abbrev YJ:L:=(.sl 74 k6)
abbrev kS:L:=(.sl 5 (.one (.int .u8)))
abbrev ab:L:=(.sl 72 k5)
abbrev iK:L:=(.sl 46 k1)
abbrev jP:L:=(.sl 80 k3)
abbrev xr:L:=(.sl 24 (.one (.sl 3 (.one I))))
abbrev tE:L:=(.sl 9 (.one .str))
abbrev l7:L:=(.sl 141 k3)
abbrev cV:List L:=[I,I,Qw,Uj,I,Zp,YJ,ab,Qw,Qw,I]
abbrev XZ:List L:=[I,I,Qw]
abbrev cW:List (L×Nat):=[(kS,0),(I,0),(I,0)]
abbrev cX:List (L×Nat):=[(I,0),(I,0),(Qw,2),(Uj,2),(I,0),(Zp,2),(YJ,2),(ab,2),(Qw,2),(Qw,2),(I,0)]
abbrev rR:List (L×Nat):=[(I,0),(I,0),(Qw,0),(YJ,0),(Qw,2)]
abbrev Q3:List (L×Nat):=[(.bool,0)]
abbrev VW:List (L×Nat):=[(I,0)]
abbrev Zv:List (L×Nat):=[(Uj,2)]
abbrev db:List (L×Nat):=[(Qw,2)]
abbrev nq:List (L×Nat):=[(I,0),(Zp,2)]
abbrev qL:List (L×Nat):=[(I,0),(I,0),(Qw,2)]
def s5(n:Nat):Lj:=⟨⟨[.val false [kS]],[(false,Q3)]⟩,N.eh⟩
theorem wS(n:Nat):FO 5 (s5 n):=mk Xc n Tryz.func5 rfl nl
def wa(n:Nat):Lj:=⟨⟨[.val false [kS]],[(false,cW)]⟩,N.Yl n⟩
theorem tu(n:Nat):FO 17 (wa n):=mk (XC [(0,[.slot 3 I,.slot 4 I],false)]) n Tryz.func17 rfl nl
def xf(n:Nat):Lj:=⟨⟨[.box cW],[(false,VW)]⟩,u3 N.TI⟩
theorem ud(n:Nat):FO 98 (xf n):=mk (Y3 [] [] [(12,[.slot 3 I,.box 0 [some (kS,0),some (I,0),some (I,0)]],false)] []) n Tryz.func98 rfl nl
def wE(n:Nat):Lj:=⟨⟨[.box cW,.val false [I]],[(false,VW)]⟩,u4 N.Pn⟩
theorem lX(n:Nat):FO 49 (wE n):=mk Xc n Tryz.func49 rfl (cn (ud n) nl)
def vq(n:Nat):Lj:=⟨⟨[.box cW,.val false [tE]],[(false,[(.str,0)])]⟩,u4 N.XW⟩
theorem sx(n:Nat):FO 77 (vq n):=mk Xc n Tryz.func77 rfl (cn (lX n) nl)
def uv(n:Nat):Lj:=⟨⟨[.val false [.str],.val false [(.int .u8)]],[(false,[(tE,2)])]⟩,u2 (N.W4 n)⟩
theorem sA(n:Nat):FO 122 (uv n):=mk (Y3 [] [(0,[.own 5 9 (.one .str) 2 false,.slot 6 I,.slot 7 I],false)] [(7,[.own 5 9 (.one .str) 2 false,.slot 6 I],false)] []) n Tryz.func122 rfl nl
def wg(n:Nat):Lj:=⟨⟨[.val false [I],.val false [I],.val false [I]],[(false,Q3)]⟩,u3 N.PS⟩
theorem ow(n:Nat):FO 26 (wg n):=mk Xc n Tryz.func26 rfl nl
def uw(n:Nat):Lj:=⟨⟨[.val false [(.int .u8)]],[(false,VW)]⟩,N.Xq n⟩
theorem sB(n:Nat):FO 123 (uw n):=mk (XC [(0,[.slot 3 I],true)]) n Tryz.func123 rfl nl
def vp(n:Nat):Lj:=⟨⟨[.val false [.str]],[(true,qL),(false,VW)]⟩,N.Qh n⟩
theorem sw(n:Nat):FO 76 (vp n):=mk (XC [(0,[.slot 6 I,.box 2 [some (I,0),some (I,0),some (Qw,2)],.box 5 [some (I,0),some (I,0),some (Qw,2)]],true),(2,[.slot 8 I,.box 2 [some (I,0),some (I,0),some (Qw,2)],.box 5 [some (I,0),some (I,0),some (Qw,2)]],true)]) n Tryz.func76 rfl (cn (ow n) (cn (sA n) (cn (sB n) nl)))
def vt(n:Nat):Lj:=⟨⟨[.box cW,.val false [I]],[(false,Q3)]⟩,u4 N.TJ⟩
theorem qC(n:Nat):FO 78 (vt n):=mk Xc n Tryz.func78 rfl (cn (lX n) nl)
def s7(n:Nat):Lj:=⟨⟨[.box cW,.val false [Qw]],[(false,VW)]⟩,u4 N.Vp⟩
theorem ot(n:Nat):FO 105 (s7 n):=mk Xc n Tryz.func105 rfl (cn (lX n) nl)
def tC(n:Nat):Lj:=⟨⟨[.box cW],[(true,qL)]⟩,u3 (N.VN n)⟩
def rf:An:=XC [(0,[.slot 6 I,.box 0 [some (kS,0),some (I,0),some (I,0)],.box 5 [some (I,0),some (I,0),some (Qw,2)]],false)]
theorem tW(n:Nat)(x:(tC n).s.ins.D):Lx (find tbl) (plain [(49,wE n),(76,vp n),(77,vq n),(78,vt n),(105,s7 n)]) rf n Tryz.f79 (tC n).s x=N.VN n x.1 x.2.1 x.2.2:=by kernel_rfl
theorem uR(n:Nat):FO 79 (tC n):=mk (an:=rf) (n:=n) (sm:=(tC n).s) Tryz.func79 rfl (cn (lX n) (cn (sw n) (cn (sx n) (cn (qC n) (cn (ot n) nl))))) (tW n)
def wc(n:Nat):Lj:=⟨⟨[.val true XZ],[(false,Q3)]⟩,u3 (N.Qr n)⟩
theorem rE(n:Nat):FO 20 (wc n):=mk (XC [(0,[.slot 3 I],true)]) n Tryz.func20 rfl (cn (ow n) nl)
def ue(n:Nat):Lj:=⟨⟨[.val true XZ,.val false [I]],[(false,db)]⟩,u4 (N.SL n)⟩
theorem oq(n:Nat):FO 104 (ue n):=mk (Y3 [] [(0,[.own 5 3 (.one I) 2 false,.slot 6 I],false)] [(7,[.own 5 3 (.one I) 2 false],false)] []) n Tryz.func104 rfl (cn (rE n) nl)
def wG(n:Nat):Lj:=⟨⟨[.box cW,.val true XZ],[(true,Zv)]⟩,u6 (N.Wz n)⟩
theorem uT(n:Nat):FO 81 (wG n):=mk (Y3 [] [(0,[.slot 7 I,.box 0 [some (kS,0),some (I,0),some (I,0)],.box 5 [some (Uj,2)]],false),(2,[.slot 9 I,.box 0 [some (kS,0),some (I,0),some (I,0)],.box 8 [some (I,0),some (I,0),some (l7,2)]],false)] [(13,[.box 0 [some (kS,0),some (I,0),some (I,0)],.box 8 [some (I,0),some (I,0),some (l7,2)]],false)] []) n Tryz.func81 rfl (cn (oq n) (cn (ot n) nl))
def xE(n:Nat):Lj:=⟨⟨[.val false [l7]],[(false,Q3)]⟩,N.WE n⟩
theorem uN(n:Nat):FO 56 (xE n):=mk (XC [(0,[.slot 3 I],true)]) n Tryz.func56 rfl (cn (ow n) nl)
def we(n:Nat):Lj:=⟨⟨[.val true [Uj]],[(false,Q3)]⟩,N.Q1 n⟩
theorem sj(n:Nat):FO 21 (we n):=mk (XC [(0,[.slot 3 I],true),(2,[.slot 5 I],true)]) n Tryz.func21 rfl (cn (ow n) (cn (uN n) nl))
def uz(n:Nat):Lj:=⟨⟨[.val true XZ],[(true,qL)]⟩,u3 N.WN⟩
theorem sC(n:Nat):FO 124 (uz n):=mk Xc n Tryz.func124 rfl nl
def u9(n:Nat):Lj:=⟨⟨[.val true [Uj]],[(true,Zv)]⟩,N.Py n⟩
theorem sD(n:Nat):FO 125 (u9 n):=mk (XC [(0,[.slot 4 I,.box 3 [some (Uj,2)]],false)]) n Tryz.func125 rfl nl
def vJ(n:Nat):Lj:=⟨⟨[.val true [I,I,l7],.val false [I]],[(true,[(I,0),(I,0),(I,0)])]⟩,u4 (N.Rj n)⟩
theorem sJ(n:Nat):FO 155 (vJ n):=mk (XC [(0,[.slot 5 I,.box 4 [some (I,0),some (I,0),some (I,0)]],true)]) n Tryz.func155 rfl nl
def vA(n:Nat):Lj:=⟨⟨[.val true [Uj],.val false [I]],[(false,VW)]⟩,u2 (N.Ye n)⟩
theorem sE(n:Nat):FO 126 (vA n):=mk (XC [(0,[.slot 5 I,.slot 6 I],false)]) n Tryz.func126 rfl (cn (sj n) (cn (sJ n) nl))
def wF(n:Nat):Lj:=⟨⟨[.val true XZ,.val true [Uj]],[(true,cX),(false,Q3)]⟩,u4 (N.V5 n)⟩
theorem uS(n:Nat):FO 80 (wF n):=mk (XC [(0,[.slot 7 I,.box 4 [some (I,0),some (I,0),some (Qw,2),some (Uj,2),some (I,0),some (Zp,2),some (YJ,2),some (ab,2),some (Qw,2),some (Qw,2),some (I,0)]],true),(2,[.slot 8 I,.box 4 [some (I,0),some (I,0),some (Qw,2),some (Uj,2),some (I,0),some (Zp,2),some (YJ,2),some (ab,2),some (Qw,2),some (Qw,2),some (I,0)]],true),(4,[.slot 9 I,.box 6 [some (I,0),some (I,0),some (Qw,2),some (Uj,2),some (I,0),some (Zp,2),some (YJ,2),some (ab,2),some (Qw,2),some (Qw,2),some (I,0)]],false),(6,[.slot 11 I,.box 6 [some (I,0),some (I,0),some (Qw,2),some (Uj,2),some (I,0),some (Zp,2),some (YJ,2),some (ab,2),some (Qw,2),some (Qw,2),some (I,0)]],false)]) n Tryz.func80 rfl (cn (rE n) (cn (sj n) (cn (ow n) (cn (oq n) (cn (sC n) (cn (sD n) (cn (sE n) nl)))))))
def tN(n:Nat):Lj:=⟨⟨[.box cW],[(true,cX)]⟩,u3 (N.T7 n)⟩
def re:An:=Y3 [] [] [(9,[.box 0 [some (kS,0),some (I,0),some (I,0)],.box 3 [some (I,0),some (I,0),some (Qw,2)]],false)] [(4,[3])]
theorem tV(n:Nat)(x:(tN n).s.ins.D):Lx (find tbl) (plain [(76,vp n),(77,vq n),(78,vt n),(79,tC n),(80,wF n),(81,wG n)]) re n Tryz.f37 (tN n).s x=N.T7 n x.1 x.2.1 x.2.2:=by kernel_rfl
theorem uA(n:Nat):FO 37 (tN n):=mk (an:=re) (n:=n) (sm:=(tN n).s) Tryz.func37 rfl (cn (sw n) (cn (sx n) (cn (qC n) (cn (uR n) (cn (uS n) (cn (uT n) nl)))))) (tV n)
def wb(n:Nat):Lj:=⟨⟨[.val false [kS],.val false [I]],[(false,VW)]⟩,u2 N.Xs⟩
theorem tv(n:Nat):FO 19 (wb n):=mk Xc n Tryz.func19 rfl nl
def xD(n:Nat):Lj:=⟨⟨[.box cW],[(false,[(iK,2)])]⟩,u3 (N.Xo n)⟩
theorem uM(n:Nat):FO 52 (xD n):=mk (Y3 [] [(0,[.own 3 46 k1 2 false,.slot 4 I,.box 0 [some (kS,0),some (I,0),some (I,0)]],false)] [(7,[.own 3 46 k1 2 false,.box 0 [some (kS,0),some (I,0),some (I,0)]],false)] []) n Tryz.func52 rfl (cn (qC n) (cn (ot n) nl))
def xC(n:Nat):Lj:=⟨⟨[.box cW,.val true XZ],[(false,VW)]⟩,u6 (N.Wy n)⟩
theorem uL(n:Nat):FO 51 (xC n):=mk (Y3 [(2,[.slot 14 .bool,.box 0 [some (kS,0),some (I,0),some (I,0)]])] [] [] []) n Tryz.func51 rfl (cn (lX n) (cn (qC n) (cn (oq n) nl)))
def xP(n:Nat):Lj:=⟨⟨[.box cW,.val true XZ],[(true,[(I,0),(I,0),(iK,2),(I,0),(I,0),(I,0),(I,0)])]⟩,u6 (N.Xp n)⟩
theorem uU(n:Nat):FO 82 (xP n):=mk (Y3 [] [] [(9,[.slot 8 .bool],false),(18,[.own 5 46 k1 2 false],false)] []) n Tryz.func82 rfl (cn (lX n) (cn (uL n) (cn (uM n) nl)))
def wx(n:Nat):Lj:=⟨⟨[.box cW,.val true XZ,.val false [I]],[(false,[((.sl 57 rY),2)])]⟩,u7 (N.W0 n)⟩
theorem uB(n:Nat):FO 38 (wx n):=mk (XC [(0,[.own 7 57 rY 2 false,.slot 8 I,.box 0 [some (kS,0),some (I,0),some (I,0)]],false)]) n Tryz.func38 rfl (cn (lX n) (cn (uU n) nl))
def wU(n:Nat):Lj:=⟨⟨[.val false [kS]],[(true,[(I,0),(I,0),(Qw,0),(Uj,0),(I,0),(Zp,0),(YJ,0),(ab,0),(Qw,0),(Qw,0),(I,0)]),(false,[((.sl 57 rY),2)])]⟩,N.V6 n⟩
theorem tZ(n:Nat):FO 11 (wU n):=mk (Y3 [] [] [] [(3,[5])]) n Tryz.func11 rfl (cn (tu n) (cn (tv n) (cn (uA n) (cn (uB n) nl))))
def wV(n:Nat):Lj:=⟨⟨[.val false [kS],.val false [I]],[(false,VW)]⟩,u2 N.dr⟩
theorem tc(n:Nat):FO 12 (wV n):=mk Xc n Tryz.func12 rfl nl
def xV(n:Nat):Lj:=⟨⟨[.val false [Qw]],[(false,db)]⟩,N.Sa⟩
theorem sy(n:Nat):FO 88 (xV n):=mk Xc n Tryz.func88 rfl nl
def xQ(n:Nat):Lj:=⟨⟨[.val true XZ],[(true,qL)]⟩,u3 N.U1⟩
theorem uV(n:Nat):FO 83 (xQ n):=mk Xc n Tryz.func83 rfl (cn (sy n) nl)
def xR(n:Nat):Lj:=⟨⟨[.val true [Uj]],[(true,Zv)]⟩,N.Pg n⟩
theorem gP(n:Nat):FO 84 (xR n):=mk (XC [(0,[.slot 9 I,.box 3 [some (Uj,2)]],false)]) n Tryz.func84 rfl nl
def uq(n:Nat):Lj:=⟨⟨[.val false [iK]],[(false,[(iK,2)])]⟩,N.Qa⟩
theorem mI(n:Nat):FO 120 (uq n):=mk Xc n Tryz.func120 rfl nl
def ur(n:Nat):Lj:=⟨⟨[.val false [jP]],[(false,[(jP,2)])]⟩,N.XM⟩
theorem r9(n:Nat):FO 121 (ur n):=mk Xc n Tryz.func121 rfl nl
def xM(n:Nat):Lj:=⟨⟨[.val true [I,I,iK,jP,I]],[(true,[(I,0),(I,0),(iK,2),(jP,2),(I,0)])]⟩,u5 N.Rz⟩
theorem rG(n:Nat):FO 73 (xM n):=mk Xc n Tryz.func73 rfl (cn (mI n) (cn (r9 n) nl))
def xS(n:Nat):Lj:=⟨⟨[.val true [I,Zp]],[(true,nq)]⟩,u2 (N.QV n)⟩
theorem o4(n:Nat):FO 85 (xS n):=mk (XC [(0,[.slot 12 I,.box 3 [some (I,0),some (Zp,2)]],false)]) n Tryz.func85 rfl (cn (rG n) nl)
def xT(n:Nat):Lj:=⟨⟨[.val false [YJ]],[(false,[(YJ,2)])]⟩,N.Qp⟩
theorem rH(n:Nat):FO 86 (xT n):=mk Xc n Tryz.func86 rfl nl
def xU(n:Nat):Lj:=⟨⟨[.val false [ab]],[(false,[(ab,2)])]⟩,N.Qb⟩
theorem rI(n:Nat):FO 87 (xU n):=mk Xc n Tryz.func87 rfl nl
def wy(n:Nat):Lj:=⟨⟨[.val true cV],[(true,cX)]⟩,tP (N.QB n)⟩
theorem lW(n:Nat):FO 39 (wy n):=mk Xc n Tryz.func39 rfl (cn (uV n) (cn (gP n) (cn (o4 n) (cn (rH n) (cn (rI n) (cn (sy n) nl))))))
def wq(n:Nat):Lj:=⟨⟨[.val false [I],.val false [I],.val false [I]],[(false,Q3)]⟩,u3 N.PX⟩
theorem Y0(n:Nat):FO 33 (wq n):=mk Xc n Tryz.func33 rfl nl
def xF(n:Nat):Lj:=⟨⟨[.val true XZ],[(false,Q3)]⟩,u3 (N.SJ n)⟩
theorem oy(n:Nat):FO 65 (xF n):=mk (XC [(0,[.slot 29 I],true)]) n Tryz.func65 rfl (cn (Y0 n) nl)
def uf(n:Nat):Lj:=⟨⟨[.val true [I,I,l7]],[(false,Q3)]⟩,u3 (N.YW n)⟩
theorem r8(n:Nat):FO 114 (uf n):=mk (XC [(0,[.slot 24 I],true)]) n Tryz.func114 rfl (cn (Y0 n) nl)
def xG(n:Nat):Lj:=⟨⟨[.val true [Uj]],[(false,Q3)]⟩,N.Q0 n⟩
theorem oz(n:Nat):FO 66 (xG n):=mk (XC [(0,[.slot 10 I],true),(2,[.slot 39 I],true)]) n Tryz.func66 rfl (cn (r8 n) nl)
def xN(n:Nat):Lj:=⟨⟨[.val false [iK]],[(false,Q3)]⟩,N.RZ n⟩
theorem qB(n:Nat):FO 74 (xN n):=mk (XC [(0,[.slot 7 I],true)]) n Tryz.func74 rfl (cn (Y0 n) nl)
def xO(n:Nat):Lj:=⟨⟨[.val false [jP],.val false [iK]],[(false,Q3)]⟩,u2 (N.U7 n)⟩
theorem uQ(n:Nat):FO 75 (xO n):=mk (XC [(0,[.slot 16 I,.own 5 46 k1 2 false],true),(2,[.slot 8 .bool,.slot 22 I,.own 5 46 k1 2 false],false),(4,[.slot 59 I],true)]) n Tryz.func75 rfl (cn (Y0 n) (cn (mI n) nl))
def wk(n:Nat):Lj:=⟨⟨[.val true [I,Zp]],[(false,Q3)]⟩,u2 (N.Qu n)⟩
theorem p9(n:Nat):FO 32 (wk n):=mk (XC [(0,[.slot 18 I],true)]) n Tryz.func32 rfl (cn (Y0 n) (cn (qB n) (cn (uQ n) nl)))
def vB(n:Nat):Lj:=⟨⟨[.val true XZ,.val false [I]],[(false,Q3)]⟩,u4 N.TB⟩
theorem qU(n:Nat):FO 127 (vB n):=mk Xc n Tryz.func127 rfl (cn (Y0 n) nl)
def xX(n:Nat):Lj:=⟨⟨[.val true XZ,.val false [I]],[(false,VW)]⟩,u4 (N.Q5 n)⟩
theorem rJ(n:Nat):FO 90 (xX n):=mk Xc n Tryz.func90 rfl (cn (oy n) (cn (qU n) nl))
def ug(n:Nat):Lj:=⟨⟨[.val true XZ,.val true [I,I,I,.bool,I]],[(false,Q3)]⟩,u8 (N.Ro n)⟩
theorem qS(n:Nat):FO 115 (ug n):=mk Xc n Tryz.func115 rfl (cn (rJ n) nl)
def xH(n:Nat):Lj:=⟨⟨[.val true XZ,.val false [YJ]],[(false,Q3)]⟩,u4 (N.SF n)⟩
theorem qA(n:Nat):FO 67 (xH n):=mk (XC [(0,[.slot 19 I],true),(2,[.slot 59 I],true)]) n Tryz.func67 rfl (cn (Y0 n) (cn (oy n) (cn (qS n) nl)))
def xI(n:Nat):Lj:=⟨⟨[.val false [ab]],[(false,Q3)]⟩,N.U0 n⟩
theorem sv(n:Nat):FO 68 (xI n):=mk (XC [(0,[.slot 10 I],true),(2,[.slot 51 I],true)]) n Tryz.func68 rfl (cn (Y0 n) nl)
def xJ(n:Nat):Lj:=⟨⟨[.val false [Qw]],[(false,Q3)]⟩,N.Tq n⟩
theorem uO(n:Nat):FO 69 (xJ n):=mk (XC [(0,[.slot 7 I],true)]) n Tryz.func69 rfl (cn (Y0 n) nl)
def xL(n:Nat):Lj:=⟨⟨[.val true [I,Zp],.val false [I]],[(false,VW)]⟩,u3 (N.Qc n)⟩
theorem o3(n:Nat):FO 72 (xL n):=mk (XC [(0,[.slot 10 I],true)]) n Tryz.func72 rfl nl
def uh(n:Nat):Lj:=⟨⟨[.val true [Uj],.val false [I]],[(false,VW)]⟩,u2 (N.SK n)⟩
theorem hX(n:Nat):FO 116 (uh n):=mk (XC [(0,[.slot 10 I],true)]) n Tryz.func116 rfl nl
def wu(n:Nat):Lj:=⟨⟨[.val false [Qw],.val false [I]],[(false,Q3)]⟩,u2 (N.Qg n)⟩
theorem nP(n:Nat):FO 34 (wu n):=mk (XC [(0,[.slot 9 I],true)]) n Tryz.func34 rfl nl
def xc(n:Nat):Lj:=⟨⟨[.val false [jP]],[(false,db)]⟩,N.Ub n⟩
theorem rK(n:Nat):FO 95 (xc n):=mk (Y3 [] [(0,[.own 3 3 (.one I) 2 false,.slot 8 I],false)] [(7,[.own 3 3 (.one I) 2 false],false)] []) n Tryz.func95 rfl (cn (nP n) nl)
def uk(n:Nat):Lj:=⟨⟨[.val false [YJ],.val false [I]],[(false,VW)]⟩,u2 (N.Rd n)⟩
theorem ov(n:Nat):FO 117 (uk n):=mk (XC [(0,[.slot 9 I],true)]) n Tryz.func117 rfl nl
def um(n:Nat):Lj:=⟨⟨[.val true cV,.val true [I,I,I,I]],[(false,VW)]⟩,vw (N.TA n)⟩
theorem qT(n:Nat):FO 118 (um n):=mk Xc n Tryz.func118 rfl (cn (o3 n) (cn (hX n) nl))
def xK(n:Nat):Lj:=⟨⟨[.val true cV,.val true [I,I,I,I]],[(false,Q3)]⟩,vw (N.TC n)⟩
theorem uP(n:Nat):FO 70 (xK n):=mk Xc n Tryz.func70 rfl (cn (nP n) (cn (o3 n) (cn (rK n) (cn (hX n) (cn (ov n) (cn (qT n) nl))))))
def wh(n:Nat):Lj:=⟨⟨[.val true cV],[(false,Q3)]⟩,tP (N.QZ n)⟩
theorem ox(n:Nat):FO 28 (wh n):=mk (XC [(0,[.slot 56 I],true)]) n Tryz.func28 rfl (cn (p9 n) (cn (Y0 n) (cn (oy n) (cn (oz n) (cn (qA n) (cn (sv n) (cn (uO n) (cn (uP n) nl))))))))
def xW(n:Nat):Lj:=⟨⟨[.val true [I,I,iK,I,I,I,I]],[(false,Q3)]⟩,u7 (N.Xz n)⟩
theorem uW(n:Nat):FO 89 (xW n):=mk Xc n Tryz.func89 rfl (cn (Y0 n) (cn (qB n) nl))
def wz(n:Nat):Lj:=⟨⟨[.val true [I,I,iK,I,I,I,I]],[(false,Q3)]⟩,u7 (N.YS n)⟩
theorem uC(n:Nat):FO 40 (wz n):=mk Xc n Tryz.func40 rfl (cn (Y0 n) (cn (uW n) nl))
def xY(n:Nat):Lj:=⟨⟨[.val true [I,Zp]],[(true,nq)]⟩,u2 (N.XK n)⟩
theorem uX(n:Nat):FO 91 (xY n):=mk (Y3 [] [(0,[.slot 17 I,.box 3 [some (I,0),some (Zp,2)]],false)] [(7,[.box 3 [some (I,0),some (Zp,2)]],false)] []) n Tryz.func91 rfl (cn (p9 n) (cn (rG n) (cn (o4 n) nl)))
def vH(n:Nat):Lj:=⟨⟨[.val true [I,I,l7],.val false [I]],[(false,VW),(false,Q3)]⟩,u4 (N.QF n)⟩
theorem mJ(n:Nat):FO 133 (vH n):=mk (Y3 [(4,[.slot 4 I,.slot 5 .bool])] [(0,[.slot 6 I],false)] [] []) n Tryz.func133 rfl nl
def vK(n:Nat):Lj:=⟨⟨[.val true [I,I,l7],.val false [iK]],[(false,[(jP,2)]),(false,VW)]⟩,u4 (N.YU n)⟩
theorem sK(n:Nat):FO 156 (vK n):=mk (Y3 [] [(0,[.own 6 80 k3 2 false,.slot 7 I,.slot 15 I],false)] [(7,[.own 6 80 k3 2 false,.slot 7 I],false)] []) n Tryz.func156 rfl (cn (mJ n) nl)
def vG(n:Nat):Lj:=⟨⟨[.val true [Uj],.val false [I],.val false [I],.val false [I]],[(false,VW),(false,VW)]⟩,u4 (N.XO n)⟩
theorem qX(n:Nat):FO 132 (vG n):=mk Xc n Tryz.func132 rfl (cn (Y0 n) (cn (oz n) (cn (hX n) nl)))
def vR(n:Nat):Lj:=⟨⟨[.val true [Uj],.val false [I],.val false [I],.val false [I],.val false [I]],[(true,Zv),(false,VW)]⟩,u5 (N.Ve n)⟩
theorem qZ(n:Nat):FO 177 (vR n):=mk Xc n Tryz.func177 rfl (cn (Y0 n) (cn (gP n) (cn (qX n) (cn (mJ n) nl))))
def vM(n:Nat):Lj:=⟨⟨[.val true [Uj],.val false [I],.val false [I],.val false [I]],[(true,Zv),(false,VW)]⟩,u4 (N.Zg n)⟩
theorem sM(n:Nat):FO 159 (vM n):=mk Xc n Tryz.func159 rfl (cn (qZ n) nl)
def pH(n:Nat):Lj:=⟨⟨[.val true [Uj],.val false [jP],.fn 159],[(true,Zv),(false,Q3)]⟩,u2 (N.XN n)⟩
theorem nM(n:Nat):FO 158 (pH n):=mk (XC [(0,[.slot 17 I,.box 6 [some (Uj,2)],.box 8 [some (Uj,2)]],true)]) n Tryz.func158 rfl (cn (gP n) (cn (sM n) nl))
def vD(n:Nat):Lj:=⟨⟨[.val true [Uj],.val false [jP]],[(true,Zv),(false,Q3)]⟩,u2 (N.Us n)⟩
theorem qV(n:Nat):FO 129 (vD n):=mk Xc n Tryz.func129 rfl (cn (nM n) nl)
def vL(n:Nat):Lj:=⟨⟨[.val false [iK],.val false [jP]],[(false,[(iK,2)])]⟩,u2 (N.Zl n)⟩
theorem sL(n:Nat):FO 157 (vL n):=mk (Y3 [] [(0,[.own 5 46 k1 2 false,.slot 12 I],false),(2,[.slot 18 I,.box 7 [some (I,0),some (I,0)]],false)] [(7,[.own 5 46 k1 2 false],false),(13,[.box 7 [some (I,0),some (I,0)]],false)] []) n Tryz.func157 rfl nl
def vC(n:Nat):Lj:=⟨⟨[.val true [Uj],.val false [iK]],[(false,[(jP,2)]),(false,Q3)]⟩,u2 (N.S7 n)⟩
theorem sF(n:Nat):FO 128 (vC n):=mk (Y3 [] [(0,[.own 6 80 k3 2 false,.own 8 46 k1 2 false,.box 7 [some (Uj,2)]],true),(2,[.own 9 80 k3 2 false,.slot 10 I,.slot 33 I],false)] [(13,[.own 9 80 k3 2 false,.slot 10 I],false)] [(9,[7])]) n Tryz.func128 rfl (cn (oz n) (cn (qB n) (cn (gP n) (cn (mI n) (cn (qV n) (cn (sK n) (cn (sL n) nl)))))))
def xZ(n:Nat):Lj:=⟨⟨[.val true [Uj],.val true [I,Zp],.val false [I],.val false [iK]],[(true,Zv),(true,nq),(false,VW)]⟩,u5 (N.S3 n)⟩
theorem uY(n:Nat):FO 92 (xZ n):=mk Xc n Tryz.func92 rfl (cn (p9 n) (cn (Y0 n) (cn (oz n) (cn (qB n) (cn (gP n) (cn (o4 n) (cn (mI n) (cn (sF n) (cn (qV n) nl)))))))))
def wj(n:Nat):Lj:=⟨⟨[.val true [I,Zp],.val false [I]],[(true,[(I,0),(I,0),(iK,2),(jP,2),(I,0)]),(false,Q3)]⟩,u3 (N.QJ n)⟩
theorem rF(n:Nat):FO 31 (wj n):=mk Xc n Tryz.func31 rfl (cn (o3 n) (cn (rG n) nl))
def xa(n:Nat):Lj:=⟨⟨[.val true [I,I,iK,jP,I]],[(false,[(ab,2)])]⟩,u5 (N.Wo n)⟩
theorem uZ(n:Nat):FO 93 (xa n):=mk (XC [(0,[.own 3 72 k5 2 false,.slot 10 I],false)]) n Tryz.func93 rfl (cn (rK n) nl)
def w4(n:Nat):Lj:=⟨⟨[.val true cV,.val false [I],.val false [iK]],[(true,cX),(false,VW)]⟩,xk (N.Zi n)⟩
theorem uD(n:Nat):FO 41 (w4 n):=mk (Y3 [] [] [(18,[.box 9 [some (I,0),some (Zp,0)]],false)] []) n Tryz.func41 rfl (cn (ox n) (cn (rF n) (cn (lW n) (cn (rJ n) (cn (uX n) (cn (uY n) (cn (uZ n) nl)))))))
def wi(n:Nat):Lj:=⟨F1,λx=>L4 x⟩
theorem tw(n:Nat):FO 30 (wi n):=⟨OW Tryz.lays171,_,_,Tryz.func30,rfl,by kernel_rfl⟩
def vE(n:Nat):Lj:=⟨⟨[.val true [I,Zp],.val false [I],.val false [I]],[(true,nq),(false,Q3)]⟩,u4 (N.Uc n)⟩
theorem qW(n:Nat):FO 130 (vE n):=mk Xc n Tryz.func130 rfl (cn (p9 n) (cn (o3 n) (cn (o4 n) nl)))
def vN(n:Nat):Lj:=⟨⟨[.val true [Uj],.val false [I],.val false [I],.val false [I]],[(true,Zv),(false,VW)]⟩,u4 (N.Uy n)⟩
theorem qY(n:Nat):FO 160 (vN n):=mk Xc n Tryz.func160 rfl (cn (Y0 n) (cn (gP n) (cn (qZ n) nl)))
def pI(n:Nat):Lj:=⟨⟨[.val true [Uj],.val false [jP],.fn 160],[(true,Zv),(false,Q3)]⟩,u2 (N.U2 n)⟩
theorem nN(n:Nat):FO 158 (pI n):=mk (XC [(0,[.slot 17 I,.box 6 [some (Uj,2)],.box 8 [some (Uj,2)]],true)]) n Tryz.func158 rfl (cn (gP n) (cn (qY n) nl))
def vF(n:Nat):Lj:=⟨⟨[.val true [Uj],.val false [jP]],[(true,Zv),(false,Q3)]⟩,u2 (N.UC n)⟩
theorem sG(n:Nat):FO 131 (vF n):=mk Xc n Tryz.func131 rfl (cn (nN n) nl)
def xb(n:Nat):Lj:=⟨⟨[.val true [Uj],.val true [I,Zp],.val false [I]],[(true,Zv),(true,nq),(false,Q3)]⟩,u4 (N.Vy n)⟩
theorem ua(n:Nat):FO 94 (xb n):=mk Xc n Tryz.func94 rfl (cn (o3 n) (cn (gP n) (cn (o4 n) (cn (qW n) (cn (sG n) nl)))))
def w5(n:Nat):Lj:=⟨⟨[.val true cV,.val false [I]],[(true,cX),(false,Q3)]⟩,tH (N.Zf n)⟩
theorem uE(n:Nat):FO 42 (w5 n):=mk (Y3 [] [(0,[.own 9 72 k5 2 false,.slot 10 I,.slot 36 I,.box 4 [some (I,0),some (I,0),some (Qw,2),some (Uj,2),some (I,0),some (Zp,2),some (YJ,2),some (ab,2),some (Qw,2),some (Qw,2),some (I,0)],.box 6 [some (I,0),some (I,0),some (Qw,2),some (Uj,2),some (I,0),some (Zp,2),some (YJ,2),some (ab,2),some (Qw,2),some (Qw,2),some (I,0)]],true)] [(7,[.own 9 72 k5 2 false,.slot 10 I,.box 4 [some (I,0),some (I,0),some (Qw,2),some (Uj,2),some (I,0),some (Zp,2),some (YJ,2),some (ab,2),some (Qw,2),some (Qw,2),some (I,0)],.box 6 [some (I,0),some (I,0),some (Qw,2),some (Uj,2),some (I,0),some (Zp,2),some (YJ,2),some (ab,2),some (Qw,2),some (Qw,2),some (I,0)]],true)] []) n Tryz.func42 rfl (cn (ox n) (cn (rF n) (cn (lW n) (cn (ua n) (cn (rK n) nl)))))
def xd(n:Nat):Lj:=⟨⟨[.val true [Uj],.val false [I],.val false [I],.val false [I]],[(true,Zv),(false,VW)]⟩,u4 (N.YT n)⟩
theorem ub(n:Nat):FO 96 (xd n):=mk (Y3 [] [] [(4,[.box 8 [some (Uj,2)],.box 10 [some (Uj,2)]],true)] []) n Tryz.func96 rfl (cn (gP n) (cn (qX n) (cn (mJ n) nl)))
def w6(n:Nat):Lj:=⟨⟨[.val true cV,.val false [I],.val false [I],.val false [I]],[(true,cX),(false,VW)]⟩,xl (N.Wl n)⟩
theorem uF(n:Nat):FO 43 (w6 n):=mk Xc n Tryz.func43 rfl (cn (ox n) (cn (lW n) (cn (ub n) nl)))
def vS(n:Nat):Lj:=⟨⟨[.val false [YJ],.val false [ab]],[(false,db)]⟩,u2 (N.Zk n)⟩
theorem sQ(n:Nat):FO 178 (vS n):=mk (Y3 [] [(0,[.own 5 3 (.one I) 2 false,.slot 13 I],false),(2,[.slot 8 .bool,.slot 33 I],false)] [(7,[.own 5 3 (.one I) 2 false],false)] []) n Tryz.func178 rfl nl
def vT(n:Nat):Lj:=⟨⟨[.val true [Uj],.val false [ab],.val false [I]],[(false,db)]⟩,u3 (N.YX n)⟩
theorem sR(n:Nat):FO 179 (vT n):=mk (Y3 [] [(0,[.own 8 3 (.one I) 2 false,.slot 15 I],false),(2,[.own 7 3 (.one I) 2 false,.own 8 3 (.one I) 2 false,.slot 30 I],false)] [(7,[.own 8 3 (.one I) 2 false],false),(13,[.own 7 3 (.one I) 2 false,.own 8 3 (.one I) 2 false],false)] []) n Tryz.func179 rfl (cn (nP n) (cn (hX n) nl))
def vn(n:Nat):Lj:=⟨⟨[.val true XZ,.val false [I]],[(false,db)]⟩,u4 N.Xf⟩
theorem qd(n:Nat):FO 216 (vn n):=mk (Y3 [] [] [(12,[.own 5 3 (.one I) 2 false],false),(18,[.own 5 3 (.one I) 2 false],false),(24,[.own 5 3 (.one I) 2 false],false),(30,[.own 5 3 (.one I) 2 false],false)] []) n Tryz.func216 rfl nl
def vl(n:Nat):Lj:=⟨⟨[.val true XZ,.val false [I],.val false [.bool]],[(false,db)]⟩,u5 (N.YD n)⟩
theorem qc(n:Nat):FO 207 (vl n):=mk (Y3 [] [(0,[.own 7 3 (.one I) 2 false,.slot 15 I],false)] [(7,[.own 7 3 (.one I) 2 false],false)] []) n Tryz.func207 rfl (cn (qd n) nl)
def va(n:Nat):Lj:=⟨⟨[.val true XZ,.val false [I],.val false [.bool]],[(false,db)]⟩,u5 (N.US n)⟩
theorem qa(n:Nat):FO 196 (va n):=mk (Y3 [] [(0,[.slot 19 I,.own 7 3 (.one I) 2 false],false),(2,[.own 9 3 (.one I) 2 false,.own 7 3 (.one I) 2 false],false),(4,[.own 9 3 (.one I) 2 false,.slot 57 I,.own 7 3 (.one I) 2 false],false)] [(19,[.own 9 3 (.one I) 2 false,.own 7 3 (.one I) 2 false],false)] []) n Tryz.func196 rfl (cn (qc n) nl)
def vU(n:Nat):Lj:=⟨⟨[.val true XZ,.val false [I],.val false [I]],[(false,VW)]⟩,u5 (N.S9 n)⟩
theorem sS(n:Nat):FO 180 (vU n):=mk Xc n Tryz.func180 rfl (cn (rJ n) (cn (qU n) (cn (qa n) nl)))
def vb(n:Nat):Lj:=⟨⟨[.val false [(.sl 24 (.one Qw))]],[(false,Q3)]⟩,N.Wj n⟩
theorem sY(n:Nat):FO 197 (vb n):=mk (XC [(0,[.slot 12 I],true),(2,[.slot 33 I],true)]) n Tryz.func197 rfl (cn (Y0 n) nl)
def vd(n:Nat):Lj:=⟨⟨[.val false [(.sl 24 (.one Qw))]],[(false,[((.sl 24 (.one Qw)),2)])]⟩,N.YV n⟩
theorem sZ(n:Nat):FO 198 (vd n):=mk (Y3 [] [(0,[.slot 5 I,.own 4 24 (.one Qw) 2 false],false),(2,[.slot 45 I,.own 4 24 (.one Qw) 2 false],false),(4,[.slot 55 I,.own 4 24 (.one Qw) 2 false],false)] [(9,[.slot 3 I],false),(19,[.own 4 24 (.one Qw) 2 false],false)] []) n Tryz.func198 rfl nl
def vV(n:Nat):Lj:=⟨⟨[.val false [(.sl 24 (.one Qw))]],[(false,db),(false,VW)]⟩,N.XI n⟩
theorem sT(n:Nat):FO 181 (vV n):=mk (XC [(0,[.own 5 3 (.one I) 2 false,.slot 6 I,.slot 17 I],false),(2,[.own 5 3 (.one I) 2 false,.slot 6 I,.slot 24 I],false)]) n Tryz.func181 rfl (cn (sY n) (cn (sZ n) nl))
def vO(n:Nat):Lj:=⟨⟨[.val true XZ,.val true [Uj],.val false [YJ],.val false [ab]],[(false,[(YJ,2)]),(false,[(ab,2)])]⟩,u6 (N.Vr n)⟩
theorem sN(n:Nat):FO 161 (vO n):=mk (Y3 [] [(0,[.own 14 24 (.one Qw) 2 false,.slot 62 I],false),(2,[.own 17 3 (.one I) 2 false,.slot 68 I],false),(4,[.slot 110 I,.own 10 74 k6 2 false,.own 11 72 k5 2 false],false)] [(19,[.own 10 74 k6 2 false,.own 11 72 k5 2 false],false),(48,[.slot 20 I],false)] []) n Tryz.func161 rfl (cn (oy n) (cn (oz n) (cn (qA n) (cn (sv n) (cn (rH n) (cn (rI n) (cn (hX n) (cn (sQ n) (cn (sR n) (cn (sS n) (cn (sT n) nl)))))))))))
def ve(n:Nat):Lj:=⟨⟨[.val false [YJ]],[(false,db)]⟩,N.XL n⟩
theorem sa(n:Nat):FO 199 (ve n):=tY (XC [(0,[.slot 7 I,.box 3 [some (Qw,2)]],false)]) n Tryz.func199 rfl (NO nl pR (by kernel_rfl):JM Tryz.prog TT (NC _ 208 209 kJ []))
def s8(n:Nat):Lj:=⟨⟨[.val true XZ,.val true [I,I,I,.bool,I]],[(false,db)]⟩,u8 (N.TR n)⟩
theorem sn(n:Nat):FO 210 (s8 n):=tY (Y3 [] [(0,[.slot 58 I,.box 6 [some (Qw,2)]],false)] [(15,[.box 5 [some (Qw,2)]],false),(42,[.box 6 [some (Qw,2)]],false)] []) n Tryz.func210 rfl (NO (cn (nP n) (cn (oy n) (cn (qS n) (cn (qa n) (cn (qc n) (cn (qd n) nl)))))) ly (by kernel_rfl):JM Tryz.prog TT (NC _ 208 222 fP [200]))
def tA(n:Nat):Lj:=⟨⟨[.box rR,.val false [I]],[(false,Q3)]⟩,u6 (N.TZ n)⟩
theorem sq(n:Nat):FO 211 (tA n):=mk Xc n Tryz.func211 rfl (cn (nP n) nl)
def tB(n:Nat):Lj:=⟨⟨[.box rR,.val false [I],.val false [I]],[(false,VW)]⟩,u7 (N.R0 n)⟩
theorem ss(n:Nat):FO 212 (tB n):=mk (XC [(0,[.slot 14 I],true)]) n Tryz.func212 rfl nl
def nY(n:Nat):Lj:=⟨⟨[.box rR,.val false [I],.val false [I]],[(false,Q3)]⟩,u7 (N.P9 n)⟩
def qO:An:=Y3 [(4,[.slot 45 .bool,.box 0 [some (I,0),some (I,0),some (Qw,0),some (YJ,0),some (Qw,2)]]),(7,[.slot 64 .bool,.box 0 [some (I,0),some (I,0),some (Qw,0),some (YJ,0),some (Qw,2)]])] [(0,[.slot 23 I,.box 0 [some (I,0),some (I,0),some (Qw,0),some (YJ,0),some (Qw,2)]],true)] [(7,[.box 0 [some (I,0),some (I,0),some (Qw,0),some (YJ,0),some (Qw,2)]],true)] []
theorem ru(n:Nat)(x:(nY n).s.ins.D):Lx (find tbl) (plain [(200,nY n),(210,s8 n),(211,tA n),(212,tB n)]) qO n Tryz.f200 (nY n).s x=N.P9 (n+1) x.1 x.2.1 x.2.2.1 x.2.2.2.1 x.2.2.2.2.1 x.2.2.2.2.2.1 x.2.2.2.2.2.2:=by kernel_rfl
theorem sd(n:Nat):FO 200 (nY n):=by
 induction n with
 |zero=>exact⟨OT,_,_,Tryz.func200,rfl,by kernel_rfl⟩
 |succ n ih=>exact mk (an:=qO) (n:=n) (sm:=(nY n).s) (F:=λ(x:(nY n).s.ins.D)=>N.P9 (n+1) x.1 x.2.1 x.2.2.1 x.2.2.2.1 x.2.2.2.2.1 x.2.2.2.2.2.1 x.2.2.2.2.2.2) Tryz.func200 rfl (cn ih (cn (sn n) (cn (sq n) (cn (ss n) nl)))) (ru n)
def vW(n:Nat):Lj:=⟨⟨[.val true XZ,.val false [YJ]],[(false,db)]⟩,u4 (N.Zh n)⟩
theorem sU(n:Nat):FO 182 (vW n):=mk (Y3 [] [(0,[.slot 18 I,.box 15 [some (I,0),some (I,0),some (Qw,0),some (YJ,0),some (Qw,2)]],false),(2,[.slot 33 I,.box 15 [some (I,0),some (I,0),some (Qw,0),some (YJ,0),some (Qw,2)]],false)] [(13,[.box 15 [some (I,0),some (I,0),some (Qw,0),some (YJ,0),some (Qw,2)]],false)] []) n Tryz.func182 rfl (cn (qA n) (cn (sa n) (cn (sd n) nl)))
def vX(n:Nat):Lj:=⟨⟨[.val true [I,I,I,.bool,I]],[(false,Q3)]⟩,u5 N.aM⟩
theorem sV(n:Nat):FO 183 (vX n):=mk Xc n Tryz.func183 rfl nl
def vP(n:Nat):Lj:=⟨⟨[.val true XZ,.val false [YJ]],[(false,[(YJ,2)])]⟩,u4 (N.Wi n)⟩
theorem sO(n:Nat):FO 162 (vP n):=mk (Y3 [] [(0,[.slot 20 I,.own 5 74 k6 2 false],false)] [(7,[.own 5 74 k6 2 false],false)] []) n Tryz.func162 rfl (cn (qA n) (cn (rH n) (cn (sU n) (cn (sV n) nl))))
def vg(n:Nat):Lj:=⟨⟨[.val true [I,I,iK,jP,I],.val false [I]],[(false,[(jP,2)])]⟩,u6 (N.Ut n)⟩
theorem se(n:Nat):FO 201 (vg n):=mk (Y3 [] [(0,[.own 5 80 k3 2 false,.slot 11 I],false)] [(7,[.own 5 80 k3 2 false],false)] []) n Tryz.func201 rfl nl
def vm(n:Nat):Lj:=⟨⟨[.val true [Uj],.val false [I],.val false [I],.val false [I]],[(true,Zv),(false,VW)]⟩,u4 (N.Wn n)⟩
theorem su(n:Nat):FO 213 (vm n):=mk (Y3 [] [] [(24,[.box 10 [some (Uj,2)]],false)] []) n Tryz.func213 rfl (cn (hX n) (cn (mJ n) (cn (qY n) nl)))
def pJ(n:Nat):Lj:=⟨⟨[.val true [Uj],.val false [jP],.fn 213],[(true,Zv),(false,Q3)]⟩,u2 (N.U3 n)⟩
theorem nO(n:Nat):FO 158 (pJ n):=mk (XC [(0,[.slot 17 I,.box 6 [some (Uj,2)],.box 8 [some (Uj,2)]],true)]) n Tryz.func158 rfl (cn (gP n) (cn (su n) nl))
def vh(n:Nat):Lj:=⟨⟨[.val true [Uj],.val false [jP]],[(true,Zv),(false,Q3)]⟩,u2 (N.Wm n)⟩
theorem sg(n:Nat):FO 202 (vh n):=mk Xc n Tryz.func202 rfl (cn (nO n) nl)
def vY(n:Nat):Lj:=⟨⟨[.box [(I,0),(I,0),(Qw,2),(Uj,2),(I,0),(Zp,2),(YJ,3),(ab,3),(Qw,2),(Qw,2),(I,0)],.val true [I,I,I,I]],[]⟩,vw (N.SH n)⟩
theorem sW(n:Nat):FO 184 (vY n):=mk (XC [(0,[.slot 42 I,.box 0 [some (I,0),some (I,0),some (Qw,2),some (Uj,2),some (I,0),some (Zp,2),some (YJ,3),some (ab,3),some (Qw,2),some (Qw,2),some (I,0)]],false)]) n Tryz.func184 rfl (cn (rF n) (cn (se n) (cn (sg n) nl)))
def vk(n:Nat):Lj:=⟨⟨[.val true [I,Zp],.val false [I]],[(true,nq),(false,Q3)]⟩,u3 (N.Xe n)⟩
theorem si(n:Nat):FO 203 (vk n):=mk Xc n Tryz.func203 rfl (cn (qW n) nl)
def vZ(n:Nat):Lj:=⟨⟨[.box cX,.val false [I]],[]⟩,tH (N.TU n)⟩
theorem sX(n:Nat):FO 185 (vZ n):=mk (XC [(0,[.slot 40 I],true)]) n Tryz.func185 rfl (cn (rI n) (cn (si n) nl))
def vQ(n:Nat):Lj:=⟨⟨[.box cX,.val false [I]],[(false,Q3)]⟩,tH (N.SQ n)⟩
theorem sP(n:Nat):FO 163 (vQ n):=mk (Y3 [] [] [(15,[.box 0 [some (I,0),some (I,0),some (Qw,2),some (Uj,2),some (I,0),some (Zp,2),some (YJ,2),some (ab,2),some (Qw,2),some (Qw,2),some (I,0)]],true)] []) n Tryz.func163 rfl (cn (ov n) (cn (qT n) (cn (sW n) (cn (sX n) nl))))
def vI(n:Nat):Lj:=⟨⟨[.box cX],[]⟩,tP (N.SR n)⟩
theorem sH(n:Nat):FO 134 (vI n):=mk (Y3 [(13,[.slot 9 .bool,.box 0 [some (I,0),some (I,0),some (Qw,2),some (Uj,2),some (I,0),some (Zp,2),some (YJ,2),some (ab,2),some (Qw,2),some (Qw,2),some (I,0)]])] [(0,[.own 4 3 (.one I) 2 false,.slot 55 I],false),(2,[.slot 8 I,.box 0 [some (I,0),some (I,0),some (Qw,2),some (Uj,2),some (I,0),some (Zp,2),some (YJ,2),some (ab,2),some (Qw,2),some (Qw,2),some (I,0)]],false)] [(7,[.own 4 3 (.one I) 2 false],false)] []) n Tryz.func134 rfl (cn (nP n) (cn (ov n) (cn (sN n) (cn (sO n) (cn (sP n) nl)))))
def xe(n:Nat):Lj:=⟨⟨[.val true cV],[(true,cX)]⟩,tP (N.Zj n)⟩
theorem uc(n:Nat):FO 97 (xe n):=mk (Y3 [] [] [(9,[.box 3 [some (I,0),some (I,0),some (Qw,2),some (Uj,2),some (I,0),some (Zp,2),some (YJ,2),some (ab,2),some (Qw,2),some (Qw,2),some (I,0)]],false)] []) n Tryz.func97 rfl (cn (ox n) (cn (lW n) (cn (sH n) nl)))
def w7(n:Nat):Lj:=⟨⟨[.val true cV,.val false [I]],[(true,cX)]⟩,tH (N.aj n)⟩
theorem uG(n:Nat):FO 44 (w7 n):=mk (XC [(0,[.slot 13 I,.box 5 [some (I,0),some (I,0),some (Qw,2),some (Uj,2),some (I,0),some (Zp,2),some (YJ,2),some (ab,2),some (Qw,2),some (Qw,2),some (I,0)]],false)]) n Tryz.func44 rfl (cn (Y0 n) (cn (lW n) (cn (uc n) nl)))
def wX(n:Nat):Lj:=⟨⟨[.val true cV,.val true [I,I,iK,I,I,I,I]],[(true,cX),(false,[(.str,0)])]⟩,xm (N.XH n)⟩
theorem sI(n:Nat):FO 14 (wX n):=mk Xc n Tryz.func14 rfl (cn (ox n) (cn (tw n) (cn (lW n) (cn (uC n) (cn (uD n) (cn (uE n) (cn (uF n) (cn (uG n) nl))))))))
def wW(n:Nat):Lj:=⟨⟨[.val true cV,.val false [(.sl 57 rY)]],[(true,cX),(false,[(tE,2)])]⟩,tH (N.Vd n)⟩
theorem td(n:Nat):FO 13 (wW n):=mk (XC [(0,[.own 7 9 (.one .str) 2 false,.slot 16 I,.box 6 [some (I,0),some (I,0),some (Qw,2),some (Uj,2),some (I,0),some (Zp,2),some (YJ,2),some (ab,2),some (Qw,2),some (Qw,2),some (I,0)]],false)]) n Tryz.func13 rfl (cn (sI n) (cn (lW n) nl))
def wv(n:Nat):Lj:=⟨⟨[.val true XZ],[(false,[(.str,0)])]⟩,u3 (N.TH n)⟩
theorem tz(n:Nat):FO 35 (wv n):=mk (Y3 [] [(0,[.own 3 5 (.one (.int .u8)) 2 false,.slot 4 I],false)] [(7,[.own 3 5 (.one (.int .u8)) 2 false],false)] []) n Tryz.func35 rfl (cn (rE n) nl)
def w8(n:Nat):Lj:=⟨⟨[.val true [Uj],.val true [Uj]],[(false,Q3)]⟩,u2 (N.U9 n)⟩
theorem uH(n:Nat):FO 45 (w8 n):=mk (XC [(0,[.slot 5 I],true),(2,[.slot 8 I],true)]) n Tryz.func45 rfl nl
def w9(n:Nat):Lj:=⟨⟨[.val false [YJ],.val false [YJ]],[(false,Q3)]⟩,u2 (N.V4 n)⟩
theorem uI(n:Nat):FO 46 (w9 n):=mk (XC [(0,[.slot 5 I],true)]) n Tryz.func46 rfl nl
def xA(n:Nat):Lj:=⟨⟨[.val false [ab],.val false [ab]],[(false,Q3)]⟩,u2 (N.VA n)⟩
theorem uJ(n:Nat):FO 47 (xA n):=mk (XC [(0,[.slot 5 I],true)]) n Tryz.func47 rfl nl
def xB(n:Nat):Lj:=⟨⟨[.val false [Qw],.val false [Qw]],[(false,Q3)]⟩,u2 (N.Tv n)⟩
theorem uK(n:Nat):FO 48 (xB n):=mk (XC [(0,[.slot 5 I],true)]) n Tryz.func48 rfl nl
def wY(n:Nat):Lj:=⟨⟨[.val true cV,.val true cV],[(false,Q3)]⟩,xn (N.TE n)⟩
theorem te(n:Nat):FO 15 (wY n):=mk Xc n Tryz.func15 rfl (cn (tz n) (cn (uH n) (cn (uI n) (cn (uJ n) (cn (uK n) nl)))))
def wZ(n:Nat):Lj:=⟨⟨[.val false [tE],.val false [tE]],[(false,Q3)]⟩,u2 (N.VB n)⟩
theorem tn(n:Nat):FO 16 (wZ n):=mk (XC [(0,[.slot 5 I],true)]) n Tryz.func16 rfl nl
def s4(n:Nat):Lj:=⟨⟨[.val false [kS]],[(false,Q3)]⟩,N.X1 n⟩
theorem wR(n:Nat):FO 4 (s4 n):=mk (XC [(0,[.slot 13 I,.box 12 [some (I,0),some (I,0),some (Qw,0),some (Uj,0),some (I,0),some (Zp,0),some (YJ,0),some (ab,0),some (Qw,0),some (Qw,0),some (I,0)]],true)]) n Tryz.func4 rfl (cn (wS n) (cn (tZ n) (cn (tc n) (cn (td n) (cn (sI n) (cn (te n) (cn (tn n) nl)))))))
end Go.Proofs.YthlchdmdanagkaaGreatDoor.Ev
