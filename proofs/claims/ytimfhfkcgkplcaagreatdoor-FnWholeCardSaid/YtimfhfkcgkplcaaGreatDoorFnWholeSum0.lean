/- Summaries. Conditions: none. -/
import Derived.Test.YtimfhfkcgkplcaaGreatDoorLib6
import Derived.Shelf.Lay
import Derived.Ground.NamesProg
import Derived.Test.YtimfhfkcgkplcaaGreatDoorFnWholeNat
import Derived.Test.YtimfhfkcgkplcaaGreatDoorProg
import Derived.KernelRfl
set_option linter.all false
namespace Go.Proofs.YtimfhfkcgkplcaaGreatDoor.Ev
open Go Go.Ev Go.Proofs
set_option maxRecDepth 100000
abbrev I:L:=.int .i64
abbrev TT:List (String×Array Value):=Kv
end Go.Proofs.YtimfhfkcgkplcaaGreatDoor.Ev
namespace Go.Proofs
open Go.Shelf
shelf_lay LaysM.n171 Nm 171 at Tryz as Tryz.lays171
end Go.Proofs
namespace Go.Proofs.YtimfhfkcgkplcaaGreatDoor.Ev
open Go Go.Ev Go.Proofs
def k0:Ls:=(.cons .str (.one (.int .u64)))
def k1:Ls:=(.cons I (.one I))
def k2:Ls:=(.cons (.int .u8) (.one (.int .u8)))
def k3:Ls:=(.cons .str (.one (.int .u8)))
def k4:Ls:=(.cons I (.cons I (.one I)))
def k5:Ls:=(.cons I (.cons I (.cons .bool (.one (.int .u8)))))
def k6:Ls:=(.cons I (.cons I (.cons I (.one I))))
def k7:Ls:=(.cons I (.cons I (.cons I (.cons .bool (.one I)))))
def k8:Ls:=(.cons I (.cons I (.one (.sl 3 (.one I)))))
def k9:Ls:=(.cons I (.cons I (.one (.sl 112 k4))))
def k10:Ls:=(.cons (.sl 5 (.one (.int .u8))) (.cons I (.one I)))
def uI:Ls:=(.cons I (.cons I (.one (.sl 249 k4))))
def ni:Ls:=(.cons I (.cons I (.cons (.sl 46 k1) (.cons (.sl 96 k4) (.one I)))))
def uJ:Ls:=(.cons I (.cons I (.cons (.sl 3 (.one I)) (.cons (.sl 90 k7) (.one (.sl 3 (.one I)))))))
def uK:Ls:=(.cons I (.cons I (.cons (.sl 46 k1) (.cons I (.cons I (.cons I (.one I)))))))
def tC:Ls:=(.cons I (.one (.sl 43 ni)))
def tD:Ls:=(.cons I (.cons I (.cons (.sl 3 (.one I)) (.cons (.sl 90 k7) (.cons (.sl 24 (.one (.sl 3 (.one I)))) (.one (.sl 3 (.one I))))))))
def tE:Ls:=(.cons I (.cons I (.cons (.sl 3 (.one I)) (.cons (.sl 104 k9) (.cons I (.cons (.sl 43 ni) (.cons (.sl 90 k7) (.cons (.sl 88 k6) (.cons (.sl 3 (.one I)) (.cons (.sl 3 (.one I)) (.one I)))))))))))
def tbl:List (Nat×Ty):=[
 (3,⟨false,(.one I),[],false⟩),
 (4,⟨false,(.one .bool),[],false⟩),
 (5,⟨false,(.one (.int .u8)),[],false⟩),
 (9,⟨false,(.one .str),[],false⟩),
 (22,⟨false,(.one (.sl 5 (.one (.int .u8)))),[],false⟩),
 (24,⟨false,(.one (.sl 3 (.one I))),[],false⟩),
 (26,⟨true,k8,[(0,3),(1,3),(2,24)],false⟩),
 (27,⟨false,(.one (.sl 104 k9)),[],false⟩),
 (29,⟨true,(.one (.sl 104 k9)),[(0,27)],false⟩),
 (30,⟨false,(.one (.sl 43 ni)),[],false⟩),
 (32,⟨true,tC,[(0,3),(1,30)],false⟩),
 (33,⟨false,(.one (.sl 90 k7)),[],false⟩),
 (34,⟨false,(.one (.sl 88 k6)),[],false⟩),
 (36,⟨true,tE,[(0,26),(3,29),(4,32),(6,33),(7,34),(8,24),(9,24),(10,3)],false⟩),
 (40,⟨false,(.one (.sl 46 k1)),[],false⟩),
 (41,⟨false,(.one (.sl 96 k4)),[],false⟩),
 (43,⟨true,ni,[(0,3),(1,3),(2,40),(3,41),(4,3)],false⟩),
 (46,⟨true,k1,[(0,3),(1,3)],true⟩),
 (88,⟨true,k6,[(0,3),(1,3),(2,3),(3,3)],true⟩),
 (90,⟨true,k7,[(0,3),(1,3),(2,3),(3,4),(4,3)],true⟩),
 (96,⟨true,k4,[(0,3),(1,3),(2,3)],true⟩),
 (102,⟨false,(.one (.sl 112 k4)),[],false⟩),
 (104,⟨true,k9,[(0,3),(1,3),(2,102)],false⟩),
 (112,⟨true,k4,[(0,3),(1,3),(2,3)],true⟩),
 (136,⟨true,k10,[(0,22),(1,3),(2,3)],false⟩),
 (153,⟨false,(.one (.sl 9 (.one .str))),[],false⟩),
 (226,⟨false,(.one (.sl 24 (.one (.sl 3 (.one I))))),[],false⟩),
 (253,⟨false,(.one (.sl 4 (.one .bool))),[],false⟩),
 (280,⟨true,tD,[(0,26),(3,33),(4,226),(5,24)],false⟩)]
theorem pX:tbl.all (λp=>Ou Tryz.prog p.1 p.2)=true:=by kernel_rfl
theorem follows:Tryz.prog.follows .mixedOrders=true:=by kernel_rfl
def X3(g:List (Nat×List VP))(b j:List (Nat×List VP×Bool))(p:List (Nat×Is)):An:=⟨find g,find b,find j,λk=>match find p k with|some x=>x|none=>[]⟩
def Wq(b:List (Nat×List VP×Bool)):An:=X3 [] b [] []
def WQ:An:=Wq []
abbrev FO(f:FuncId)(g:Ln):Prop:=JO Tryz.prog TT f g/\Kg Tryz.prog f
theorem nl:IJ Tryz.prog TT (find []):=Of
theorem cn{f:FuncId}{g:Ln}{l:List (FuncId×Ln)}(h:FO f g)(hl:IJ Tryz.prog TT (find l)):IJ Tryz.prog TT (find ((f,g)::l)):=OQ h.1 h.2 hl
theorem tF {l : Env} (an : An) (n : Nat) {sm : Sm} {fn : Func} {f : FuncId} {c : Code} {F : sm.ins.D -> Option sm.outs.D} (hf : Tryz.prog.funcs[f]? = some fn) (hb : fn.body = some c) (hl : JN Tryz.prog TT l) (hF : ∀ x, L1 (find tbl) l an n fn sm x = F x := by intro x; kernel_rfl) (h1 : decide (sm.ps.length <= fn.ntmps) = true := by kernel_rfl) (h2 : (fn.name == "runtime.NumGoroutine") = false := by kernel_rfl) : FO f ⟨sm, F⟩ := ⟨OG hf hb h1 pX hl follows hF, fn, c, hf, hb, h2⟩
theorem mk {l : List (FuncId × Ln)} (an : An) (n : Nat) {sm : Sm} {fn : Func} {f : FuncId} {c : Code} {F : sm.ins.D -> Option sm.outs.D} (hf : Tryz.prog.funcs[f]? = some fn) (hb : fn.body = some c) (hl : IJ Tryz.prog TT (find l)) (hF : ∀ x, L1 (find tbl) (plain l) an n fn sm x = F x := by intro x; kernel_rfl) (h1 : decide (sm.ps.length <= fn.ntmps) = true := by kernel_rfl) (h2 : (fn.name == "runtime.NumGoroutine") = false := by kernel_rfl) : FO f ⟨sm, F⟩ := tF an n hf hb (OE hl) hF h1 h2
def u2{α0 α1 β:Type}(f:α0->α1->β)(x:α0×α1):β:=f x.1 x.2
def u3{α0 α1 α2 β:Type}(f:α0->α1->α2->β)(x:α0×α1×α2):β:=f x.1 x.2.1 x.2.2
def u4{α0 α1 α2 α3 β:Type}(f:α0->α1->α2->α3->β)(x:α0×α1×α2×α3):β:=f x.1 x.2.1 x.2.2.1 x.2.2.2
def u5{α0 α1 α2 α3 α4 β:Type}(f:α0->α1->α2->α3->α4->β)(x:α0×α1×α2×α3×α4):β:=f x.1 x.2.1 x.2.2.1 x.2.2.2.1 x.2.2.2.2
def u6{α0 α1 α2 α3 α4 α5 β:Type}(f:α0->α1->α2->α3->α4->α5->β)(x:α0×α1×α2×α3×α4×α5):β:=f x.1 x.2.1 x.2.2.1 x.2.2.2.1 x.2.2.2.2.1 x.2.2.2.2.2
def u7{α0 α1 α2 α3 α4 α5 α6 β:Type}(f:α0->α1->α2->α3->α4->α5->α6->β)(x:α0×α1×α2×α3×α4×α5×α6):β:=f x.1 x.2.1 x.2.2.1 x.2.2.2.1 x.2.2.2.2.1 x.2.2.2.2.2.1 x.2.2.2.2.2.2
def u8{α0 α1 α2 α3 α4 α5 α6 α7 β:Type}(f:α0->α1->α2->α3->α4->α5->α6->α7->β)(x:α0×α1×α2×α3×α4×α5×α6×α7):β:=f x.1 x.2.1 x.2.2.1 x.2.2.2.1 x.2.2.2.2.1 x.2.2.2.2.2.1 x.2.2.2.2.2.2.1 x.2.2.2.2.2.2.2
def u9{α0 α1 α2 α3 α4 α5 α6 α7 α8 β:Type}(f:α0->α1->α2->α3->α4->α5->α6->α7->α8->β)(x:α0×α1×α2×α3×α4×α5×α6×α7×α8):β:=f x.1 x.2.1 x.2.2.1 x.2.2.2.1 x.2.2.2.2.1 x.2.2.2.2.2.1 x.2.2.2.2.2.2.1 x.2.2.2.2.2.2.2.1 x.2.2.2.2.2.2.2.2
def nV{α0 α1 α2 α3 α4 α5 α6 α7 α8 α9 α10 β:Type}(f:α0->α1->α2->α3->α4->α5->α6->α7->α8->α9->α10->β)(x:α0×α1×α2×α3×α4×α5×α6×α7×α8×α9×α10):β:=f x.1 x.2.1 x.2.2.1 x.2.2.2.1 x.2.2.2.2.1 x.2.2.2.2.2.1 x.2.2.2.2.2.2.1 x.2.2.2.2.2.2.2.1 x.2.2.2.2.2.2.2.2.1 x.2.2.2.2.2.2.2.2.2.1 x.2.2.2.2.2.2.2.2.2.2
def su{α0 α1 α2 α3 α4 α5 α6 α7 α8 α9 α10 α11 β:Type}(f:α0->α1->α2->α3->α4->α5->α6->α7->α8->α9->α10->α11->β)(x:α0×α1×α2×α3×α4×α5×α6×α7×α8×α9×α10×α11):β:=f x.1 x.2.1 x.2.2.1 x.2.2.2.1 x.2.2.2.2.1 x.2.2.2.2.2.1 x.2.2.2.2.2.2.1 x.2.2.2.2.2.2.2.1 x.2.2.2.2.2.2.2.2.1 x.2.2.2.2.2.2.2.2.2.1 x.2.2.2.2.2.2.2.2.2.2.1 x.2.2.2.2.2.2.2.2.2.2.2
def uE{α0 α1 α2 α3 α4 α5 α6 α7 α8 α9 α10 α11 α12 β:Type}(f:α0->α1->α2->α3->α4->α5->α6->α7->α8->α9->α10->α11->α12->β)(x:α0×α1×α2×α3×α4×α5×α6×α7×α8×α9×α10×α11×α12):β:=f x.1 x.2.1 x.2.2.1 x.2.2.2.1 x.2.2.2.2.1 x.2.2.2.2.2.1 x.2.2.2.2.2.2.1 x.2.2.2.2.2.2.2.1 x.2.2.2.2.2.2.2.2.1 x.2.2.2.2.2.2.2.2.2.1 x.2.2.2.2.2.2.2.2.2.2.1 x.2.2.2.2.2.2.2.2.2.2.2.1 x.2.2.2.2.2.2.2.2.2.2.2.2
def uF{α0 α1 α2 α3 α4 α5 α6 α7 α8 α9 α10 α11 α12 α13 β:Type}(f:α0->α1->α2->α3->α4->α5->α6->α7->α8->α9->α10->α11->α12->α13->β)(x:α0×α1×α2×α3×α4×α5×α6×α7×α8×α9×α10×α11×α12×α13):β:=f x.1 x.2.1 x.2.2.1 x.2.2.2.1 x.2.2.2.2.1 x.2.2.2.2.2.1 x.2.2.2.2.2.2.1 x.2.2.2.2.2.2.2.1 x.2.2.2.2.2.2.2.2.1 x.2.2.2.2.2.2.2.2.2.1 x.2.2.2.2.2.2.2.2.2.2.1 x.2.2.2.2.2.2.2.2.2.2.2.1 x.2.2.2.2.2.2.2.2.2.2.2.2.1 x.2.2.2.2.2.2.2.2.2.2.2.2.2
def pe{α0 α1 α2 α3 α4 α5 α6 α7 α8 α9 α10 α11 α12 α13 α14 β:Type}(f:α0->α1->α2->α3->α4->α5->α6->α7->α8->α9->α10->α11->α12->α13->α14->β)(x:α0×α1×α2×α3×α4×α5×α6×α7×α8×α9×α10×α11×α12×α13×α14):β:=f x.1 x.2.1 x.2.2.1 x.2.2.2.1 x.2.2.2.2.1 x.2.2.2.2.2.1 x.2.2.2.2.2.2.1 x.2.2.2.2.2.2.2.1 x.2.2.2.2.2.2.2.2.1 x.2.2.2.2.2.2.2.2.2.1 x.2.2.2.2.2.2.2.2.2.2.1 x.2.2.2.2.2.2.2.2.2.2.2.1 x.2.2.2.2.2.2.2.2.2.2.2.2.1 x.2.2.2.2.2.2.2.2.2.2.2.2.2.1 x.2.2.2.2.2.2.2.2.2.2.2.2.2.2
abbrev Qb:L:=(.sl 3 (.one I))
abbrev Vs:L:=(.sl 104 k9)
abbrev X1:L:=(.sl 43 ni)
abbrev ew:L:=(.sl 5 (.one (.int .u8)))
abbrev XK:L:=(.sl 90 k7)
abbrev ZM:L:=(.sl 88 k6)
abbrev uL:L:=(.sl 24 (.one (.sl 3 (.one I))))
abbrev iH:L:=(.sl 96 k4)
abbrev jv:L:=(.sl 46 k1)
abbrev mh:L:=(.sl 112 k4)
abbrev aS:List L:=[I,I,Qb,Vs,I,X1,XK,ZM,Qb,Qb,I]
abbrev Uu:List L:=[I,I,Qb]
abbrev lN:List L:=[(.sl 24 (.one Qb))]
abbrev lO:List L:=[I,I,jv,iH,I]
abbrev lP:List L:=[I,I,I,.bool,I]
abbrev bH:List (L×Nat):=[(ew,0),(I,0),(I,0)]
abbrev pY:List (L×Nat):=[(I,0),(I,0),(Qb,2),(Vs,2),(I,0),(X1,2),(XK,2),(ZM,0),(Qb,2),(Qb,2),(I,0)]
abbrev pZ:List (L×Nat):=[(I,0),(I,0),(Qb,0),(XK,0),((.sl 24 (.one Qb)),2),(Qb,2)]
abbrev jx:List (L×Nat):=[(I,0),(I,0),(Qb,2),(Vs,2),(I,0),(X1,2),(XK,2),(ZM,2),(Qb,2),(Qb,2),(I,0)]
abbrev Q2:List (L×Nat):=[(.bool,0)]
abbrev S6:List (L×Nat):=[(I,0)]
abbrev pc:List (L×Nat):=[(I,0),(I,0),(Qb,0),(Vs,0),(I,0),(X1,0),(XK,0),(ZM,0),(Qb,0),(Qb,0),(I,0)]
abbrev mI:List (L×Nat):=[(I,0),(I,0),(jv,2),(iH,2),(I,0)]
abbrev Yc:List (L×Nat):=[(Qb,2)]
abbrev aT:List (L×Nat):=[(Vs,2)]
abbrev lQ:List (L×Nat):=[(I,0),(X1,2)]
def s6(n:Nat):Ln:=⟨⟨[.val false [ew]],[(false,Q2)]⟩,N.cE⟩
theorem tH(n:Nat):FO 6 (s6 n):=mk WQ n Tryz.func6 rfl nl
def tN(n:Nat):Ln:=⟨⟨[.val false [ew]],[(false,bH)]⟩,N.X0 n⟩
theorem qF(n:Nat):FO 32 (tN n):=mk (Wq [(0,[.slot 3 I,.slot 4 I],false)]) n Tryz.func32 rfl nl
def tP(n:Nat):Ln:=⟨⟨[.val false [ew],.val false [I]],[(false,S6)]⟩,u2 N.XA⟩
theorem qH(n:Nat):FO 34 (tP n):=mk WQ n Tryz.func34 rfl nl
def rE(n:Nat):Ln:=⟨⟨[.box bH],[(false,S6)]⟩,u3 N.Sz⟩
theorem oI(n:Nat):FO 169 (rE n):=mk (X3 [] [] [(12,[.slot 3 I,.box 0 [some (ew,0),some (I,0),some (I,0)]],false)] []) n Tryz.func169 rfl nl
def pR(n:Nat):Ln:=⟨⟨[.box bH,.val false [I]],[(false,S6)]⟩,u4 N.Px⟩
theorem dy(n:Nat):FO 103 (pR n):=mk WQ n Tryz.func103 rfl (cn (oI n) nl)
def nH(n:Nat):Ln:=⟨⟨[.box bH,.val false [(.sl 9 (.one .str))]],[(false,[(.str,0)])]⟩,u4 N.Wn⟩
theorem mX(n:Nat):FO 129 (nH n):=mk WQ n Tryz.func129 rfl (cn (dy n) nl)
def rY(n:Nat):Ln:=⟨⟨[.val false [.str],.val false [(.int .u8)]],[(false,[((.sl 9 (.one .str)),2)])]⟩,u2 (N.WK n)⟩
theorem oY(n:Nat):FO 189 (rY n):=mk (X3 [] [(0,[.own 5 9 (.one .str) 2 false,.slot 6 I,.slot 7 I],false)] [(7,[.own 5 9 (.one .str) 2 false,.slot 6 I],false)] []) n Tryz.func189 rfl nl
def tW(n:Nat):Ln:=⟨⟨[.val false [I],.val false [I],.val false [I]],[(false,Q2)]⟩,u3 N.Pd⟩
theorem YT(n:Nat):FO 41 (tW n):=mk WQ n Tryz.func41 rfl nl
def rZ(n:Nat):Ln:=⟨⟨[.val false [(.int .u8)]],[(false,S6)]⟩,N.W9 n⟩
theorem oZ(n:Nat):FO 190 (rZ n):=mk (Wq [(0,[.slot 3 I],true)]) n Tryz.func190 rfl nl
def nG(n:Nat):Ln:=⟨⟨[.val false [.str]],[(true,[(I,0),(I,0),(Qb,2)]),(false,S6)]⟩,N.Qa n⟩
theorem mW(n:Nat):FO 128 (nG n):=mk (Wq [(0,[.slot 6 I,.box 2 [some (I,0),some (I,0),some (Qb,2)],.box 5 [some (I,0),some (I,0),some (Qb,2)]],true),(2,[.slot 8 I,.box 2 [some (I,0),some (I,0),some (Qb,2)],.box 5 [some (I,0),some (I,0),some (Qb,2)]],true)]) n Tryz.func128 rfl (cn (YT n) (cn (oY n) (cn (oZ n) nl)))
def nJ(n:Nat):Ln:=⟨⟨[.box bH,.val false [I]],[(false,Q2)]⟩,u4 N.S1⟩
theorem iS(n:Nat):FO 130 (nJ n):=mk WQ n Tryz.func130 rfl (cn (dy n) nl)
def pT(n:Nat):Ln:=⟨⟨[.box bH,.val false [Qb]],[(false,S6)]⟩,u4 N.VD⟩
theorem kf(n:Nat):FO 132 (pT n):=mk WQ n Tryz.func132 rfl (cn (dy n) nl)
def lG(n:Nat):Ln:=⟨⟨[.box bH],[(true,[(I,0),(I,0),(Qb,2)])]⟩,u3 (N.Um n)⟩
def mQ:An:=Wq [(0,[.slot 6 I,.box 0 [some (ew,0),some (I,0),some (I,0)],.box 5 [some (I,0),some (I,0),some (Qb,2)]],false)]
theorem nc(n:Nat)(x:(lG n).s.ins.D):L1 (find tbl) (plain [(103,pR n),(128,nG n),(129,nH n),(130,nJ n),(132,pT n)]) mQ n Tryz.f131 (lG n).s x=N.Um n x.1 x.2.1 x.2.2:=by kernel_rfl
theorem oE(n:Nat):FO 131 (lG n):=mk (an:=mQ) (n:=n) (sm:=(lG n).s) Tryz.func131 rfl (cn (dy n) (cn (mW n) (cn (mX n) (cn (iS n) (cn (kf n) nl))))) (nc n)
def tQ(n:Nat):Ln:=⟨⟨[.val true Uu],[(false,Q2)]⟩,u3 (N.Qj n)⟩
theorem jZ(n:Nat):FO 35 (tQ n):=mk (Wq [(0,[.slot 3 I],true)]) n Tryz.func35 rfl (cn (YT n) nl)
def uC(n:Nat):Ln:=⟨⟨[.val true Uu,.val false [I]],[(false,Yc)]⟩,u4 (N.SB n)⟩
theorem nC(n:Nat):FO 68 (uC n):=mk (X3 [] [(0,[.own 5 3 (.one I) 2 false,.slot 6 I],false)] [(7,[.own 5 3 (.one I) 2 false],false)] []) n Tryz.func68 rfl (cn (jZ n) nl)
def sq(n:Nat):Ln:=⟨⟨[.box bH,.val true Uu],[(true,aT)]⟩,u6 (N.WI n)⟩
theorem qR(n:Nat):FO 53 (sq n):=mk (X3 [] [(0,[.slot 7 I,.box 0 [some (ew,0),some (I,0),some (I,0)],.box 5 [some (Vs,2)]],false),(2,[.slot 9 I,.box 0 [some (ew,0),some (I,0),some (I,0)],.box 8 [some (I,0),some (I,0),some (mh,2)]],false)] [(13,[.box 0 [some (ew,0),some (I,0),some (I,0)],.box 8 [some (I,0),some (I,0),some (mh,2)]],false)] []) n Tryz.func53 rfl (cn (nC n) (cn (kf n) nl))
def qb(n:Nat):Ln:=⟨⟨[.val false [mh]],[(false,Q2)]⟩,N.Va n⟩
theorem nu(n:Nat):FO 110 (qb n):=mk (Wq [(0,[.slot 3 I],true)]) n Tryz.func110 rfl (cn (YT n) nl)
def tR(n:Nat):Ln:=⟨⟨[.val true [Vs]],[(false,Q2)]⟩,N.QW n⟩
theorem fq(n:Nat):FO 36 (tR n):=mk (Wq [(0,[.slot 3 I],true),(2,[.slot 5 I],true)]) n Tryz.func36 rfl (cn (YT n) (cn (nu n) nl))
def tz(n:Nat):Ln:=⟨⟨[.val true Uu],[(true,[(I,0),(I,0),(Qb,2)])]⟩,u3 N.Vg⟩
theorem pO(n:Nat):FO 65 (tz n):=mk WQ n Tryz.func65 rfl nl
def uA(n:Nat):Ln:=⟨⟨[.val true [Vs]],[(true,aT)]⟩,N.Py n⟩
theorem dK(n:Nat):FO 66 (uA n):=mk (Wq [(0,[.slot 4 I,.box 3 [some (Vs,2)]],false)]) n Tryz.func66 rfl nl
def rB(n:Nat):Ln:=⟨⟨[.val true [I,I,mh],.val false [I]],[(true,[(I,0),(I,0),(I,0)])]⟩,u4 (N.RT n)⟩
theorem kg(n:Nat):FO 142 (rB n):=mk (Wq [(0,[.slot 5 I,.box 4 [some (I,0),some (I,0),some (I,0)]],true)]) n Tryz.func142 rfl nl
def uB(n:Nat):Ln:=⟨⟨[.val true [Vs],.val false [I]],[(false,S6)]⟩,u2 (N.Xw n)⟩
theorem qU(n:Nat):FO 67 (uB n):=mk (Wq [(0,[.slot 5 I,.slot 6 I],false)]) n Tryz.func67 rfl (cn (fq n) (cn (kg n) nl))
def sn(n:Nat):Ln:=⟨⟨[.val true Uu,.val true [Vs]],[(true,jx),(false,Q2)]⟩,u4 (N.VN n)⟩
theorem qE(n:Nat):FO 15 (sn n):=mk (Wq [(0,[.slot 7 I,.box 4 [some (I,0),some (I,0),some (Qb,2),some (Vs,2),some (I,0),some (X1,2),some (XK,2),some (ZM,2),some (Qb,2),some (Qb,2),some (I,0)]],true),(2,[.slot 8 I,.box 4 [some (I,0),some (I,0),some (Qb,2),some (Vs,2),some (I,0),some (X1,2),some (XK,2),some (ZM,2),some (Qb,2),some (Qb,2),some (I,0)]],true),(4,[.slot 9 I,.box 6 [some (I,0),some (I,0),some (Qb,2),some (Vs,2),some (I,0),some (X1,2),some (XK,2),some (ZM,2),some (Qb,2),some (Qb,2),some (I,0)]],false),(6,[.slot 11 I,.box 6 [some (I,0),some (I,0),some (Qb,2),some (Vs,2),some (I,0),some (X1,2),some (XK,2),some (ZM,2),some (Qb,2),some (Qb,2),some (I,0)]],false)]) n Tryz.func15 rfl (cn (jZ n) (cn (fq n) (cn (YT n) (cn (pO n) (cn (dK n) (cn (qU n) (cn (nC n) nl)))))))
def pr(n:Nat):Ln:=⟨⟨[.box bH],[(true,jx)]⟩,u3 (N.Tn n)⟩
def nY:An:=X3 [] [] [(9,[.box 0 [some (ew,0),some (I,0),some (I,0)],.box 3 [some (I,0),some (I,0),some (Qb,2)]],false)] [(4,[3])]
theorem qA(n:Nat)(x:(pr n).s.ins.D):L1 (find tbl) (plain [(15,sn n),(53,sq n),(128,nG n),(129,nH n),(130,nJ n),(131,lG n)]) nY n Tryz.f52 (pr n).s x=N.Tn n x.1 x.2.1 x.2.2:=by kernel_rfl
theorem qQ(n:Nat):FO 52 (pr n):=mk (an:=nY) (n:=n) (sm:=(pr n).s) Tryz.func52 rfl (cn (qE n) (cn (qR n) (cn (mW n) (cn (mX n) (cn (iS n) (cn (oE n) nl)))))) (qA n)
def qW(n:Nat):Ln:=⟨⟨[.box bH,.val true Uu],[(false,S6)]⟩,u6 (N.WE n)⟩
theorem np(n:Nat):FO 105 (qW n):=mk (X3 [(2,[.slot 14 .bool,.box 0 [some (ew,0),some (I,0),some (I,0)]])] [] [] []) n Tryz.func105 rfl (cn (nC n) (cn (dy n) (cn (iS n) nl)))
def qX(n:Nat):Ln:=⟨⟨[.box bH],[(false,[(jv,2)])]⟩,u3 (N.W8 n)⟩
theorem nq(n:Nat):FO 106 (qX n):=mk (X3 [] [(0,[.own 3 46 k1 2 false,.slot 4 I,.box 0 [some (ew,0),some (I,0),some (I,0)]],false)] [(7,[.own 3 46 k1 2 false,.box 0 [some (ew,0),some (I,0),some (I,0)]],false)] []) n Tryz.func106 rfl (cn (iS n) (cn (kf n) nl))
def rf(n:Nat):Ln:=⟨⟨[.val true lO],[(true,mI)]⟩,u5 N.QC⟩
theorem ko(n:Nat):FO 217 (rf n):=mk WQ n Tryz.func217 rfl nl
def ra(n:Nat):Ln:=⟨⟨[.val true [I,X1]],[(true,lQ)]⟩,u2 (N.RQ n)⟩
theorem fp(n:Nat):FO 207 (ra n):=mk (Wq [(0,[.slot 4 I,.box 3 [some (I,0),some (X1,2)]],false)]) n Tryz.func207 rfl (cn (ko n) nl)
def rD(n:Nat):Ln:=⟨⟨[.val true aS],[(true,jx)]⟩,nV (N.TL n)⟩
theorem kh(n:Nat):FO 158 (rD n):=mk WQ n Tryz.func158 rfl (cn (pO n) (cn (dK n) (cn (fp n) nl)))
def rQ(n:Nat):Ln:=⟨⟨[.val false [jv]],[(false,Q2)]⟩,N.Qw n⟩
theorem mY(n:Nat):FO 180 (rQ n):=mk (Wq [(0,[.slot 3 I],true)]) n Tryz.func180 rfl (cn (YT n) nl)
def rR(n:Nat):Ln:=⟨⟨[.val false [iH],.val false [I]],[(false,S6)]⟩,u2 (N.W7 n)⟩
theorem oT(n:Nat):FO 181 (rR n):=mk (X3 [] [(0,[.slot 5 I,.slot 6 I],false)] [(7,[.slot 5 I],false)] []) n Tryz.func181 rfl nl
def qc(n:Nat):Ln:=⟨⟨[.val true lO],[(false,Q2)]⟩,u5 (N.VX n)⟩
theorem nv(n:Nat):FO 111 (qc n):=mk (Wq [(0,[.slot 3 I,.slot 4 I],false),(2,[.slot 3 I,.slot 5 I],true),(4,[.slot 7 I],true)]) n Tryz.func111 rfl (cn (YT n) (cn (mY n) (cn (oT n) nl)))
def tS(n:Nat):Ln:=⟨⟨[.val true [I,X1]],[(false,Q2)]⟩,u2 (N.Qo n)⟩
theorem kq(n:Nat):FO 37 (tS n):=mk (Wq [(0,[.slot 3 I],true)]) n Tryz.func37 rfl (cn (YT n) (cn (nv n) nl))
def qe(n:Nat):Ln:=⟨⟨[.val true Uu,.val false [I]],[(false,Q2)]⟩,u4 N.Vi⟩
theorem ny(n:Nat):FO 112 (qe n):=mk WQ n Tryz.func112 rfl (cn (YT n) nl)
def tT(n:Nat):Ln:=⟨⟨[.val true Uu,.val false [XK]],[(false,Q2)]⟩,u4 (N.UL n)⟩
theorem mz(n:Nat):FO 38 (tT n):=mk (Wq [(0,[.slot 5 I],true),(2,[.slot 7 I],true)]) n Tryz.func38 rfl (cn (jZ n) (cn (YT n) (cn (ny n) nl)))
def tU(n:Nat):Ln:=⟨⟨[.val false [ZM]],[(false,Q2)]⟩,N.Uk n⟩
theorem pM(n:Nat):FO 39 (tU n):=mk (Wq [(0,[.slot 3 I],true),(2,[.slot 6 I],true)]) n Tryz.func39 rfl (cn (YT n) nl)
def tV(n:Nat):Ln:=⟨⟨[.val false [Qb]],[(false,Q2)]⟩,N.Sy n⟩
theorem qI(n:Nat):FO 40 (tV n):=mk (Wq [(0,[.slot 3 I],true)]) n Tryz.func40 rfl (cn (YT n) nl)
def qg(n:Nat):Ln:=⟨⟨[.val true [I,X1],.val false [I]],[(false,S6)]⟩,u3 (N.Qx n)⟩
theorem dz(n:Nat):FO 113 (qg n):=mk (Wq [(0,[.slot 5 I],true)]) n Tryz.func113 rfl nl
def qh(n:Nat):Ln:=⟨⟨[.val true [Vs],.val false [I]],[(false,S6)]⟩,u2 (N.Qf n)⟩
theorem fm(n:Nat):FO 114 (qh n):=mk (Wq [(0,[.slot 5 I],true)]) n Tryz.func114 rfl nl
def pS(n:Nat):Ln:=⟨⟨[.val false [Qb],.val false [I]],[(false,Q2)]⟩,u2 (N.Qk n)⟩
theorem iR(n:Nat):FO 115 (pS n):=mk (Wq [(0,[.slot 5 I],true)]) n Tryz.func115 rfl nl
def qi(n:Nat):Ln:=⟨⟨[.val false [iH]],[(false,Yc)]⟩,N.UM n⟩
theorem kX(n:Nat):FO 116 (qi n):=mk (X3 [] [(0,[.own 3 3 (.one I) 2 false,.slot 4 I],false)] [(7,[.own 3 3 (.one I) 2 false],false)] []) n Tryz.func116 rfl (cn (iR n) nl)
def qj(n:Nat):Ln:=⟨⟨[.val false [XK],.val false [I]],[(false,S6)]⟩,u2 (N.Sc n)⟩
theorem kY(n:Nat):FO 117 (qj n):=mk (Wq [(0,[.slot 5 I],true)]) n Tryz.func117 rfl nl
def qk(n:Nat):Ln:=⟨⟨[.val true aS,.val true [I,I,I,I]],[(false,S6)]⟩,pe (N.RR n)⟩
theorem mV(n:Nat):FO 118 (qk n):=mk WQ n Tryz.func118 rfl (cn (dz n) (cn (fm n) nl))
def tX(n:Nat):Ln:=⟨⟨[.val true aS,.val true [I,I,I,I]],[(false,Q2)]⟩,pe (N.TM n)⟩
theorem qJ(n:Nat):FO 42 (tX n):=mk WQ n Tryz.func42 rfl (cn (dz n) (cn (fm n) (cn (iR n) (cn (kX n) (cn (kY n) (cn (mV n) nl))))))
def s8(n:Nat):Ln:=⟨⟨[.val true aS],[(false,Q2)]⟩,nV (N.Qv n)⟩
theorem pP(n:Nat):FO 8 (s8 n):=mk (Wq [(0,[.slot 3 I],true)]) n Tryz.func8 rfl (cn (jZ n) (cn (fq n) (cn (kq n) (cn (mz n) (cn (pM n) (cn (qI n) (cn (YT n) (cn (qJ n) nl))))))))
def re(n:Nat):Ln:=⟨⟨[.val true Uu,.val false [I]],[(false,Q2)]⟩,u4 (N.S0 n)⟩
theorem km(n:Nat):FO 216 (re n):=mk WQ n Tryz.func216 rfl (cn (jZ n) (cn (YT n) nl))
def rF(n:Nat):Ln:=⟨⟨[.val true Uu,.val false [I]],[(false,S6)]⟩,u4 (N.W5 n)⟩
theorem oJ(n:Nat):FO 170 (rF n):=mk WQ n Tryz.func170 rfl (cn (km n) nl)
def rG(n:Nat):Ln:=⟨⟨[.val true [I,X1]],[(true,lQ)]⟩,u2 (N.Wk n)⟩
theorem oK(n:Nat):FO 171 (rG n):=mk (X3 [] [(0,[.slot 4 I,.box 3 [some (I,0),some (X1,2)]],false)] [(7,[.box 3 [some (I,0),some (X1,2)]],false)] []) n Tryz.func171 rfl (cn (kq n) (cn (fp n) (cn (ko n) nl)))
def sC(n:Nat):Ln:=⟨⟨[.val true [I,I,mh],.val false [jv]],[(false,[(iH,2)]),(false,S6)]⟩,u4 (N.Ur n)⟩
theorem oy(n:Nat):FO 252 (sC n):=mk (X3 [] [(0,[.own 6 96 k4 2 false,.slot 7 I,.slot 8 I],false)] [(7,[.own 6 96 k4 2 false,.slot 7 I],false),(27,[.slot 10 I],false)] []) n Tryz.func252 rfl (cn (kg n) nl)
def rh(n:Nat):Ln:=⟨⟨[.val true [Vs],.val false [jv]],[(false,[(iH,2)]),(false,Q2)]⟩,u2 (N.Sw n)⟩
theorem oa(n:Nat):FO 218 (rh n):=mk (X3 [] [(0,[.own 4 96 k4 2 false,.slot 5 .bool,.own 9 96 k4 2 false,.own 6 96 k4 2 false,.own 7 46 k1 2 false,.own 8 4 (.one .bool) 2 false],true),(2,[.slot 10 I,.slot 11 I],false),(4,[.slot 12 I,.slot 13 I,.slot 14 I],false),(6,[.slot 19 I,.own 7 46 k1 2 false],false),(8,[.slot 20 I,.own 7 46 k1 2 false],false)] [(19,[.slot 12 I,.slot 13 I],false),(31,[.own 7 46 k1 2 false],false)] []) n Tryz.func218 rfl (cn (fq n) (cn (mY n) (cn (oy n) nl)))
def rr(n:Nat):Ln:=⟨⟨[.val true [Vs],.val false [I],.val false [I],.val false [I]],[(false,S6),(true,[(I,0),(I,0),(I,0)]),(false,S6)]⟩,u4 (N.S3 n)⟩
theorem iT(n:Nat):FO 221 (rr n):=mk WQ n Tryz.func221 rfl (cn (fq n) (cn (YT n) (cn (fm n) (cn (kg n) nl))))
def sE(n:Nat):Ln:=⟨⟨[.val false [mh],.val true [I,I,I]],[(false,[(mh,2)])]⟩,u4 (N.UN n)⟩
theorem oz(n:Nat):FO 254 (sE n):=mk (X3 [] [(0,[.own 5 112 k4 2 false,.slot 6 .bool,.slot 7 I],false)] [(7,[.own 5 112 k4 2 false,.slot 6 .bool],false),(21,[.own 5 112 k4 2 false,.slot 6 .bool],false),(36,[.own 5 112 k4 2 false],false)] []) n Tryz.func254 rfl nl
def ru(n:Nat):Ln:=⟨⟨[.val true [Vs],.val false [I],.val true [I,I,I]],[(true,aT)]⟩,u5 (N.SD n)⟩
theorem iU(n:Nat):FO 222 (ru n):=mk WQ n Tryz.func222 rfl (cn (dK n) (cn (oz n) nl))
def sK(n:Nat):Ln:=⟨⟨[.val true [Vs],.val false [I],.val false [I],.val false [I]],[(true,aT),(false,S6)]⟩,u4 (N.Ym n)⟩
theorem o8(n:Nat):FO 284 (sK n):=mk WQ n Tryz.func284 rfl (cn (dK n) (cn (iT n) (cn (iU n) nl)))
def sL(n:Nat):Ln:=⟨⟨[.val true [Vs],.val false [I],.val false [I],.val false [I]],[(true,aT),(false,S6)]⟩,u4 (N.V8 n)⟩
theorem o9(n:Nat):FO 285 (sL n):=mk WQ n Tryz.func285 rfl (cn (dK n) (cn (iT n) (cn (iU n) nl)))
def sM(n:Nat):Ln:=⟨⟨[.val true [Vs],.val false [I],.val false [I],.val false [I]],[(true,aT),(false,S6)]⟩,u4 (N.WA n)⟩
theorem pB(n:Nat):FO 286 (sM n):=mk WQ n Tryz.func286 rfl (cn (dK n) (cn (iT n) (cn (iU n) nl)))
def sD(n:Nat):Ln:=⟨⟨[.val true [Vs],.val false [iH],.val false [I]],[(true,aT),(false,Q2)]⟩,u3 (N.R6 n)⟩
theorem kp(n:Nat):FO 253 (sD n):=mk (X3 [] [(0,[.slot 9 I,.box 6 [some (Vs,2)],.box 8 [some (Vs,2)]],true)] [(24,[.slot 11 I,.box 8 [some (Vs,2)]],false)] []) n Tryz.func253 rfl (cn (dK n) (cn (o8 n) (cn (o9 n) (cn (pB n) nl))))
def ri(n:Nat):Ln:=⟨⟨[.val true [Vs],.val false [iH]],[(true,aT),(false,Q2)]⟩,u2 (N.V5 n)⟩
theorem oc(n:Nat):FO 219 (ri n):=mk WQ n Tryz.func219 rfl (cn (kp n) nl)
def rH(n:Nat):Ln:=⟨⟨[.val true [Vs],.val true [I,X1],.val false [I],.val false [jv]],[(true,aT),(true,lQ),(false,S6)]⟩,u5 (N.Sv n)⟩
theorem oL(n:Nat):FO 172 (rH n):=mk WQ n Tryz.func172 rfl (cn (fq n) (cn (kq n) (cn (YT n) (cn (dK n) (cn (fp n) (cn (oa n) (cn (oc n) nl)))))))
def rI(n:Nat):Ln:=⟨⟨[.val true lO],[(false,[(ZM,2)])]⟩,u5 (N.WB n)⟩
theorem oM(n:Nat):FO 173 (rI n):=mk (Wq [(0,[.own 3 88 k6 2 false,.slot 5 I],false)]) n Tryz.func173 rfl (cn (kX n) nl)
def qV(n:Nat):Ln:=⟨⟨[.val true aS,.val false [I],.val false [jv]],[(true,jx),(false,S6)]⟩,uE (N.Yn n)⟩
theorem nk(n:Nat):FO 104 (qV n):=mk (X3 [] [] [(18,[.box 9 [some (I,0),some (X1,0)]],false)] []) n Tryz.func104 rfl (cn (pP n) (cn (kh n) (cn (oJ n) (cn (oK n) (cn (oL n) (cn (oM n) nl))))))
def rj(n:Nat):Ln:=⟨⟨[.val true [Vs],.val false [iH]],[(true,aT),(false,Q2)]⟩,u2 (N.T4 n)⟩
theorem od(n:Nat):FO 220 (rj n):=mk WQ n Tryz.func220 rfl (cn (kp n) nl)
def rJ(n:Nat):Ln:=⟨⟨[.val true [Vs],.val true [I,X1],.val false [I]],[(true,aT),(true,lQ),(false,Q2)]⟩,u4 (N.VW n)⟩
theorem oN(n:Nat):FO 174 (rJ n):=mk WQ n Tryz.func174 rfl (cn (fq n) (cn (kq n) (cn (dK n) (cn (dz n) (cn (fp n) (cn (od n) nl))))))
def qY(n:Nat):Ln:=⟨⟨[.val true aS,.val false [I]],[(true,jx),(false,Q2)]⟩,su (N.Yl n)⟩
theorem nr(n:Nat):FO 107 (qY n):=mk (X3 [] [(0,[.slot 8 I,.own 9 88 k6 2 false,.slot 10 I,.box 4 [some (I,0),some (I,0),some (Qb,2),some (Vs,2),some (I,0),some (X1,2),some (XK,2),some (ZM,2),some (Qb,2),some (Qb,2),some (I,0)],.box 6 [some (I,0),some (I,0),some (Qb,2),some (Vs,2),some (I,0),some (X1,2),some (XK,2),some (ZM,2),some (Qb,2),some (Qb,2),some (I,0)]],true)] [(7,[.slot 8 I,.own 9 88 k6 2 false,.box 4 [some (I,0),some (I,0),some (Qb,2),some (Vs,2),some (I,0),some (X1,2),some (XK,2),some (ZM,2),some (Qb,2),some (Qb,2),some (I,0)],.box 6 [some (I,0),some (I,0),some (Qb,2),some (Vs,2),some (I,0),some (X1,2),some (XK,2),some (ZM,2),some (Qb,2),some (Qb,2),some (I,0)]],true)] []) n Tryz.func107 rfl (cn (pP n) (cn (dz n) (cn (kX n) (cn (kh n) (cn (oN n) nl)))))
def rK(n:Nat):Ln:=⟨⟨[.val true [Vs],.val false [I],.val false [I],.val false [I]],[(true,aT),(false,S6)]⟩,u4 (N.Xy n)⟩
theorem oO(n:Nat):FO 175 (rK n):=mk WQ n Tryz.func175 rfl (cn (dK n) (cn (iT n) (cn (iU n) nl)))
def qZ(n:Nat):Ln:=⟨⟨[.val true aS,.val false [I],.val false [I],.val false [I]],[(true,jx),(false,S6)]⟩,uF (N.V9 n)⟩
theorem ns(n:Nat):FO 108 (qZ n):=mk WQ n Tryz.func108 rfl (cn (pP n) (cn (kh n) (cn (oO n) nl)))
def ry(n:Nat):Ln:=⟨⟨[.val false [XK],.val false [ZM]],[(false,Yc)]⟩,u2 (N.WD n)⟩
theorem oe(n:Nat):FO 223 (ry n):=mk (X3 [] [(0,[.own 5 3 (.one I) 2 false,.slot 6 I],false),(2,[.slot 7 .bool,.slot 8 I],false)] [(7,[.own 5 3 (.one I) 2 false],false)] []) n Tryz.func223 rfl nl
def rz(n:Nat):Ln:=⟨⟨[.val true [Vs],.val false [ZM],.val false [I]],[(false,Yc)]⟩,u3 (N.VY n)⟩
theorem og(n:Nat):FO 224 (rz n):=mk (X3 [] [(0,[.own 8 3 (.one I) 2 false,.slot 9 I],false),(2,[.own 7 3 (.one I) 2 false,.own 8 3 (.one I) 2 false,.slot 10 I],false)] [(7,[.own 8 3 (.one I) 2 false],false),(13,[.own 7 3 (.one I) 2 false,.own 8 3 (.one I) 2 false],false)] []) n Tryz.func224 rfl (cn (fm n) (cn (iR n) nl))
def sU(n:Nat):Ln:=⟨⟨[.val true Uu,.val false [I]],[(false,Yc)]⟩,u4 N.To⟩
theorem pK(n:Nat):FO 333 (sU n):=mk (X3 [] [] [(15,[.own 5 3 (.one I) 2 false],false),(21,[.own 5 3 (.one I) 2 false],false),(27,[.own 5 3 (.one I) 2 false],false),(33,[.own 5 3 (.one I) 2 false],false)] []) n Tryz.func333 rfl nl
def sS(n:Nat):Ln:=⟨⟨[.val true Uu,.val false [I],.val false [.bool]],[(false,Yc)]⟩,u5 (N.Vh n)⟩
theorem mc(n:Nat):FO 322 (sS n):=mk (X3 [] [(0,[.own 7 3 (.one I) 2 false,.slot 9 I],false)] [(7,[.own 7 3 (.one I) 2 false],false)] []) n Tryz.func322 rfl (cn (pK n) nl)
def sR(n:Nat):Ln:=⟨⟨[.val true Uu,.val false [I],.val false [.bool]],[(false,Yc)]⟩,u5 (N.TN n)⟩
theorem mb(n:Nat):FO 309 (sR n):=mk (X3 [] [(0,[.own 7 3 (.one I) 2 false,.slot 8 I],false),(2,[.own 9 3 (.one I) 2 false,.slot 10 I,.own 7 3 (.one I) 2 false],false),(4,[.own 9 3 (.one I) 2 false,.slot 13 I,.own 7 3 (.one I) 2 false],false)] [(13,[.own 9 3 (.one I) 2 false,.own 7 3 (.one I) 2 false],false),(19,[.own 9 3 (.one I) 2 false,.own 7 3 (.one I) 2 false],false)] []) n Tryz.func309 rfl (cn (mc n) nl)
def sN(n:Nat):Ln:=⟨⟨[.val true Uu,.val false [I],.val false [.bool]],[(false,Yc)]⟩,u5 (N.Wh n)⟩
theorem pC(n:Nat):FO 287 (sN n):=mk WQ n Tryz.func287 rfl (cn (km n) (cn (mb n) nl))
def sF(n:Nat):Ln:=⟨⟨[.val true Uu,.val false [I],.val false [I]],[(false,S6)]⟩,u5 (N.Sx n)⟩
theorem o3(n:Nat):FO 255 (sF n):=mk WQ n Tryz.func255 rfl (cn (km n) (cn (pC n) nl))
def r6(n:Nat):Ln:=⟨⟨[.val true Uu,.val false [I],.val false [I]],[(false,S6)]⟩,u5 (N.WC n)⟩
theorem oh(n:Nat):FO 225 (r6 n):=mk WQ n Tryz.func225 rfl (cn (o3 n) nl)
def sG(n:Nat):Ln:=⟨⟨[.val false lN],[(false,Q2)]⟩,N.V4 n⟩
theorem o4(n:Nat):FO 256 (sG n):=mk (Wq [(0,[.slot 3 I],true),(2,[.slot 4 I],true)]) n Tryz.func256 rfl (cn (YT n) nl)
def sO(n:Nat):Ln:=⟨⟨[.val false lN,.row false Yc,.row false Yc,.row false Yc,.val false [I]],[]⟩,u5 (N.XB n)⟩
theorem pD(n:Nat):FO 288 (sO n):=mk (X3 [] [(0,[.slot 14 I,.own 11 3 (.one I) 2 false],false),(2,[.slot 15 I,.own 1 3 (.one I) 2 true,.own 2 3 (.one I) 2 true,.own 11 3 (.one I) 2 false,.own 12 3 (.one I) 2 false,.own 13 4 (.one .bool) 2 false],false),(4,[.slot 17 I,.slot 18 I,.slot 19 I,.own 11 3 (.one I) 2 false,.own 12 3 (.one I) 2 false],false),(6,[.slot 21 I,.own 1 3 (.one I) 2 true,.own 2 3 (.one I) 2 true,.own 11 3 (.one I) 2 false],false),(8,[.slot 15 I,.own 3 3 (.one I) 2 true],false)] [(19,[.slot 17 I,.slot 18 I,.own 11 3 (.one I) 2 false,.own 12 3 (.one I) 2 false],false),(25,[.own 1 3 (.one I) 2 true,.own 2 3 (.one I) 2 true,.own 11 3 (.one I) 2 false],false),(57,[.own 11 3 (.one I) 2 false,.own 12 3 (.one I) 2 false],false)] []) n Tryz.func288 rfl nl
def sH(n:Nat):Ln:=⟨⟨[.val false lN],[(false,S6)]⟩,N.SC n⟩
theorem o5(n:Nat):FO 257 (sH n):=mk (X3 [] [(0,[.slot 8 I,.own 5 3 (.one I) 2 false,.own 6 3 (.one I) 2 false,.own 7 3 (.one I) 2 false],false),(2,[.slot 9 I,.slot 10 I],false)] [(13,[.slot 9 I],false)] []) n Tryz.func257 rfl (cn (pD n) nl)
def sI(n:Nat):Ln:=⟨⟨[.val false lN,.val false [I]],[(false,[((.sl 24 (.one Qb)),0)])]⟩,u2 (N.R1 n)⟩
theorem o6(n:Nat):FO 258 (sI n):=mk (Wq [(0,[.own 5 24 (.one Qb) 2 false,.slot 6 I],false)]) n Tryz.func258 rfl nl
def r7(n:Nat):Ln:=⟨⟨[.val false lN],[(false,Yc),(false,S6)]⟩,N.Wi n⟩
theorem oq(n:Nat):FO 226 (r7 n):=mk (Wq [(0,[.own 8 3 (.one I) 2 false,.slot 9 I],false),(2,[.own 4 3 (.one I) 2 false,.slot 6 I,.slot 7 (.sl 24 (.one Qb)),.own 8 3 (.one I) 2 false],false),(4,[.own 4 3 (.one I) 2 false,.slot 6 I,.slot 7 (.sl 24 (.one Qb)),.own 8 3 (.one I) 2 false,.slot 10 I],false)]) n Tryz.func226 rfl (cn (o4 n) (cn (o5 n) (cn (o6 n) nl)))
def rL(n:Nat):Ln:=⟨⟨[.val true Uu,.val true [Vs],.val false [XK],.val false [ZM]],[(false,[(XK,2)]),(false,[(ZM,2)])]⟩,u6 (N.VO n)⟩
theorem oP(n:Nat):FO 176 (rL n):=mk (X3 [] [(0,[.own 14 24 (.one Qb) 2 false,.slot 15 I],false),(2,[.own 16 3 (.one I) 2 false,.slot 17 I],false),(4,[.slot 20 I,.own 10 90 k7 2 false,.own 11 88 k6 2 false],false)] [(19,[.own 10 90 k7 2 false,.own 11 88 k6 2 false],false)] []) n Tryz.func176 rfl (cn (fq n) (cn (mz n) (cn (pM n) (cn (fm n) (cn (oe n) (cn (og n) (cn (oh n) (cn (oq n) nl))))))))
def sP(n:Nat):Ln:=⟨⟨[.val true Uu,.val true lP],[(false,Yc)]⟩,u8 (N.TQ n)⟩
theorem pE(n:Nat):FO 289 (sP n):=mk WQ n Tryz.func289 rfl (cn (mb n) nl)
def sQ(n:Nat):Ln:=⟨⟨[.val false [XK]],[(false,Yc)]⟩,N.Wl n⟩
theorem pF(n:Nat):FO 290 (sQ n):=mk (Wq [(0,[.own 3 3 (.one I) 2 false,.slot 4 I],false),(2,[.slot 5 I,.own 3 3 (.one I) 2 false],false)]) n Tryz.func290 rfl nl
def sV(n:Nat):Ln:=⟨⟨[.val true lP,.val false [Qb],.val false [I]],[(false,S6)]⟩,u7 N.UO⟩
theorem pL(n:Nat):FO 334 (sV n):=mk WQ n Tryz.func334 rfl nl
def sT(n:Nat):Ln:=⟨⟨[.val true lP,.val false [Qb],.val false [I],.val false [I]],[(false,Q2)]⟩,u8 N.Vb⟩
theorem pJ(n:Nat):FO 323 (sT n):=mk WQ n Tryz.func323 rfl (cn (pL n) nl)
def pU(n:Nat):Ln:=⟨⟨[.val true Uu,.val true lP,.val false [Qb]],[(false,Yc)]⟩,u9 (N.R3 n)⟩
theorem pH(n:Nat):FO 310 (pU n):=mk (X3 [] [(0,[.own 7 3 (.one I) 2 false,.slot 9 I],false),(2,[.own 10 3 (.one I) 2 false,.slot 11 I],false),(4,[.slot 12 I,.own 10 3 (.one I) 2 false],false)] [(7,[.own 7 3 (.one I) 2 false],false)] []) n Tryz.func310 rfl (cn (mc n) (cn (pJ n) nl))
def pV(n:Nat):Ln:=⟨⟨[.box pZ,.val false [I]],[(false,S6)]⟩,u7 (N.Wo n)⟩
theorem pI(n:Nat):FO 311 (pV n):=mk (Wq [(0,[.slot 5 I],true)]) n Tryz.func311 rfl nl
def jm(n:Nat):Ln:=⟨⟨[.box pZ,.val false [I],.val false [I]],[(false,Q2)]⟩,u8 (N.Ql n)⟩
def mR:An:=X3 [(10,[.slot 72 .bool,.box 0 [some (I,0),some (I,0),some (Qb,0),some (XK,0),some ((.sl 24 (.one Qb)),2),some (Qb,2)]])] [(0,[.slot 9 I,.box 0 [some (I,0),some (I,0),some (Qb,0),some (XK,0),some ((.sl 24 (.one Qb)),2),some (Qb,2)]],true)] [(7,[.box 0 [some (I,0),some (I,0),some (Qb,0),some (XK,0),some ((.sl 24 (.one Qb)),2),some (Qb,2)]],true)] []
theorem ng(n:Nat)(x:(jm n).s.ins.D):L1 (find tbl) (plain [(115,pS n),(291,jm n),(310,pU n),(311,pV n)]) mR n Tryz.f291 (jm n).s x=N.Ql (n+1) x.1 x.2.1 x.2.2.1 x.2.2.2.1 x.2.2.2.2.1 x.2.2.2.2.2.1 x.2.2.2.2.2.2.1 x.2.2.2.2.2.2.2:=by kernel_rfl
theorem pG(n:Nat):FO 291 (jm n):=by
 induction n with
 |zero=>exact⟨Oh,_,_,Tryz.func291,rfl,by kernel_rfl⟩
 |succ n ih=>exact mk (an:=mR) (n:=n) (sm:=(jm n).s) (F:=λ(x:(jm n).s.ins.D)=>N.Ql (n+1) x.1 x.2.1 x.2.2.1 x.2.2.2.1 x.2.2.2.2.1 x.2.2.2.2.2.1 x.2.2.2.2.2.2.1 x.2.2.2.2.2.2.2) Tryz.func291 rfl (cn (iR n) (cn ih (cn (pH n) (cn (pI n) nl)))) (ng n)
def sJ(n:Nat):Ln:=⟨⟨[.val true Uu,.val false [XK]],[(false,Yc)]⟩,u4 (N.XC n)⟩
theorem o7(n:Nat):FO 259 (sJ n):=mk (X3 [] [(0,[.slot 6 I,.box 12 [some (I,0),some (I,0),some (Qb,0),some (XK,0),some ((.sl 24 (.one Qb)),2),some (Qb,2)]],false),(2,[.slot 8 I,.box 12 [some (I,0),some (I,0),some (Qb,0),some (XK,0),some ((.sl 24 (.one Qb)),2),some (Qb,2)]],false)] [(13,[.box 12 [some (I,0),some (I,0),some (Qb,0),some (XK,0),some ((.sl 24 (.one Qb)),2),some (Qb,2)]],false)] []) n Tryz.func259 rfl (cn (pE n) (cn (pF n) (cn (pG n) nl)))
def r8(n:Nat):Ln:=⟨⟨[.val true Uu,.val false [XK]],[(false,[(XK,2)])]⟩,u4 (N.Us n)⟩
theorem ot(n:Nat):FO 227 (r8 n):=mk (X3 [] [(0,[.own 6 90 k7 2 false,.slot 7 I],false)] [(10,[.box 8 [some (I,0),some (I,0),some (I,0),some (.bool,0),some (I,0)]],false)] []) n Tryz.func227 rfl (cn (o7 n) nl)
def rM(n:Nat):Ln:=⟨⟨[.val true Uu,.val false [XK]],[(false,[(XK,2)])]⟩,u4 (N.V3 n)⟩
theorem oQ(n:Nat):FO 177 (rM n):=mk WQ n Tryz.func177 rfl (cn (mz n) (cn (ot n) nl))
def r9(n:Nat):Ln:=⟨⟨[.val true [I,X1],.val false [I]],[(true,mI),(false,Q2)]⟩,u3 (N.V6 n)⟩
theorem ov(n:Nat):FO 228 (r9 n):=mk WQ n Tryz.func228 rfl (cn (dz n) (cn (ko n) nl))
def sA(n:Nat):Ln:=⟨⟨[.val true lO,.val false [I]],[(false,[(iH,2)])]⟩,u6 (N.V7 n)⟩
theorem ow(n:Nat):FO 229 (sA n):=mk (X3 [] [(0,[.own 5 96 k4 2 false,.slot 6 I],false)] [(7,[.own 5 96 k4 2 false],false)] []) n Tryz.func229 rfl nl
def sB(n:Nat):Ln:=⟨⟨[.val true [Vs],.val false [iH]],[(true,aT),(false,Q2)]⟩,u2 (N.Xz n)⟩
theorem ox(n:Nat):FO 230 (sB n):=mk WQ n Tryz.func230 rfl (cn (kp n) nl)
def rO(n:Nat):Ln:=⟨⟨[.box pY,.box [(I,0),(I,0),(I,0),(I,0)]],[(false,Q2)]⟩,pe (N.WH n)⟩
theorem oR(n:Nat):FO 178 (rO n):=mk (X3 [] [(1,[.slot 11 I,.box 0 [some (I,0),some (I,0),some (Qb,2),some (Vs,2),some (I,0),some (X1,2),some (XK,2),some (ZM,0),some (Qb,2),some (Qb,2),some (I,0)]],false)] [(10,[.box 0 [some (I,0),some (I,0),some (Qb,2),some (Vs,2),some (I,0),some (X1,2),some (XK,2),some (ZM,0),some (Qb,2),some (Qb,2),some (I,0)]],false),(12,[.box 0 [some (I,0),some (I,0),some (Qb,2),some (Vs,2),some (I,0),some (X1,2),some (XK,2),some (ZM,0),some (Qb,2),some (Qb,2),some (I,0)],.box 1 [some (I,0),some (I,0),some (I,0),some (I,0)]],true)] []) n Tryz.func178 rfl (cn (kY n) (cn (mV n) (cn (ov n) (cn (ow n) (cn (ox n) nl)))))
def rP(n:Nat):Ln:=⟨⟨[.val true [I,X1],.val false [I]],[(true,lQ),(false,Q2)]⟩,u3 (N.W4 n)⟩
theorem oS(n:Nat):FO 179 (rP n):=mk WQ n Tryz.func179 rfl (cn (kq n) (cn (dz n) (cn (fp n) nl)))
def qa(n:Nat):Ln:=⟨⟨[.box pY],[]⟩,nV (N.WJ n)⟩
theorem nt(n:Nat):FO 109 (qa n):=mk (X3 [(10,[.slot 93 .bool,.box 0 [some (I,0),some (I,0),some (Qb,2),some (Vs,2),some (I,0),some (X1,2),some (XK,2),some (ZM,0),some (Qb,2),some (Qb,2),some (I,0)],.box 7 [some (I,0),some (I,0),some (I,0),some (I,0)]])] [(0,[.own 4 88 k6 2 false,.own 5 3 (.one I) 2 false,.slot 6 I,.box 0 [some (I,0),some (I,0),some (Qb,2),some (Vs,2),some (I,0),some (X1,2),some (XK,2),some (ZM,0),some (Qb,2),some (Qb,2),some (I,0)]],false),(2,[.slot 9 I,.box 0 [some (I,0),some (I,0),some (Qb,2),some (Vs,2),some (I,0),some (X1,2),some (XK,2),some (ZM,0),some (Qb,2),some (Qb,2),some (I,0)]],false),(4,[.slot 10 .bool,.slot 11 I],false)] [(7,[.own 4 88 k6 2 false,.own 5 3 (.one I) 2 false,.box 0 [some (I,0),some (I,0),some (Qb,2),some (Vs,2),some (I,0),some (X1,2),some (XK,2),some (ZM,0),some (Qb,2),some (Qb,2),some (I,0)]],false),(13,[.box 0 [some (I,0),some (I,0),some (Qb,2),some (Vs,2),some (I,0),some (X1,2),some (XK,2),some (ZM,0),some (Qb,2),some (Qb,2),some (I,0)]],false)] [(13,[4])]) n Tryz.func109 rfl (cn (kY n) (cn (oP n) (cn (oQ n) (cn (oR n) (cn (oS n) nl)))))
def tO(n:Nat):Ln:=⟨⟨[.box bH,.val false [I]],[(true,pc)]⟩,u4 (N.WG n)⟩
theorem qG(n:Nat):FO 33 (tO n):=mk (X3 [] [(0,[.slot 6 I,.box 0 [some (ew,0),some (I,0),some (I,0)],.box 5 [some (I,0),some (I,0),some (Qb,2),some (Vs,2),some (I,0),some (X1,2),some (XK,2),some (ZM,0),some (Qb,2),some (Qb,2),some (I,0)]],false),(3,[.slot 7 I,.box 5 [some (I,0),some (I,0),some (Qb,2),some (Vs,2),some (I,0),some (X1,2),some (XK,2),some (ZM,0),some (Qb,2),some (Qb,2),some (I,0)]],false)] [(7,[.box 0 [some (ew,0),some (I,0),some (I,0)],.box 5 [some (I,0),some (I,0),some (Qb,2),some (Vs,2),some (I,0),some (X1,2),some (XK,2),some (ZM,0),some (Qb,2),some (Qb,2),some (I,0)]],false),(33,[.slot 26 .bool],false)] [(12,[5])]) n Tryz.func33 rfl (cn (qQ n) (cn (dy n) (cn (nk n) (cn (np n) (cn (nq n) (cn (nr n) (cn (ns n) (cn (nt n) nl))))))))
def s7(n:Nat):Ln:=⟨⟨[.val false [ew]],[(true,pc)]⟩,N.Uh n⟩
theorem tI(n:Nat):FO 7 (s7 n):=mk WQ n Tryz.func7 rfl (cn (qF n) (cn (qG n) (cn (qH n) nl)))
def th(n:Nat):Ln:=⟨⟨[.val false [I],.val false [I],.val false [I]],[(false,Q2)]⟩,u3 N.Po⟩
theorem cJ(n:Nat):FO 48 (th n):=mk WQ n Tryz.func48 rfl nl
def tu(n:Nat):Ln:=⟨⟨[.val true Uu],[(false,Q2)]⟩,u3 (N.S8 n)⟩
theorem nB(n:Nat):FO 55 (tu n):=mk (Wq [(0,[.slot 29 I],true)]) n Tryz.func55 rfl (cn (cJ n) nl)
def qz(n:Nat):Ln:=⟨⟨[.val true [I,I,mh]],[(false,Q2)]⟩,u3 (N.Xo n)⟩
theorem oF(n:Nat):FO 134 (qz n):=mk (Wq [(0,[.slot 24 I],true)]) n Tryz.func134 rfl (cn (cJ n) nl)
def tv(n:Nat):Ln:=⟨⟨[.val true [Vs]],[(false,Q2)]⟩,N.SA n⟩
theorem qS(n:Nat):FO 56 (tv n):=mk (Wq [(0,[.slot 10 I],true),(2,[.slot 39 I],true)]) n Tryz.func56 rfl (cn (oF n) nl)
def qx(n:Nat):Ln:=⟨⟨[.val false [jv]],[(false,Q2)]⟩,N.R9 n⟩
theorem oC(n:Nat):FO 126 (qx n):=mk (Wq [(0,[.slot 7 I],true)]) n Tryz.func126 rfl (cn (cJ n) nl)
def rW(n:Nat):Ln:=⟨⟨[.val false [jv]],[(false,[(jv,2)])]⟩,N.QU⟩
theorem ma(n:Nat):FO 187 (rW n):=mk WQ n Tryz.func187 rfl nl
def qy(n:Nat):Ln:=⟨⟨[.val false [iH],.val false [jv]],[(false,Q2)]⟩,u2 (N.Ud n)⟩
theorem oD(n:Nat):FO 127 (qy n):=mk (Wq [(0,[.slot 16 I,.own 5 46 k1 2 false],true),(2,[.slot 8 .bool,.slot 22 I,.own 5 46 k1 2 false],false),(4,[.slot 59 I],true)]) n Tryz.func127 rfl (cn (cJ n) (cn (ma n) nl))
def te(n:Nat):Ln:=⟨⟨[.val true [I,X1]],[(false,Q2)]⟩,u2 (N.Qz n)⟩
theorem pN(n:Nat):FO 47 (te n):=mk (Wq [(0,[.slot 18 I],true)]) n Tryz.func47 rfl (cn (cJ n) (cn (oC n) (cn (oD n) nl)))
def rA(n:Nat):Ln:=⟨⟨[.val true Uu,.val false [I]],[(false,Q2)]⟩,u4 N.Sr⟩
theorem oG(n:Nat):FO 135 (rA n):=mk WQ n Tryz.func135 rfl (cn (cJ n) nl)
def tw(n:Nat):Ln:=⟨⟨[.val true Uu,.val false [I]],[(false,S6)]⟩,u4 (N.Q0 n)⟩
theorem qT(n:Nat):FO 58 (tw n):=mk WQ n Tryz.func58 rfl (cn (nB n) (cn (oG n) nl))
def rS(n:Nat):Ln:=⟨⟨[.val true Uu,.val true lP],[(false,Q2)]⟩,u8 (N.Ra n)⟩
theorem oU(n:Nat):FO 182 (rS n):=mk WQ n Tryz.func182 rfl (cn (qT n) nl)
def qn(n:Nat):Ln:=⟨⟨[.val true Uu,.val false [XK]],[(false,Q2)]⟩,u4 (N.UJ n)⟩
theorem nz(n:Nat):FO 119 (qn n):=mk (Wq [(0,[.slot 19 I],true),(2,[.slot 59 I],true)]) n Tryz.func119 rfl (cn (cJ n) (cn (nB n) (cn (oU n) nl)))
def qo(n:Nat):Ln:=⟨⟨[.val false [ZM]],[(false,Q2)]⟩,N.Vx n⟩
theorem n7(n:Nat):FO 120 (qo n):=mk (Wq [(0,[.slot 10 I],true),(2,[.slot 51 I],true)]) n Tryz.func120 rfl (cn (cJ n) nl)
def qt(n:Nat):Ln:=⟨⟨[.val false [Qb]],[(false,Q2)]⟩,N.Tc n⟩
theorem n9(n:Nat):FO 121 (qt n):=mk (Wq [(0,[.slot 7 I],true)]) n Tryz.func121 rfl (cn (cJ n) nl)
def qv(n:Nat):Ln:=⟨⟨[.val true [I,X1],.val false [I]],[(false,S6)]⟩,u3 (N.Qu n)⟩
theorem kZ(n:Nat):FO 124 (qv n):=mk (Wq [(0,[.slot 10 I],true)]) n Tryz.func124 rfl nl
def rT(n:Nat):Ln:=⟨⟨[.val true [Vs],.val false [I]],[(false,S6)]⟩,u2 (N.Wb n)⟩
theorem mZ(n:Nat):FO 183 (rT n):=mk (Wq [(0,[.slot 10 I],true)]) n Tryz.func183 rfl nl
def tj(n:Nat):Ln:=⟨⟨[.val false [Qb],.val false [I]],[(false,Q2)]⟩,u2 (N.P5 n)⟩
theorem nA(n:Nat):FO 49 (tj n):=mk (Wq [(0,[.slot 9 I],true)]) n Tryz.func49 rfl nl
def rC(n:Nat):Ln:=⟨⟨[.val false [iH]],[(false,Yc)]⟩,N.Ve n⟩
theorem oH(n:Nat):FO 151 (rC n):=mk (X3 [] [(0,[.own 3 3 (.one I) 2 false,.slot 8 I],false)] [(7,[.own 3 3 (.one I) 2 false],false)] []) n Tryz.func151 rfl (cn (nA n) nl)
def rU(n:Nat):Ln:=⟨⟨[.val false [XK],.val false [I]],[(false,S6)]⟩,u2 (N.TD n)⟩
theorem oV(n:Nat):FO 184 (rU n):=mk (Wq [(0,[.slot 9 I],true)]) n Tryz.func184 rfl nl
def rV(n:Nat):Ln:=⟨⟨[.val true aS,.val true [I,I,I,I]],[(false,S6)]⟩,pe (N.Wx n)⟩
theorem oW(n:Nat):FO 185 (rV n):=mk WQ n Tryz.func185 rfl (cn (kZ n) (cn (mZ n) nl))
def qu(n:Nat):Ln:=⟨⟨[.val true aS,.val true [I,I,I,I]],[(false,Q2)]⟩,pe (N.Ss n)⟩
theorem oA(n:Nat):FO 122 (qu n):=mk WQ n Tryz.func122 rfl (cn (nA n) (cn (kZ n) (cn (oH n) (cn (mZ n) (cn (oV n) (cn (oW n) nl))))))
def tY(n:Nat):Ln:=⟨⟨[.val true aS],[(false,Q2)]⟩,nV (N.S7 n)⟩
theorem qK(n:Nat):FO 43 (tY n):=mk (Wq [(0,[.slot 56 I],true)]) n Tryz.func43 rfl (cn (pN n) (cn (cJ n) (cn (nB n) (cn (qS n) (cn (nz n) (cn (n7 n) (cn (n9 n) (cn (oA n) nl))))))))
def tZ(n:Nat):Ln:=⟨⟨[.val true Uu,.val false [ew]],[(false,[(.str,0)])]⟩,u4 (N.Xn n)⟩
theorem qL(n:Nat):FO 44 (tZ n):=mk (X3 [] [(0,[.own 5 5 (.one (.int .u8)) 2 false,.slot 12 I],false)] [(7,[.own 5 5 (.one (.int .u8)) 2 false],false),(21,[.slot 8 (.int .u8)],false)] []) n Tryz.func44 rfl nl
def tc(n:Nat):Ln:=⟨F3,λx=>L8 x⟩
theorem qM(n:Nat):FO 45 (tc n):=⟨Ol Tryz.lays171,_,_,Tryz.func45,rfl,by kernel_rfl⟩
def s9(n:Nat):Ln:=⟨⟨[.val true aS],[(false,[(.str,0)])]⟩,nV (N.Uz n)⟩
theorem tJ(n:Nat):FO 9 (s9 n):=mk (Wq [(0,[.slot 20 I,.own 3 5 (.one (.int .u8)) 2 false],false),(2,[.slot 6 .str,.slot 41 I],false)]) n Tryz.func9 rfl (cn (qK n) (cn (qL n) (cn (qM n) nl)))
def rX(n:Nat):Ln:=⟨⟨[.val false [iH]],[(false,[(iH,2)])]⟩,N.Wa⟩
theorem oX(n:Nat):FO 188 (rX n):=mk WQ n Tryz.func188 rfl nl
def qw(n:Nat):Ln:=⟨⟨[.val true lO],[(true,mI)]⟩,u5 N.Rk⟩
theorem oB(n:Nat):FO 125 (qw n):=mk WQ n Tryz.func125 rfl (cn (ma n) (cn (oX n) nl))
def td(n:Nat):Ln:=⟨⟨[.val true [I,X1],.val false [I]],[(true,mI),(false,Q2)]⟩,u3 (N.UY n)⟩
theorem qN(n:Nat):FO 46 (td n):=mk WQ n Tryz.func46 rfl (cn (kZ n) (cn (oB n) nl))
def tL(n:Nat):Ln:=⟨⟨[.val true aS,.val false [I]],[(false,[(jv,2)])]⟩,su (N.Wv n)⟩
theorem qC(n:Nat):FO 10 (tL n):=mk (X3 [] [(0,[.own 7 3 (.one I) 2 false,.slot 37 I],false),(2,[.own 10 46 k1 2 false,.slot 59 I],false),(4,[.slot 13 I],false)] [(7,[.own 7 3 (.one I) 2 false],false),(13,[.own 10 46 k1 2 false],false)] []) n Tryz.func10 rfl (cn (qN n) (cn (pN n) (cn (cJ n) (cn (nA n) nl))))
def tn(n:Nat):Ln:=⟨⟨[.val true Uu],[(false,[(.str,0)])]⟩,u3 (N.Ui n)⟩
theorem qO(n:Nat):FO 50 (tn n):=mk (X3 [] [(0,[.own 3 5 (.one (.int .u8)) 2 false,.slot 4 I],false)] [(7,[.own 3 5 (.one (.int .u8)) 2 false],false)] []) n Tryz.func50 rfl (cn (jZ n) nl)
def nU(n:Nat):Ln:=⟨⟨[.val false [I]],[(false,[(.str,0)])]⟩,N.QX n⟩
def nX:An:=WQ
theorem p9(n:Nat)(x:(nU n).s.ins.D):L1 (find tbl) (plain [(51,nU n)]) nX n Tryz.f51 (nU n).s x=N.QX (n+1) x:=by kernel_rfl
theorem qP(n:Nat):FO 51 (nU n):=by
 induction n with
 |zero=>exact⟨Oh,_,_,Tryz.func51,rfl,by kernel_rfl⟩
 |succ n ih=>exact mk (an:=nX) (n:=n) (sm:=(nU n).s) (F:=λ(x:(nU n).s.ins.D)=>N.QX (n+1) x) Tryz.func51 rfl (cn ih nl) (p9 n)
def tM(n:Nat):Ln:=⟨⟨[.val true aS],[(false,[(.str,0)])]⟩,nV (N.Xx n)⟩
theorem qD(n:Nat):FO 11 (tM n):=mk (Wq [(0,[.slot 4 I,.own 3 5 (.one (.int .u8)) 2 false],false),(2,[.slot 6 .str,.slot 7 I],false)]) n Tryz.func11 rfl (cn (pP n) (cn (qO n) (cn (qP n) nl)))
def s3(n:Nat):Ln:=⟨⟨[.val false [ew]],[(false,Q2)]⟩,N.Xr n⟩
theorem tG(n:Nat):FO 3 (s3 n):=mk (X3 [] [(0,[.slot 4 I],true),(2,[.slot 7 I],true),(4,[.slot 8 .bool,.slot 9 I],false),(6,[.slot 10 I],true)] [(66,[],true)] []) n Tryz.func3 rfl (cn (tH n) (cn (tI n) (cn (pP n) (cn (tJ n) (cn (qC n) (cn (qD n) nl))))))
end Go.Proofs.YtimfhfkcgkplcaaGreatDoor.Ev
