/- Tables of types;summaries of the functions. Conditions: none. -/
import Derived.Test.YtddkakpbnplbjaaDoorLib5
import Derived.Shelf.Lay
import Derived.Ground.NamesProg
import Derived.Test.YtddkakpbnplbjaaDoorFnActsNat
import Derived.Test.YtddkakpbnplbjaaDoorProg
import Derived.Test.YtddkakpbnplbjaaDoorFnActsNum
import Derived.KernelRfl
set_option linter.all false
namespace Go.Proofs.YtddkakpbnplbjaaDoor.Ev
open Go Go.Ev Go.Proofs
set_option maxRecDepth 100000
abbrev I:L:=.int .i64
abbrev TT[Tq]:List (String×Array Value):=CX Tq.q
variable [Tq]
def k0:Ls:=(.cons .str (.one (.int .u64)))
def k1:Ls:=(.cons I (.one I))
def k2:Ls:=(.cons (.int .u8) (.one (.int .u8)))
def k3:Ls:=(.cons I (.cons I (.cons .bool (.one (.int .u8)))))
def k4:Ls:=(.cons (.sl 5 (.one (.int .u8))) (.cons I (.one I)))
def k5:Ls:=(.cons I (.cons I (.one (.sl 3 (.one I)))))
def k6:Ls:=(.cons I (.cons I (.cons (.sl 40 k1) (.cons I (.cons I (.cons I (.one I)))))))
def tbl:List (Nat×Ty):=[
 (3,⟨false,(.one I),[],false⟩),
 (4,⟨false,(.one .bool),[],false⟩),
 (5,⟨false,(.one (.int .u8)),[],false⟩),
 (9,⟨false,(.one .str),[],false⟩),
 (22,⟨false,(.one (.sl 40 k1)),[],false⟩),
 (24,⟨true,k6,[(0,3),(1,3),(2,22),(3,3),(4,3),(5,3),(6,3)],false⟩),
 (30,⟨false,(.one (.sl 5 (.one (.int .u8)))),[],false⟩),
 (36,⟨false,(.one (.sl 9 (.one .str))),[],false⟩),
 (38,⟨false,(.one (.sl 3 (.one I))),[],false⟩),
 (40,⟨true,k1,[(0,3),(1,3)],true⟩),
 (61,⟨true,k4,[(0,30),(1,3),(2,3)],false⟩),
 (63,⟨true,k5,[(0,3),(1,3),(2,38)],false⟩)]
theorem T9:tbl.all (fun p=>PJ Tryd.prog p.1 p.2)=true:=by kernel_rfl
theorem follows:Tryd.prog.follows .mixedOrders=true:=by kernel_rfl
def S4(g:List (Nat×List VP))(b j:List (Nat×List VP×Bool))(p:List (Nat×List Nat)):An:=⟨find g,find b,find j,fun k=>match find p k with|some x=>x|none=>[]⟩
def TM(b:List (Nat×List VP×Bool)):An:=S4 [] b [] []
def Sl:An:=TM []
abbrev FO(f:FuncId)(g:MB):Prop:=Dz Tryd.prog TT f g∧NI Tryd.prog f
theorem nl:Jh Tryd.prog TT (find []):=PD
theorem cn{f:FuncId}{g:MB}{l:List (FuncId×MB)}(h:FO f g)(hl:Jh Tryd.prog TT (find l)):Jh Tryd.prog TT (find ((f,g)::l)):=Oy h.1 h.2 hl
theorem U1 {l : Env} (an : An) (n : Nat) {sm : Sm} {fn : Func} {f : FuncId} {c : Code} {F : sm.ins.D → Option sm.outs.D} (hf : Tryd.prog.funcs[f]? = some fn) (hb : fn.body = some c) (hl : Kz Tryd.prog TT l) (hF : ∀ x, MO (find tbl) l an n fn sm x = F x := by intro x; kernel_rfl) (h1 : decide (sm.ps.length ≤ fn.ntmps) = true := by kernel_rfl) (h2 : (fn.name == "runtime.NumGoroutine") = false := by kernel_rfl) : FO f ⟨sm, F⟩ := ⟨On hf hb h1 T9 hl follows hF, fn, c, hf, hb, h2⟩
theorem mk {l : List (FuncId × MB)} (an : An) (n : Nat) {sm : Sm} {fn : Func} {f : FuncId} {c : Code} {F : sm.ins.D → Option sm.outs.D} (hf : Tryd.prog.funcs[f]? = some fn) (hb : fn.body = some c) (hl : Jh Tryd.prog TT (find l)) (hF : ∀ x, MO (find tbl) (plain l) an n fn sm x = F x := by intro x; kernel_rfl) (h1 : decide (sm.ps.length ≤ fn.ntmps) = true := by kernel_rfl) (h2 : (fn.name == "runtime.NumGoroutine") = false := by kernel_rfl) : FO f ⟨sm, F⟩ := U1 an n hf hb (Om hl) hF h1 h2
def u2{α0 α1 β:Type}(f:α0→α1→β)(x:α0×α1):β:=f x.1 x.2
def u3{α0 α1 α2 β:Type}(f:α0→α1→α2→β)(x:α0×α1×α2):β:=f x.1 x.2.1 x.2.2
def u4{α0 α1 α2 α3 β:Type}(f:α0→α1→α2→α3→β)(x:α0×α1×α2×α3):β:=f x.1 x.2.1 x.2.2.1 x.2.2.2
def u6{α0 α1 α2 α3 α4 α5 β:Type}(f:α0→α1→α2→α3→α4→α5→β)(x:α0×α1×α2×α3×α4×α5):β:=f x.1 x.2.1 x.2.2.1 x.2.2.2.1 x.2.2.2.2.1 x.2.2.2.2.2
def u7{α0 α1 α2 α3 α4 α5 α6 β:Type}(f:α0→α1→α2→α3→α4→α5→α6→β)(x:α0×α1×α2×α3×α4×α5×α6):β:=f x.1 x.2.1 x.2.2.1 x.2.2.2.1 x.2.2.2.2.1 x.2.2.2.2.2.1 x.2.2.2.2.2.2
def u8{α0 α1 α2 α3 α4 α5 α6 α7 β:Type}(f:α0→α1→α2→α3→α4→α5→α6→α7→β)(x:α0×α1×α2×α3×α4×α5×α6×α7):β:=f x.1 x.2.1 x.2.2.1 x.2.2.2.1 x.2.2.2.2.1 x.2.2.2.2.2.1 x.2.2.2.2.2.2.1 x.2.2.2.2.2.2.2
def Vf{α0 α1 α2 α3 α4 α5 α6 α7 α8 α9 β:Type}(f:α0→α1→α2→α3→α4→α5→α6→α7→α8→α9→β)(x:α0×α1×α2×α3×α4×α5×α6×α7×α8×α9):β:=f x.1 x.2.1 x.2.2.1 x.2.2.2.1 x.2.2.2.2.1 x.2.2.2.2.2.1 x.2.2.2.2.2.2.1 x.2.2.2.2.2.2.2.1 x.2.2.2.2.2.2.2.2.1 x.2.2.2.2.2.2.2.2.2
def Vg{α0 α1 α2 α3 α4 α5 α6 α7 α8 α9 α10 β:Type}(f:α0→α1→α2→α3→α4→α5→α6→α7→α8→α9→α10→β)(x:α0×α1×α2×α3×α4×α5×α6×α7×α8×α9×α10):β:=f x.1 x.2.1 x.2.2.1 x.2.2.2.1 x.2.2.2.2.1 x.2.2.2.2.2.1 x.2.2.2.2.2.2.1 x.2.2.2.2.2.2.2.1 x.2.2.2.2.2.2.2.2.1 x.2.2.2.2.2.2.2.2.2.1 x.2.2.2.2.2.2.2.2.2.2
abbrev TI:L:=(.sl 5 (.one (.int .u8)))
abbrev S2:L:=(.sl 40 k1)
abbrev TJ:L:=(.sl 3 (.one I))
abbrev Tn:List L:=[I,I,S2,I,I,I,I]
abbrev TO:List (L×Nat):=[(TI,0),(I,0),(I,0)]
abbrev Sd:List (L×Nat):=[(.bool,0)]
abbrev Uo:List (L×Nat):=[(I,0),(I,0),(S2,2),(I,0),(I,0),(I,0),(I,0)]
abbrev Uq:List (L×Nat):=[(I,0),(I,0),(S2,0),(I,0),(I,0),(I,0),(I,0)]
def U5(n:Nat):MB:=⟨⟨[.val false [TI]],[(false,Sd)]⟩,N.Rt⟩
theorem UO(n:Nat):FO 10 (U5 n):=mk Sl n Tryd.func10 rfl nl
def VH(n:Nat):MB:=⟨⟨[.val false [TI]],[(false,TO)]⟩,N.Q5 n⟩
theorem UX(n:Nat):FO 27 (VH n):=mk (TM [(0,[.slot 3 I,.slot 4 I],false)]) n Tryd.func27 rfl nl
def VD(n:Nat):MB:=⟨⟨[.val false [.str],.val false [(.int .u8)]],[(false,[((.sl 9 (.one .str)),2)])]⟩,u2 (N.QF n)⟩
theorem UT(n:Nat):FO 18 (VD n):=mk (S4 [] [(0,[.own 5 9 (.one .str) 2 false,.slot 6 I,.slot 7 I],false)] [(7,[.own 5 9 (.one .str) 2 false,.slot 6 I],false)] []) n Tryd.func18 rfl nl
def VL(n:Nat):MB:=⟨⟨[.val false [I],.val false [I],.val false [I]],[(false,Sd)]⟩,u3 N.Pu⟩
theorem TW(n:Nat):FO 31 (VL n):=mk Sl n Tryd.func31 rfl nl
def VX(n:Nat):MB:=⟨⟨[.val false [(.int .u8)]],[(false,[(I,0)])]⟩,N.Qy n⟩
theorem Uh(n:Nat):FO 52 (VX n):=mk (TM [(0,[.slot 3 I],true)]) n Tryd.func52 rfl nl
def VS(n:Nat):MB:=⟨⟨[.val false [.str]],[(true,[(I,0),(I,0),(TJ,2)]),(false,[(I,0)])]⟩,N.P7 n⟩
theorem Ud(n:Nat):FO 41 (VS n):=mk (TM [(0,[.slot 6 I,.box 2 [some (I,0),some (I,0),some (TJ,2)],.box 5 [some (I,0),some (I,0),some (TJ,2)]],true),(2,[.slot 8 I,.box 2 [some (I,0),some (I,0),some (TJ,2)],.box 5 [some (I,0),some (I,0),some (TJ,2)]],true)]) n Tryd.func41 rfl (cn (UT n) (cn (TW n) (cn (Uh n) nl)))
def Vc(n:Nat):MB:=⟨⟨[.box TO],[(false,[(I,0)])]⟩,u3 N.QQ⟩
theorem Uk(n:Nat):FO 67 (Vc n):=mk (S4 [] [] [(12,[.slot 3 I,.box 0 [some (TI,0),some (I,0),some (I,0)]],false)] []) n Tryd.func67 rfl nl
def VY(n:Nat):MB:=⟨⟨[.box TO,.val false [I]],[(false,[(I,0)])]⟩,u4 N.Pn⟩
theorem TF(n:Nat):FO 53 (VY n):=mk Sl n Tryd.func53 rfl (cn (Uk n) nl)
def VU(n:Nat):MB:=⟨⟨[.box TO,.val false [I]],[(false,Sd)]⟩,u4 N.Qc⟩
theorem Tj(n:Nat):FO 43 (VU n):=mk Sl n Tryd.func43 rfl (cn (TF n) nl)
def Vb(n:Nat):MB:=⟨⟨[.box TO,.val false [TJ]],[(false,[(I,0)])]⟩,u4 N.QR⟩
theorem T7(n:Nat):FO 56 (Vb n):=mk Sl n Tryd.func56 rfl (cn (TF n) nl)
def VZ(n:Nat):MB:=⟨⟨[.box TO],[(false,[(S2,2)])]⟩,u3 (N.Qw n)⟩
theorem Ui(n:Nat):FO 54 (VZ n):=mk (S4 [] [(0,[.own 3 40 k1 2 false,.slot 4 I,.box 0 [some (TI,0),some (I,0),some (I,0)]],false)] [(7,[.own 3 40 k1 2 false,.box 0 [some (TI,0),some (I,0),some (I,0)]],false)] []) n Tryd.func54 rfl (cn (Tj n) (cn (T7 n) nl))
def Ve(n:Nat):MB:=⟨⟨[.val true [I,I,TJ]],[(false,Sd)]⟩,u3 (N.Qq n)⟩
theorem Um(n:Nat):FO 81 (Ve n):=mk (TM [(0,[.slot 3 I],true)]) n Tryd.func81 rfl (cn (TW n) nl)
def Vd(n:Nat):MB:=⟨⟨[.val true [I,I,TJ],.val false [I]],[(false,[(TJ,2)])]⟩,u4 (N.Qo n)⟩
theorem Ul(n:Nat):FO 68 (Vd n):=mk (S4 [] [(0,[.own 5 3 (.one I) 2 false,.slot 6 I],false)] [(7,[.own 5 3 (.one I) 2 false],false)] []) n Tryd.func68 rfl (cn (Um n) nl)
def Va(n:Nat):MB:=⟨⟨[.box TO,.val true [I,I,TJ]],[(false,[(I,0)])]⟩,u6 (N.Qr n)⟩
theorem Uj(n:Nat):FO 55 (Va n):=mk (S4 [(2,[.slot 14 .bool,.box 0 [some (TI,0),some (I,0),some (I,0)]])] [] [] []) n Tryd.func55 rfl (cn (Tj n) (cn (TF n) (cn (Ul n) nl)))
def VT(n:Nat):MB:=⟨⟨[.box TO,.val true [I,I,TJ]],[(true,Uo)]⟩,u6 (N.Qx n)⟩
theorem Ue(n:Nat):FO 42 (VT n):=mk (S4 [] [] [(9,[.slot 8 .bool],false),(18,[.own 5 40 k1 2 false],false)] []) n Tryd.func42 rfl (cn (TF n) (cn (Ui n) (cn (Uj n) nl)))
def VV(n:Nat):MB:=⟨⟨[.box TO,.val true Tn],[(true,Uq)]⟩,Vf N.Qs⟩
theorem Uf(n:Nat):FO 44 (VV n):=mk (S4 [] [] [(6,[.box 0 [some (TI,0),some (I,0),some (I,0)],.box 3 [some (I,0),some (I,0),some (S2,0),some (I,0),some (I,0),some (I,0),some (I,0)]],false)] []) n Tryd.func44 rfl (cn (TF n) (cn (T7 n) nl))
def VI(n:Nat):MB:=⟨⟨[.box TO],[(true,Uq)]⟩,u3 (N.Qf n)⟩
theorem UY(n:Nat):FO 28 (VI n):=mk (S4 [] [] [(12,[.box 0 [some (TI,0),some (I,0),some (I,0)],.box 5 [some (I,0),some (I,0),some (S2,0),some (I,0),some (I,0),some (I,0),some (I,0)]],false)] []) n Tryd.func28 rfl (cn (Ud n) (cn (Ue n) (cn (Tj n) (cn (Uf n) nl))))
def U6(n:Nat):MB:=⟨⟨[.val false [TI]],[(true,Uq)]⟩,N.QT n⟩
theorem UP(n:Nat):FO 11 (U6 n):=mk Sl n Tryd.func11 rfl (cn (UX n) (cn (UY n) nl))
def VO(n:Nat):MB:=⟨⟨[.val false [I],.val false [I],.val false [I]],[(false,Sd)]⟩,u3 N.Qg⟩
theorem Ti(n:Nat):FO 34 (VO n):=mk Sl n Tryd.func34 rfl nl
def VW(n:Nat):MB:=⟨⟨[.val false [S2]],[(false,Sd)]⟩,N.Ql n⟩
theorem Ug(n:Nat):FO 46 (VW n):=mk (TM [(0,[.slot 7 I],true)]) n Tryd.func46 rfl (cn (Ti n) nl)
def VN(n:Nat):MB:=⟨⟨[.val true Tn],[(false,Sd)]⟩,u7 (N.Qz n)⟩
theorem Ub(n:Nat):FO 33 (VN n):=mk Sl n Tryd.func33 rfl (cn (Ti n) (cn (Ug n) nl))
def VA(n:Nat):MB:=⟨⟨[.val true Tn],[(false,Sd)]⟩,u7 (N.QG n)⟩
theorem Th(n:Nat):FO 15 (VA n):=mk Sl n Tryd.func15 rfl (cn (Ub n) (cn (Ti n) nl))
def VJ(n:Nat):MB:=⟨FV,fun x=>K3 x⟩
theorem T5(n:Nat):FO 29 (VJ n):=⟨O4 Tryd.lays171 Tq.q,_,_,Tryd.func29,rfl,by kernel_rfl⟩
def U7(n:Nat):MB:=⟨⟨[.val true Tn],[(false,[(.str,0)])]⟩,u7 (N.QJ n)⟩
theorem T1(n:Nat):FO 12 (U7 n):=mk (TM [(1,[.slot 3 .str,.slot 20 I],false)]) n Tryd.func12 rfl (cn (Th n) (cn (T5 n) nl))
def VB(n:Nat):MB:=⟨⟨[.val false [.str]],[(false,[(I,0)])]⟩,N.QS n⟩
theorem T3(n:Nat):FO 16 (VB n):=mk (TM [(0,[.slot 3 I,.slot 7 I],false)]) n Tryd.func16 rfl nl
def U8(n:Nat):MB:=⟨⟨[.val true Tn],[(false,[(.str,0)])]⟩,u7 (N.Qv n)⟩
theorem UQ(n:Nat):FO 13 (U8 n):=mk Sl n Tryd.func13 rfl (cn (T1 n) (cn (T3 n) (cn (T5 n) nl)))
def VK(n:Nat):MB:=⟨⟨[.val true Tn,.val false [.bool],.val false [.bool],.val false [.bool],.val false [.bool]],[(false,Sd)]⟩,Vg N.QE⟩
theorem UZ(n:Nat):FO 30 (VK n):=mk Sl n Tryd.func30 rfl nl
def VM(n:Nat):MB:=⟨⟨[.val false [S2]],[(false,Sd)]⟩,N.Pr n⟩
theorem Ua(n:Nat):FO 32 (VM n):=mk (TM [(0,[.slot 3 I],true)]) n Tryd.func32 rfl (cn (TW n) nl)
def U9(n:Nat):MB:=⟨⟨[.val true Tn],[(false,Sd)]⟩,u7 (N.P5 n)⟩
theorem UR(n:Nat):FO 14 (U9 n):=mk Sl n Tryd.func14 rfl (cn (UZ n) (cn (TW n) (cn (Ua n) nl)))
def VE(n:Nat):MB:=⟨K0,fun x=>NU x.1 x.2⟩
theorem T4(n:Nat):FO 21 (VE n):=⟨PC Tryd.lays145 Tq.q,_,_,Tryd.func21,rfl,by kernel_rfl⟩
def VG(n:Nat):MB:=⟨(HH 9),fun x=>splitN x.1 x.2⟩
theorem UW(n:Nat):FO 23 (VG n):=⟨Ou Tryd.lays146 Tq.q _,_,_,Tryd.func23,rfl,by kernel_rfl⟩
def VQ(n:Nat):MB:=⟨K7,fun x=>OU x⟩
theorem T6(n:Nat):FO 37 (VQ n):=⟨PX TE Tq.q,_,_,Tryd.func37,rfl,by kernel_rfl⟩
def VR(n:Nat):MB:=⟨⟨[.val false [.str]],[(true,[(I,0),(I,0)]),(false,Sd)]⟩,N.RF⟩
theorem Uc(n:Nat):FO 38 (VR n):=mk (S4 [(4,[.slot 3 .bool,.box 2 [some (I,0),some (I,0)]])] [] [] []) n Tryd.func38 rfl (cn (T4 n) (cn (T6 n) nl))
def VF(n:Nat):MB:=⟨⟨[.row true [(I,0),(I,0),(S2,4),(I,0),(I,0),(I,0),(I,0)],.val false [(.sl 9 (.one .str))]],[(true,Uo),(false,Sd)]⟩,u8 (N.QH n)⟩
theorem UU(n:Nat):FO 22 (VF n):=mk (S4 [] [(0,[.slot 7 .bool,.slot 32 I,.box 2 [some (I,0),some (I,0),some (S2,2),some (I,0),some (I,0),some (I,0),some (I,0)]],false),(2,[.own 12 3 (.one I) 2 false,.slot 56 I,.box 4 [some (I,0),some (I,0),some (S2,2),some (I,0),some (I,0),some (I,0),some (I,0)]],true)] [(16,[.box 2 [some (I,0),some (I,0),some (S2,2),some (I,0),some (I,0),some (I,0),some (I,0)],.box 4 [some (I,0),some (I,0),some (S2,2),some (I,0),some (I,0),some (I,0),some (I,0)]],true)] []) n Tryd.func22 rfl (cn (T6 n) (cn (Uc n) nl))
def s6(n:Nat):MB:=⟨⟨[.val false [.str]],[(true,Uo),(false,Sd)]⟩,N.QN n⟩
theorem U3(n:Nat):FO 6 (s6 n):=mk (S4 [] [] [] [(1000000,[7])]) n Tryd.func6 rfl (cn (Th n) (cn (T4 n) (cn (UU n) (cn (UW n) nl))))
def VC(n:Nat):MB:=⟨⟨[.val false [.str]],[(false,[(I,0)])]⟩,N.Qp n⟩
theorem US(n:Nat):FO 17 (VC n):=mk (TM [(0,[.slot 3 I,.slot 4 I],false)]) n Tryd.func17 rfl nl
def s4(n:Nat):MB:=⟨⟨[.val false [TI]],[(false,Sd)]⟩,N.Q7 n⟩
theorem U2(n:Nat):FO 4 (s4 n):=mk Sl n Tryd.func4 rfl (cn (U3 n) (cn (UO n) (cn (UP n) (cn (T1 n) (cn (UQ n) (cn (UR n) (cn (Th n) (cn (T3 n) (cn (US n) nl)))))))))
end Go.Proofs.YtddkakpbnplbjaaDoor.Ev
