/- Tables of types;summaries of the functions. Conditions: none. -/
import Derived.Test.YtddkakpbnplbjaaDoorLib5
import Derived.Shelf.Lay
import Derived.Ground.NamesProg
import Derived.Test.YtddkakpbnplbjaaDoorFnExactParseActNat
import Derived.Test.YtddkakpbnplbjaaDoorProg
import Derived.Test.YtddkakpbnplbjaaDoorFnExactParseActNum
import Derived.KernelRfl
set_option linter.all false
namespace Go.Proofs.YtddkakpbnplbjaaDoor.Ev
open Go Go.Ev Go.Proofs
set_option maxRecDepth 100000
abbrev I:L:=.int .i64
abbrev TT[Tq]:List (String×Array Value):=CT Tq.q
variable [Tq]
def k0:Ls:=(.cons .str (.one (.int .u64)))
def k1:Ls:=(.cons I (.one I))
def k2:Ls:=(.cons (.int .u8) (.one (.int .u8)))
def k3:Ls:=(.cons I (.cons I (.cons .bool (.one (.int .u8)))))
def k4:Ls:=(.cons (.sl 5 (.one (.int .u8))) (.cons I (.one I)))
def k5:Ls:=(.cons I (.cons I (.one (.sl 3 (.one I)))))
def k6:Ls:=(.cons I (.cons I (.cons (.sl 40 k1) (.cons I (.cons I (.cons I (.one I)))))))
def tbl:List (Nat×Ty):=[
 (3,⟨false,(.one I),[],false⟩),
 (4,⟨false,(.one .bool),[],false⟩),
 (5,⟨false,(.one (.int .u8)),[],false⟩),
 (9,⟨false,(.one .str),[],false⟩),
 (22,⟨false,(.one (.sl 40 k1)),[],false⟩),
 (24,⟨true,k6,[(0,3),(1,3),(2,22),(3,3),(4,3),(5,3),(6,3)],false⟩),
 (30,⟨false,(.one (.sl 5 (.one (.int .u8)))),[],false⟩),
 (36,⟨false,(.one (.sl 9 (.one .str))),[],false⟩),
 (38,⟨false,(.one (.sl 3 (.one I))),[],false⟩),
 (40,⟨true,k1,[(0,3),(1,3)],true⟩)]
theorem SL:tbl.all (fun p=>O2 Tryd.prog p.1 p.2)=true:=by kernel_rfl
theorem follows:Tryd.prog.follows .mixedOrders=true:=by kernel_rfl
def SB(g:List (Nat×List VP))(b j:List (Nat×List VP×Bool))(p:List (Nat×List Nat)):An:=⟨find g,find b,find j,fun k=>match find p k with|some x=>x|none=>[]⟩
def R4(b:List (Nat×List VP×Bool)):An:=SB [] b [] []
def Rr:An:=R4 []
abbrev FO(f:FuncId)(g:Ly):Prop:=D9 Tryd.prog TT f g∧M0 Tryd.prog f
theorem nl:JU Tryd.prog TT (find []):=Ow
theorem cn{f:FuncId}{g:Ly}{l:List (FuncId×Ly)}(h:FO f g)(hl:JU Tryd.prog TT (find l)):JU Tryd.prog TT (find ((f,g)::l)):=Of h.1 h.2 hl
theorem Sw {l : Env} (an : An) (n : Nat) {sm : Sm} {fn : Func} {f : FuncId} {c : Code} {F : sm.ins.D → Option sm.outs.D} (hf : Tryd.prog.funcs[f]? = some fn) (hb : fn.body = some c) (hl : Km Tryd.prog TT l) (hF : ∀ x, MB (find tbl) l an n fn sm x = F x := by intro x; kernel_rfl) (h1 : decide (sm.ps.length ≤ fn.ntmps) = true := by kernel_rfl) (h2 : (fn.name == "runtime.NumGoroutine") = false := by kernel_rfl) : FO f ⟨sm, F⟩ := ⟨OX hf hb h1 SL hl follows hF, fn, c, hf, hb, h2⟩
theorem mk {l : List (FuncId × Ly)} (an : An) (n : Nat) {sm : Sm} {fn : Func} {f : FuncId} {c : Code} {F : sm.ins.D → Option sm.outs.D} (hf : Tryd.prog.funcs[f]? = some fn) (hb : fn.body = some c) (hl : JU Tryd.prog TT (find l)) (hF : ∀ x, MB (find tbl) (plain l) an n fn sm x = F x := by intro x; kernel_rfl) (h1 : decide (sm.ps.length ≤ fn.ntmps) = true := by kernel_rfl) (h2 : (fn.name == "runtime.NumGoroutine") = false := by kernel_rfl) : FO f ⟨sm, F⟩ := Sw an n hf hb (OW hl) hF h1 h2
def u2{α0 α1 β:Type}(f:α0→α1→β)(x:α0×α1):β:=f x.1 x.2
def u3{α0 α1 α2 β:Type}(f:α0→α1→α2→β)(x:α0×α1×α2):β:=f x.1 x.2.1 x.2.2
def u4{α0 α1 α2 α3 β:Type}(f:α0→α1→α2→α3→β)(x:α0×α1×α2×α3):β:=f x.1 x.2.1 x.2.2.1 x.2.2.2
def u7{α0 α1 α2 α3 α4 α5 α6 β:Type}(f:α0→α1→α2→α3→α4→α5→α6→β)(x:α0×α1×α2×α3×α4×α5×α6):β:=f x.1 x.2.1 x.2.2.1 x.2.2.2.1 x.2.2.2.2.1 x.2.2.2.2.2.1 x.2.2.2.2.2.2
def u8{α0 α1 α2 α3 α4 α5 α6 α7 β:Type}(f:α0→α1→α2→α3→α4→α5→α6→α7→β)(x:α0×α1×α2×α3×α4×α5×α6×α7):β:=f x.1 x.2.1 x.2.2.1 x.2.2.2.1 x.2.2.2.2.1 x.2.2.2.2.2.1 x.2.2.2.2.2.2.1 x.2.2.2.2.2.2.2
def TP{α0 α1 α2 α3 α4 α5 α6 α7 α8 α9 α10 β:Type}(f:α0→α1→α2→α3→α4→α5→α6→α7→α8→α9→α10→β)(x:α0×α1×α2×α3×α4×α5×α6×α7×α8×α9×α10):β:=f x.1 x.2.1 x.2.2.1 x.2.2.2.1 x.2.2.2.2.1 x.2.2.2.2.2.1 x.2.2.2.2.2.2.1 x.2.2.2.2.2.2.2.1 x.2.2.2.2.2.2.2.2.1 x.2.2.2.2.2.2.2.2.2.1 x.2.2.2.2.2.2.2.2.2.2
def TQ{α0 α1 α2 α3 α4 α5 α6 α7 α8 α9 α10 α11 α12 α13 β:Type}(f:α0→α1→α2→α3→α4→α5→α6→α7→α8→α9→α10→α11→α12→α13→β)(x:α0×α1×α2×α3×α4×α5×α6×α7×α8×α9×α10×α11×α12×α13):β:=f x.1 x.2.1 x.2.2.1 x.2.2.2.1 x.2.2.2.2.1 x.2.2.2.2.2.1 x.2.2.2.2.2.2.1 x.2.2.2.2.2.2.2.1 x.2.2.2.2.2.2.2.2.1 x.2.2.2.2.2.2.2.2.2.1 x.2.2.2.2.2.2.2.2.2.2.1 x.2.2.2.2.2.2.2.2.2.2.2.1 x.2.2.2.2.2.2.2.2.2.2.2.2.1 x.2.2.2.2.2.2.2.2.2.2.2.2.2
abbrev RQ:L:=(.sl 40 k1)
abbrev R6:List L:=[I,I,RQ,I,I,I,I]
abbrev RR:List (L×Nat):=[(.bool,0)]
abbrev SR:List (L×Nat):=[(I,0),(I,0),(RQ,2),(I,0),(I,0),(I,0),(I,0)]
def S6(n:Nat):Ly:=⟨⟨[.val false [.str],.val false [(.int .u8)]],[(false,[((.sl 9 (.one .str)),2)])]⟩,u2 (N.P5 n)⟩
theorem SY(n:Nat):FO 18 (S6 n):=mk (SB [] [(0,[.own 5 9 (.one .str) 2 false,.slot 6 I,.slot 7 I],false)] [(7,[.own 5 9 (.one .str) 2 false,.slot 6 I],false)] []) n Tryd.func18 rfl nl
def TH(n:Nat):Ly:=⟨⟨[.val false [I],.val false [I],.val false [I]],[(false,RR)]⟩,u3 N.Pf⟩
theorem R8(n:Nat):FO 31 (TH n):=mk Rr n Tryd.func31 rfl nl
def S7(n:Nat):Ly:=⟨⟨[.val false [.str]],[(false,[(I,0)])]⟩,N.PY n⟩
theorem SZ(n:Nat):FO 19 (S7 n):=mk (R4 [(0,[.slot 3 I,.slot 4 I],true)]) n Tryd.func19 rfl (cn (R8 n) nl)
def TG(n:Nat):Ly:=⟨⟨[.val true R6,.val false [.bool],.val false [.bool],.val false [.bool],.val false [.bool]],[(false,RR)]⟩,TP N.Po⟩
theorem Sg(n:Nat):FO 30 (TG n):=mk Rr n Tryd.func30 rfl nl
def TI(n:Nat):Ly:=⟨⟨[.val false [RQ]],[(false,RR)]⟩,N.PX n⟩
theorem Sh(n:Nat):FO 32 (TI n):=mk (R4 [(0,[.slot 3 I],true)]) n Tryd.func32 rfl (cn (R8 n) nl)
def S4(n:Nat):Ly:=⟨⟨[.val true R6],[(false,RR)]⟩,u7 (N.Pk n)⟩
theorem SI(n:Nat):FO 14 (S4 n):=mk Rr n Tryd.func14 rfl (cn (Sg n) (cn (R8 n) (cn (Sh n) nl)))
def SF(n:Nat):Ly:=⟨⟨[.val false [I]],[(false,[(.str,0)])]⟩,N.PW n⟩
def SG:An:=Rr
theorem SV(n:Nat)(x:(SF n).s.ins.D):MB (find tbl) (plain [(35,SF n)]) SG n Tryd.f35 (SF n).s x=N.PW (n+1) x:=by kernel_rfl
theorem Sj(n:Nat):FO 35 (SF n):=by
 induction n with
 |zero=>exact⟨Oy,_,_,Tryd.func35,rfl,by kernel_rfl⟩
 |succ n ih=>exact mk (an:=SG) (n:=n) (sm:=(SF n).s) (F:=fun(x:(SF n).s.ins.D)=>N.PW (n+1) x) Tryd.func35 rfl (cn ih nl) (SV n)
def S8(n:Nat):Ly:=⟨⟨[.val true R6],[(false,[(.str,0)])]⟩,u7 (N.P4 n)⟩
theorem Sa(n:Nat):FO 20 (S8 n):=mk (R4 [(1,[.slot 3 .str,.slot 4 I],false)]) n Tryd.func20 rfl (cn (SI n) (cn (Sj n) nl))
def s5(n:Nat):Ly:=⟨⟨[.val false [.str]],[(true,SR),(false,RR)]⟩,N.Px n⟩
theorem Sz(n:Nat):FO 5 (s5 n):=mk (SB [] [(0,[.own 6 3 (.one I) 2 false,.slot 7 I],false),(3,[.slot 8 I,.box 5 [some (I,0),some (I,0),some (RQ,2),some (I,0),some (I,0),some (I,0),some (I,0)]],false)] [(10,[.box 5 [some (I,0),some (I,0),some (RQ,2),some (I,0),some (I,0),some (I,0),some (I,0)]],false),(16,[.box 5 [some (I,0),some (I,0),some (RQ,2),some (I,0),some (I,0),some (I,0),some (I,0)]],false)] []) n Tryd.func5 rfl (cn (SI n) (cn (SY n) (cn (SZ n) (cn (Sa n) nl))))
def S9(n:Nat):Ly:=⟨Kn,fun x=>ND x.1 x.2⟩
theorem SJ(n:Nat):FO 21 (S9 n):=⟨Ov Tryd.lays145 Tq.q,_,_,Tryd.func21,rfl,by kernel_rfl⟩
def TB(n:Nat):Ly:=⟨(G7 9),fun x=>splitN x.1 x.2⟩
theorem Sc(n:Nat):FO 23 (TB n):=⟨Ob Tryd.lays146 Tq.q _,_,_,Tryd.func23,rfl,by kernel_rfl⟩
def TF(n:Nat):Ly:=⟨FK,fun x=>Kq x⟩
theorem Sx(n:Nat):FO 29 (TF n):=⟨Ok Tryd.lays171 Tq.q,_,_,Tryd.func29,rfl,by kernel_rfl⟩
def TL(n:Nat):Ly:=⟨Ku,fun x=>OE x⟩
theorem SK(n:Nat):FO 37 (TL n):=⟨PC Ry Tq.q,_,_,Tryd.func37,rfl,by kernel_rfl⟩
def TM(n:Nat):Ly:=⟨⟨[.val false [.str]],[(true,[(I,0),(I,0)]),(false,RR)]⟩,N.Qa⟩
theorem Sk(n:Nat):FO 38 (TM n):=mk (SB [(4,[.slot 3 .bool,.box 2 [some (I,0),some (I,0)]])] [] [] []) n Tryd.func38 rfl (cn (SJ n) (cn (SK n) nl))
def TA(n:Nat):Ly:=⟨⟨[.row true [(I,0),(I,0),(RQ,4),(I,0),(I,0),(I,0),(I,0)],.val false [(.sl 9 (.one .str))]],[(true,SR),(false,RR)]⟩,u8 (N.Pp n)⟩
theorem Sb(n:Nat):FO 22 (TA n):=mk (SB [] [(0,[.slot 7 .bool,.slot 32 I,.box 2 [some (I,0),some (I,0),some (RQ,2),some (I,0),some (I,0),some (I,0),some (I,0)]],false),(2,[.own 12 3 (.one I) 2 false,.slot 56 I,.box 4 [some (I,0),some (I,0),some (RQ,2),some (I,0),some (I,0),some (I,0),some (I,0)]],true)] [(16,[.box 2 [some (I,0),some (I,0),some (RQ,2),some (I,0),some (I,0),some (I,0),some (I,0)],.box 4 [some (I,0),some (I,0),some (RQ,2),some (I,0),some (I,0),some (I,0),some (I,0)]],true)] []) n Tryd.func22 rfl (cn (SK n) (cn (Sk n) nl))
def TK(n:Nat):Ly:=⟨⟨[.val false [I],.val false [I],.val false [I]],[(false,RR)]⟩,u3 N.P6⟩
theorem R9(n:Nat):FO 34 (TK n):=mk Rr n Tryd.func34 rfl nl
def TO(n:Nat):Ly:=⟨⟨[.val false [RQ]],[(false,RR)]⟩,N.QB n⟩
theorem Sn(n:Nat):FO 46 (TO n):=mk (R4 [(0,[.slot 7 I],true)]) n Tryd.func46 rfl (cn (R9 n) nl)
def TJ(n:Nat):Ly:=⟨⟨[.val true R6],[(false,RR)]⟩,u7 (N.QN n)⟩
theorem Si(n:Nat):FO 33 (TJ n):=mk Rr n Tryd.func33 rfl (cn (R9 n) (cn (Sn n) nl))
def S5(n:Nat):Ly:=⟨⟨[.val true R6],[(false,RR)]⟩,u7 (N.Pv n)⟩
theorem SX(n:Nat):FO 15 (S5 n):=mk Rr n Tryd.func15 rfl (cn (Si n) (cn (R9 n) nl))
def s6(n:Nat):Ly:=⟨⟨[.val false [.str]],[(true,SR),(false,RR)]⟩,N.Pt n⟩
theorem S0(n:Nat):FO 6 (s6 n):=mk (SB [] [] [] [(1000000,[7])]) n Tryd.func6 rfl (cn (SX n) (cn (SJ n) (cn (Sb n) (cn (Sc n) nl))))
def TN(n:Nat):Ly:=⟨⟨[.val true [I,I],.val true [I,I]],[(false,RR)]⟩,u4 N.QV⟩
theorem Sl(n:Nat):FO 40 (TN n):=mk Rr n Tryd.func40 rfl nl
def TC(n:Nat):Ly:=⟨⟨[.val false [RQ],.val false [RQ]],[(false,RR)]⟩,u2 (N.QD n)⟩
theorem Sd(n:Nat):FO 24 (TC n):=mk (R4 [(0,[.slot 5 I],true)]) n Tryd.func24 rfl (cn (Sl n) nl)
def s7(n:Nat):Ly:=⟨⟨[.val true R6,.val true R6],[(false,RR)]⟩,TQ (N.QG n)⟩
theorem S1(n:Nat):FO 7 (s7 n):=mk Rr n Tryd.func7 rfl (cn (Sd n) nl)
def TD(n:Nat):Ly:=⟨⟨[.row false [(RQ,2)],.val false [I]],[(false,[(I,0)])]⟩,u2 (N.P3 n)⟩
theorem Se(n:Nat):FO 25 (TD n):=mk (R4 [(0,[.slot 1 I,.slot 5 I,.own 0 40 k1 2 true],false)]) n Tryd.func25 rfl nl
def s8(n:Nat):Ly:=⟨⟨[.row true SR,.val false [I]],[(false,[(I,0)])]⟩,u8 (N.QE n)⟩
theorem S2(n:Nat):FO 8 (s8 n):=mk Rr n Tryd.func8 rfl (cn (Se n) nl)
def TE(n:Nat):Ly:=⟨⟨[.val false [RQ],.val false [I]],[(false,[(I,0)])]⟩,u2 (N.P2 n)⟩
theorem Sf(n:Nat):FO 26 (TE n):=mk (R4 [(0,[.slot 1 I,.slot 5 I],true)]) n Tryd.func26 rfl nl
def s9(n:Nat):Ly:=⟨⟨[.val true R6,.val false [I]],[(false,[(I,0)])]⟩,u8 (N.P1 n)⟩
theorem S3(n:Nat):FO 9 (s9 n):=mk Rr n Tryd.func9 rfl (cn (Sf n) nl)
def s3(n:Nat):Ly:=⟨⟨[.val false [.str]],[(false,RR)]⟩,N.Pw n⟩
theorem Sy(n:Nat):FO 3 (s3 n):=mk Rr n Tryd.func3 rfl (cn (Sz n) (cn (S0 n) (cn (S1 n) (cn (S2 n) (cn (S3 n) nl)))))
end Go.Proofs.YtddkakpbnplbjaaDoor.Ev
