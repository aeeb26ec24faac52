/- Tables of types; summaries of the functions. Conditions: none. -/
import Derived.Test.YtglbgceejloiaaaLib4
import Derived.Test.YtglbgceejloiaaaFnDispatchedNat
import Derived.Test.YtglbgceejloiaaaProg
import Derived.KernelRfl
namespace Go.Proofs.Ytglbgceejloiaaa.Ev
open Go Go.Ev Go.Proofs
set_option linter.unusedVariables false
set_option maxRecDepth 100000
abbrev I : L := .int .i64
abbrev TT : List (String × Array Value) := []
def k0 : Ls := (.cons .str (.one (.int .u64)))
def k1 : Ls := (.cons I (.one I))
def k2 : Ls := (.cons I (.cons I (.one I)))
def k3 : Ls := (.cons I (.cons I (.cons .bool (.one (.int .u8)))))
def k4 : Ls := (.cons I (.cons I (.cons I (.one I))))
def k5 : Ls := (.cons I (.cons I (.cons I (.cons .bool (.one I)))))
def k6 : Ls := (.cons I (.cons I (.one (.sl 3 (.one I)))))
def k7 : Ls := (.cons I (.cons I (.one (.sl 109 k2))))
def k8 : Ls := (.cons (.sl 5 (.one (.int .u8))) (.cons I (.one I)))
def k9 : Ls := (.cons I (.cons I (.one (.sl 218 k2))))
def k10 : Ls := (.cons I (.cons I (.cons (.sl 61 k1) (.cons (.sl 170 k2) (.one I)))))
def jl : Ls := (.cons I (.one (.sl 54 k10)))
def jm : Ls := (.cons I (.cons I (.cons (.sl 3 (.one I)) (.cons (.sl 104 k7) (.cons I (.cons (.sl 54 k10) (.cons (.sl 43 k5) (.cons (.sl 75 k4) (.cons (.sl 3 (.one I)) (.cons (.sl 3 (.one I)) (.one I)))))))))))
def tbl : List (Nat × Ty) := [
 (3, ⟨false, (.one I), [], false⟩),
 (4, ⟨false, (.one .bool), [], false⟩),
 (5, ⟨false, (.one (.int .u8)), [], false⟩),
 (9, ⟨false, (.one .str), [], false⟩),
 (22, ⟨false, (.one (.sl 5 (.one (.int .u8)))), [], false⟩),
 (24, ⟨false, (.one (.sl 3 (.one I))), [], false⟩),
 (26, ⟨true, k6, [(0, 3), (1, 3), (2, 24)], false⟩),
 (27, ⟨false, (.one (.sl 104 k7)), [], false⟩),
 (29, ⟨true, (.one (.sl 104 k7)), [(0, 27)], false⟩),
 (35, ⟨false, (.one (.sl 43 k5)), [], false⟩),
 (36, ⟨false, (.one (.sl 75 k4)), [], false⟩),
 (43, ⟨true, k5, [(0, 3), (1, 3), (2, 3), (3, 4), (4, 3)], true⟩),
 (75, ⟨true, k4, [(0, 3), (1, 3), (2, 3), (3, 3)], true⟩),
 (102, ⟨false, (.one (.sl 109 k2)), [], false⟩),
 (104, ⟨true, k7, [(0, 3), (1, 3), (2, 102)], false⟩),
 (109, ⟨true, k2, [(0, 3), (1, 3), (2, 3)], true⟩),
 (138, ⟨false, (.one (.sl 24 (.one (.sl 3 (.one I))))), [], false⟩),
 (161, ⟨true, k8, [(0, 22), (1, 3), (2, 3)], false⟩),
 (177, ⟨false, (.one (.sl 4 (.one .bool))), [], false⟩),
 (197, ⟨false, (.one (.sl 9 (.one .str))), [], false⟩)]
theorem PO : tbl.all (fun p => Oi Try.prog p.1 p.2) = true := by kernel_rfl
theorem follows : Try.prog.follows .mixedOrders = true := by kernel_rfl
def iy : Sm := ⟨[.val false [(.sl 5 (.one (.int .u8)))]], [(false, [(.bool, 0)])]⟩
def jD : An := ⟨fun _ => none,
 fun _ => none,
 fun _ => none,
 fun _ => []⟩
def s7 (n : Nat) : Mz := ⟨iy, fun x => N.Th x⟩
def gn (n : Nat) : List (FuncId × Mz) := []
theorem cG : Mw Try.prog 7 := ⟨_, _, Try.func7, rfl, by kernel_rfl⟩
theorem jb (n : Nat) (x : iy.ins.D) : L9 (find tbl) (plain (gn n)) jD n Try.f7 iy x = N.Th x := by kernel_rfl
theorem jh (n : Nat) : K6 Try.prog TT 7 (s7 n) := OJ (an := jD) (n := n) Try.func7 rfl (by kernel_rfl) PO (OI Oc) follows (jb n)
def aj : Sm := ⟨[.val false [(.sl 5 (.one (.int .u8)))]], [(false, [((.sl 5 (.one (.int .u8))), 0), (I, 0), (I, 0)])]⟩
def bY : An := ⟨fun _ => none,
 fun b => match b with
  | 0 => some ([.slot 3 I, .slot 4 I], false)
  | _ => none,
 fun _ => none,
 fun _ => []⟩
def jP (n : Nat) : Mz := ⟨aj, fun x => N.Sj n x⟩
def cU (n : Nat) : List (FuncId × Mz) := []
theorem ZR : Mw Try.prog 53 := ⟨_, _, Try.func53, rfl, by kernel_rfl⟩
theorem hZ (n : Nat) (x : aj.ins.D) : L9 (find tbl) (plain (cU n)) bY n Try.f53 aj x = N.Sj n x := by kernel_rfl
theorem iW (n : Nat) : K6 Try.prog TT 53 (jP n) := OJ (an := bY) (n := n) Try.func53 rfl (by kernel_rfl) PO (OI Oc) follows (hZ n)
def XV : Sm := ⟨[.box [((.sl 5 (.one (.int .u8))), 0), (I, 0), (I, 0)]], [(false, [(I, 0)])]⟩
def Y2 : An := ⟨fun _ => none,
 fun _ => none,
 fun b => match b with
  | 12 => some ([.slot 3 I, .box 0 [some ((.sl 5 (.one (.int .u8))), 0), some (I, 0), some (I, 0)]], false)
  | _ => none,
 fun _ => []⟩
def gL (n : Nat) : Mz := ⟨XV, fun x => N.QP x.1 x.2.1 x.2.2⟩
def Z6 (n : Nat) : List (FuncId × Mz) := []
theorem YF : Mw Try.prog 167 := ⟨_, _, Try.func167, rfl, by kernel_rfl⟩
theorem dg (n : Nat) (x : XV.ins.D) : L9 (find tbl) (plain (Z6 n)) Y2 n Try.f167 XV x = N.QP x.1 x.2.1 x.2.2 := by kernel_rfl
theorem ez (n : Nat) : K6 Try.prog TT 167 (gL n) := OJ (an := Y2) (n := n) Try.func167 rfl (by kernel_rfl) PO (OI Oc) follows (dg n)
def XE : Sm := ⟨[.box [((.sl 5 (.one (.int .u8))), 0), (I, 0), (I, 0)], .val false [I]], [(false, [(I, 0)])]⟩
def Yl : An := ⟨fun _ => none,
 fun _ => none,
 fun _ => none,
 fun _ => []⟩
def Ux (n : Nat) : Mz := ⟨XE, fun x => N.PK x.1 x.2.1 x.2.2.1 x.2.2.2⟩
def Zp (n : Nat) : List (FuncId × Mz) := [(167, gL n)]
theorem SX : Mw Try.prog 127 := ⟨_, _, Try.func127, rfl, by kernel_rfl⟩
theorem dN (n : Nat) (x : XE.ins.D) : L9 (find tbl) (plain (Zp n)) Yl n Try.f127 XE x = N.PK x.1 x.2.1 x.2.2.1 x.2.2.2 := by kernel_rfl
theorem Tj (n : Nat) : K6 Try.prog TT 127 (Ux n) := OJ (an := Yl) (n := n) Try.func127 rfl (by kernel_rfl) PO (OI (OQ (ez n) YF Oc)) follows (dN n)
def aq : Sm := ⟨[.box [((.sl 5 (.one (.int .u8))), 0), (I, 0), (I, 0)], .val false [I]], [(false, [(.bool, 0)])]⟩
def bc : An := ⟨fun _ => none,
 fun _ => none,
 fun _ => none,
 fun _ => []⟩
def ZJ (n : Nat) : Mz := ⟨aq, fun x => N.Pa x.1 x.2.1 x.2.2.1 x.2.2.2⟩
def cX (n : Nat) : List (FuncId × Mz) := [(127, Ux n)]
theorem Ta : Mw Try.prog 57 := ⟨_, _, Try.func57, rfl, by kernel_rfl⟩
theorem iC (n : Nat) (x : aq.ins.D) : L9 (find tbl) (plain (cX n)) bc n Try.f57 aq x = N.Pa x.1 x.2.1 x.2.2.1 x.2.2.2 := by kernel_rfl
theorem Vr (n : Nat) : K6 Try.prog TT 57 (ZJ n) := OJ (an := bc) (n := n) Try.func57 rfl (by kernel_rfl) PO (OI (OQ (Tj n) SX Oc)) follows (iC n)
def XU : Sm := ⟨[.box [((.sl 5 (.one (.int .u8))), 0), (I, 0), (I, 0)], .val false [(.sl 9 (.one .str))]], [(false, [(.str, 0)])]⟩
def Y1 : An := ⟨fun _ => none,
 fun _ => none,
 fun _ => none,
 fun _ => []⟩
def gK (n : Nat) : Mz := ⟨XU, fun x => N.Sk x.1 x.2.1 x.2.2.1 x.2.2.2⟩
def Z5 (n : Nat) : List (FuncId × Mz) := [(127, Ux n)]
theorem YE : Mw Try.prog 166 := ⟨_, _, Try.func166, rfl, by kernel_rfl⟩
theorem de (n : Nat) (x : XU.ins.D) : L9 (find tbl) (plain (Z5 n)) Y1 n Try.f166 XU x = N.Sk x.1 x.2.1 x.2.2.1 x.2.2.2 := by kernel_rfl
theorem eu (n : Nat) : K6 Try.prog TT 166 (gK n) := OJ (an := Y1) (n := n) Try.func166 rfl (by kernel_rfl) PO (OI (OQ (Tj n) SX Oc)) follows (de n)
def Xb : Sm := ⟨[.val false [.str], .val false [(.int .u8)]], [(false, [((.sl 9 (.one .str)), 2)])]⟩
def Y8 : An := ⟨fun _ => none,
 fun b => match b with
  | 0 => some ([.own 5 9 (.one .str) 2 false, .slot 6 I, .slot 7 I], false)
  | _ => none,
 fun b => match b with
  | 7 => some ([.own 5 9 (.one .str) 2 false, .slot 6 I], false)
  | _ => none,
 fun _ => []⟩
def gQ (n : Nat) : Mz := ⟨Xb, fun x => N.Rw n x.1 x.2⟩
def aC (n : Nat) : List (FuncId × Mz) := []
theorem YK : Mw Try.prog 184 := ⟨_, _, Try.func184, rfl, by kernel_rfl⟩
theorem dv (n : Nat) (x : Xb.ins.D) : L9 (find tbl) (plain (aC n)) Y8 n Try.f184 Xb x = N.Rw n x.1 x.2 := by kernel_rfl
theorem fF (n : Nat) : K6 Try.prog TT 184 (gQ n) := OJ (an := Y8) (n := n) Try.func184 rfl (by kernel_rfl) PO (OI Oc) follows (dv n)
def ay : Sm := ⟨[.val false [I], .val false [I], .val false [I]], [(false, [(.bool, 0)])]⟩
def bj : An := ⟨fun _ => none,
 fun _ => none,
 fun _ => none,
 fun _ => []⟩
def Xk (n : Nat) : Mz := ⟨ay, fun x => N.PN x.1 x.2.1 x.2.2⟩
def cf (n : Nat) : List (FuncId × Mz) := []
theorem S4 : Mw Try.prog 67 := ⟨_, _, Try.func67, rfl, by kernel_rfl⟩
theorem iG (n : Nat) (x : ay.ins.D) : L9 (find tbl) (plain (cf n)) bj n Try.f67 ay x = N.PN x.1 x.2.1 x.2.2 := by kernel_rfl
theorem VG (n : Nat) : K6 Try.prog TT 67 (Xk n) := OJ (an := bj) (n := n) Try.func67 rfl (by kernel_rfl) PO (OI Oc) follows (iG n)
def Xc : Sm := ⟨[.val false [(.int .u8)]], [(false, [(I, 0)])]⟩
def Y9 : An := ⟨fun _ => none,
 fun b => match b with
  | 0 => some ([.slot 3 I], true)
  | _ => none,
 fun _ => none,
 fun _ => []⟩
def gR (n : Nat) : Mz := ⟨Xc, fun x => N.SH n x⟩
def aD (n : Nat) : List (FuncId × Mz) := []
theorem YL : Mw Try.prog 185 := ⟨_, _, Try.func185, rfl, by kernel_rfl⟩
theorem dw (n : Nat) (x : Xc.ins.D) : L9 (find tbl) (plain (aD n)) Y9 n Try.f185 Xc x = N.SH n x := by kernel_rfl
theorem fG (n : Nat) : K6 Try.prog TT 185 (gR n) := OJ (an := Y9) (n := n) Try.func185 rfl (by kernel_rfl) PO (OI Oc) follows (dw n)
def XT : Sm := ⟨[.val false [.str]], [(true, [(I, 0), (I, 0), ((.sl 3 (.one I)), 2)]), (false, [(I, 0)])]⟩
def Y0 : An := ⟨fun _ => none,
 fun b => match b with
  | 0 => some ([.slot 6 I, .box 2 [some (I, 0), some (I, 0), some ((.sl 3 (.one I)), 2)], .box 5 [some (I, 0), some (I, 0), some ((.sl 3 (.one I)), 2)]], true)
  | 2 => some ([.slot 8 I, .box 2 [some (I, 0), some (I, 0), some ((.sl 3 (.one I)), 2)], .box 5 [some (I, 0), some (I, 0), some ((.sl 3 (.one I)), 2)]], true)
  | _ => none,
 fun _ => none,
 fun _ => []⟩
def gJ (n : Nat) : Mz := ⟨XT, fun x => N.Pf n x⟩
def Z4 (n : Nat) : List (FuncId × Mz) := [(67, Xk n), (184, gQ n), (185, gR n)]
theorem YD : Mw Try.prog 165 := ⟨_, _, Try.func165, rfl, by kernel_rfl⟩
theorem dc (n : Nat) (x : XT.ins.D) : L9 (find tbl) (plain (Z4 n)) Y0 n Try.f165 XT x = N.Pf n x := by kernel_rfl
theorem ek (n : Nat) : K6 Try.prog TT 165 (gJ n) := OJ (an := Y0) (n := n) Try.func165 rfl (by kernel_rfl) PO (OI (OQ (VG n) S4 (OQ (fF n) YK (OQ (fG n) YL Oc)))) follows (dc n)
def bA : Sm := ⟨[.box [((.sl 5 (.one (.int .u8))), 0), (I, 0), (I, 0)], .val false [(.sl 3 (.one I))]], [(false, [(I, 0)])]⟩
def bw : An := ⟨fun _ => none,
 fun _ => none,
 fun _ => none,
 fun _ => []⟩
def aT (n : Nat) : Mz := ⟨bA, fun x => N.PZ x.1 x.2.1 x.2.2.1 x.2.2.2⟩
def ck (n : Nat) : List (FuncId × Mz) := [(127, Ux n)]
theorem Tv : Mw Try.prog 79 := ⟨_, _, Try.func79, rfl, by kernel_rfl⟩
theorem iI (n : Nat) (x : bA.ins.D) : L9 (find tbl) (plain (ck n)) bw n Try.f79 bA x = N.PZ x.1 x.2.1 x.2.2.1 x.2.2.2 := by kernel_rfl
theorem WV (n : Nat) : K6 Try.prog TT 79 (aT n) := OJ (an := bw) (n := n) Try.func79 rfl (by kernel_rfl) PO (OI (OQ (Tj n) SX Oc)) follows (iI n)
def XD : Sm := ⟨[.box [((.sl 5 (.one (.int .u8))), 0), (I, 0), (I, 0)]], [(true, [(I, 0), (I, 0), ((.sl 3 (.one I)), 2)])]⟩
def Yk : An := ⟨fun _ => none,
 fun b => match b with
  | 0 => some ([.slot 6 I, .box 0 [some ((.sl 5 (.one (.int .u8))), 0), some (I, 0), some (I, 0)], .box 5 [some (I, 0), some (I, 0), some ((.sl 3 (.one I)), 2)]], false)
  | _ => none,
 fun _ => none,
 fun _ => []⟩
def fp (n : Nat) : Mz := ⟨XD, fun x => N.Ru n x.1 x.2.1 x.2.2⟩
def Zo (n : Nat) : List (FuncId × Mz) := [(57, ZJ n), (79, aT n), (127, Ux n), (165, gJ n), (166, gK n)]
theorem Xz : Mw Try.prog 126 := ⟨_, _, Try.func126, rfl, by kernel_rfl⟩
theorem dM (n : Nat) (x : XD.ins.D) : L9 (find tbl) (plain (Zo n)) Yk n Try.f126 XD x = N.Ru n x.1 x.2.1 x.2.2 := by kernel_rfl
theorem eQ (n : Nat) : K6 Try.prog TT 126 (fp n) := OJ (an := Yk) (n := n) Try.func126 rfl (by kernel_rfl) PO (OI (OQ (Vr n) Ta (OQ (WV n) Tv (OQ (Tj n) SX (OQ (ek n) YD (OQ (eu n) YE Oc)))))) follows (dM n)
def XW : Sm := ⟨[.val true [I, I, (.sl 3 (.one I))]], [(false, [((.sl 3 (.one I)), 2)])]⟩
def Y3 : An := ⟨fun _ => none,
 fun b => match b with
  | 0 => some ([.own 3 3 (.one I) 2 false, .slot 4 I], false)
  | _ => none,
 fun b => match b with
  | 7 => some ([.own 3 3 (.one I) 2 false], false)
  | _ => none,
 fun _ => []⟩
def gM (n : Nat) : Mz := ⟨XW, fun x => N.Re n x.1 x.2.1 x.2.2⟩
def Z7 (n : Nat) : List (FuncId × Mz) := []
theorem YG : Mw Try.prog 176 := ⟨_, _, Try.func176, rfl, by kernel_rfl⟩
theorem dh (n : Nat) (x : XW.ins.D) : L9 (find tbl) (plain (Z7 n)) Y3 n Try.f176 XW x = N.Re n x.1 x.2.1 x.2.2 := by kernel_rfl
theorem fA (n : Nat) : K6 Try.prog TT 176 (gM n) := OJ (an := Y3) (n := n) Try.func176 rfl (by kernel_rfl) PO (OI Oc) follows (dh n)
def XJ : Sm := ⟨[.box [((.sl 5 (.one (.int .u8))), 0), (I, 0), (I, 0)], .val true [I, I, (.sl 3 (.one I))], .val false [I]], [(false, [((.sl 43 k5), 2)])]⟩
def Yq : An := ⟨fun _ => none,
 fun b => match b with
  | 0 => some ([.own 7 43 k5 2 false, .own 8 3 (.one I) 2 false, .slot 9 I, .box 0 [some ((.sl 5 (.one (.int .u8))), 0), some (I, 0), some (I, 0)]], false)
  | _ => none,
 fun b => match b with
  | 30 => some ([.box 0 [some ((.sl 5 (.one (.int .u8))), 0), some (I, 0), some (I, 0)], .box 12 [some (I, 0), some (I, 0), some (I, 0), some (.bool, 0), some (I, 0)]], false)
  | _ => none,
 fun _ => []⟩
def fy (n : Nat) : Mz := ⟨XJ, fun x => N.SQ n x.1 x.2.1 x.2.2.1 x.2.2.2.1 x.2.2.2.2.1 x.2.2.2.2.2.1 x.2.2.2.2.2.2⟩
def Zu (n : Nat) : List (FuncId × Mz) := [(57, ZJ n), (79, aT n), (127, Ux n), (176, gM n)]
theorem X3 : Mw Try.prog 151 := ⟨_, _, Try.func151, rfl, by kernel_rfl⟩
theorem dS (n : Nat) (x : XJ.ins.D) : L9 (find tbl) (plain (Zu n)) Yq n Try.f151 XJ x = N.SQ n x.1 x.2.1 x.2.2.1 x.2.2.2.1 x.2.2.2.2.1 x.2.2.2.2.2.1 x.2.2.2.2.2.2 := by kernel_rfl
theorem eU (n : Nat) : K6 Try.prog TT 151 (fy n) := OJ (an := Yq) (n := n) Try.func151 rfl (by kernel_rfl) PO (OI (OQ (Vr n) Ta (OQ (WV n) Tv (OQ (Tj n) SX (OQ (fA n) YG Oc))))) follows (dS n)
def XK : Sm := ⟨[.box [((.sl 5 (.one (.int .u8))), 0), (I, 0), (I, 0)], .val false [(.sl 43 k5)]], [(false, [((.sl 43 k5), 2)])]⟩
def Yr : An := ⟨fun _ => none,
 fun _ => none,
 fun b => match b with
  | 18 => some ([.box 0 [some ((.sl 5 (.one (.int .u8))), 0), some (I, 0), some (I, 0)], .own 5 43 k5 2 false], false)
  | _ => none,
 fun _ => []⟩
def gA (n : Nat) : Mz := ⟨XK, fun x => N.SP x.1 x.2.1 x.2.2.1 x.2.2.2⟩
def Zv (n : Nat) : List (FuncId × Mz) := [(79, aT n), (127, Ux n)]
theorem X4 : Mw Try.prog 152 := ⟨_, _, Try.func152, rfl, by kernel_rfl⟩
theorem dT (n : Nat) (x : XK.ins.D) : L9 (find tbl) (plain (Zv n)) Yr n Try.f152 XK x = N.SP x.1 x.2.1 x.2.2.1 x.2.2.2 := by kernel_rfl
theorem eV (n : Nat) : K6 Try.prog TT 152 (gA n) := OJ (an := Yr) (n := n) Try.func152 rfl (by kernel_rfl) PO (OI (OQ (WV n) Tv (OQ (Tj n) SX Oc))) follows (dT n)
def bC : Sm := ⟨[.box [((.sl 5 (.one (.int .u8))), 0), (I, 0), (I, 0)]], [(true, [(I, 0), (I, 0), ((.sl 3 (.one I)), 0)]), (false, [((.sl 43 k5), 2)])]⟩
def cB : An := ⟨fun _ => none,
 fun _ => none,
 fun b => match b with
  | 12 => some ([.own 5 43 k5 2 false, .box 0 [some ((.sl 5 (.one (.int .u8))), 0), some (I, 0), some (I, 0)]], false)
  | _ => none,
 fun _ => []⟩
def jT (n : Nat) : Mz := ⟨bC, fun x => N.Qt n x.1 x.2.1 x.2.2⟩
def cq (n : Nat) : List (FuncId × Mz) := [(57, ZJ n), (79, aT n), (126, fp n), (151, fy n), (152, gA n)]
theorem ZV : Mw Try.prog 97 := ⟨_, _, Try.func97, rfl, by kernel_rfl⟩
theorem iK (n : Nat) (x : bC.ins.D) : L9 (find tbl) (plain (cq n)) cB n Try.f97 bC x = N.Qt n x.1 x.2.1 x.2.2 := by kernel_rfl
theorem ia (n : Nat) : K6 Try.prog TT 97 (jT n) := OJ (an := cB) (n := n) Try.func97 rfl (by kernel_rfl) PO (OI (OQ (Vr n) Ta (OQ (WV n) Tv (OQ (eQ n) Xz (OQ (eU n) X3 (OQ (eV n) X4 Oc)))))) follows (iK n)
def XF : Sm := ⟨[.box [((.sl 5 (.one (.int .u8))), 0), (I, 0), (I, 0)]], [(true, [((.sl 104 k7), 2)])]⟩
def Ym : An := ⟨fun _ => none,
 fun b => match b with
  | 0 => some ([.slot 4 I, .box 0 [some ((.sl 5 (.one (.int .u8))), 0), some (I, 0), some (I, 0)], .box 3 [some ((.sl 104 k7), 2)]], false)
  | 2 => some ([.slot 6 I, .box 0 [some ((.sl 5 (.one (.int .u8))), 0), some (I, 0), some (I, 0)], .box 5 [some (I, 0), some (I, 0), some ((.sl 109 k2), 2)]], false)
  | _ => none,
 fun b => match b with
  | 7 => some ([.box 0 [some ((.sl 5 (.one (.int .u8))), 0), some (I, 0), some (I, 0)], .box 3 [some ((.sl 104 k7), 2)]], false)
  | 13 => some ([.box 0 [some ((.sl 5 (.one (.int .u8))), 0), some (I, 0), some (I, 0)], .box 5 [some (I, 0), some (I, 0), some ((.sl 109 k2), 2)]], false)
  | _ => none,
 fun _ => []⟩
def fq (n : Nat) : Mz := ⟨XF, fun x => N.SO n x.1 x.2.1 x.2.2⟩
def Zq (n : Nat) : List (FuncId × Mz) := [(57, ZJ n), (79, aT n), (127, Ux n)]
theorem X0 : Mw Try.prog 128 := ⟨_, _, Try.func128, rfl, by kernel_rfl⟩
theorem dO (n : Nat) (x : XF.ins.D) : L9 (find tbl) (plain (Zq n)) Ym n Try.f128 XF x = N.SO n x.1 x.2.1 x.2.2 := by kernel_rfl
theorem eR (n : Nat) : K6 Try.prog TT 128 (fq n) := OJ (an := Ym) (n := n) Try.func128 rfl (by kernel_rfl) PO (OI (OQ (Vr n) Ta (OQ (WV n) Tv (OQ (Tj n) SX Oc)))) follows (dO n)
def ax : Sm := ⟨[.val true [(.sl 104 k7)]], [(true, [((.sl 104 k7), 2)])]⟩
def bh : An := ⟨fun _ => none,
 fun b => match b with
  | 0 => some ([.slot 4 I, .box 3 [some ((.sl 104 k7), 2)]], false)
  | _ => none,
 fun _ => none,
 fun _ => []⟩
def jR (n : Nat) : Mz := ⟨ax, fun x => N.SN n x⟩
def ca (n : Nat) : List (FuncId × Mz) := []
theorem ZT : Mw Try.prog 66 := ⟨_, _, Try.func66, rfl, by kernel_rfl⟩
theorem iF (n : Nat) (x : ax.ins.D) : L9 (find tbl) (plain (ca n)) bh n Try.f66 ax x = N.SN n x := by kernel_rfl
theorem iY (n : Nat) : K6 Try.prog TT 66 (jR n) := OJ (an := bh) (n := n) Try.func66 rfl (by kernel_rfl) PO (OI Oc) follows (iF n)
def XG : Sm := ⟨[.box [((.sl 5 (.one (.int .u8))), 0), (I, 0), (I, 0)], .val true [(.sl 104 k7)]], [(true, [((.sl 104 k7), 0)])]⟩
def Yn : An := ⟨fun _ => none,
 fun _ => none,
 fun b => match b with
  | 18 => some ([.box 0 [some ((.sl 5 (.one (.int .u8))), 0), some (I, 0), some (I, 0)], .box 5 [some ((.sl 104 k7), 0)]], false)
  | _ => none,
 fun _ => []⟩
def fu (n : Nat) : Mz := ⟨XG, fun x => N.SL n x.1 x.2.1 x.2.2.1 x.2.2.2⟩
def Zr (n : Nat) : List (FuncId × Mz) := [(66, jR n), (79, aT n), (127, Ux n)]
theorem X1 : Mw Try.prog 129 := ⟨_, _, Try.func129, rfl, by kernel_rfl⟩
theorem dP (n : Nat) (x : XG.ins.D) : L9 (find tbl) (plain (Zr n)) Yn n Try.f129 XG x = N.SL n x.1 x.2.1 x.2.2.1 x.2.2.2 := by kernel_rfl
theorem eS (n : Nat) : K6 Try.prog TT 129 (fu n) := OJ (an := Yn) (n := n) Try.func129 rfl (by kernel_rfl) PO (OI (OQ (iY n) ZT (OQ (WV n) Tv (OQ (Tj n) SX Oc)))) follows (dP n)
def ak : Sm := ⟨[.box [((.sl 5 (.one (.int .u8))), 0), (I, 0), (I, 0)]], [(true, [((.sl 104 k7), 0)])]⟩
def bZ : An := ⟨fun _ => none,
 fun _ => none,
 fun b => match b with
  | 9 => some ([.box 0 [some ((.sl 5 (.one (.int .u8))), 0), some (I, 0), some (I, 0)], .box 3 [some ((.sl 104 k7), 0)]], false)
  | _ => none,
 fun _ => []⟩
def jQ (n : Nat) : Mz := ⟨ak, fun x => N.Qr n x.1 x.2.1 x.2.2⟩
def cV (n : Nat) : List (FuncId × Mz) := [(57, ZJ n), (128, fq n), (129, fu n)]
theorem ZS : Mw Try.prog 55 := ⟨_, _, Try.func55, rfl, by kernel_rfl⟩
theorem iA (n : Nat) (x : ak.ins.D) : L9 (find tbl) (plain (cV n)) bZ n Try.f55 ak x = N.Qr n x.1 x.2.1 x.2.2 := by kernel_rfl
theorem iX (n : Nat) : K6 Try.prog TT 55 (jQ n) := OJ (an := bZ) (n := n) Try.func55 rfl (by kernel_rfl) PO (OI (OQ (Vr n) Ta (OQ (eR n) X0 (OQ (eS n) X1 Oc)))) follows (iA n)
def af : Sm := ⟨[.val false [(.sl 75 k4)]], [(false, [(.bool, 0)])]⟩
def bU : An := ⟨fun _ => none,
 fun b => match b with
  | 0 => some ([.slot 3 I], true)
  | 2 => some ([.slot 6 I], true)
  | _ => none,
 fun _ => none,
 fun _ => []⟩
def gh (n : Nat) : Mz := ⟨af, fun x => N.P7 n x⟩
def cQ (n : Nat) : List (FuncId × Mz) := [(67, Xk n)]
theorem Vc : Mw Try.prog 31 := ⟨_, _, Try.func31, rfl, by kernel_rfl⟩
theorem gy (n : Nat) (x : af.ins.D) : L9 (find tbl) (plain (cQ n)) bU n Try.f31 af x = N.P7 n x := by kernel_rfl
theorem aI (n : Nat) : K6 Try.prog TT 31 (gh n) := OJ (an := bU) (n := n) Try.func31 rfl (by kernel_rfl) PO (OI (OQ (VG n) S4 Oc)) follows (gy n)
def bD : Sm := ⟨[.box [((.sl 5 (.one (.int .u8))), 0), (I, 0), (I, 0)]], [(false, [((.sl 75 k4), 2)])]⟩
def cD : An := ⟨fun b => match b with
  | 10 => some [.slot 43 .bool, .box 0 [some ((.sl 5 (.one (.int .u8))), 0), some (I, 0), some (I, 0)]]
  | _ => none,
 fun b => match b with
  | 0 => some ([.own 3 75 k4 2 false, .slot 4 I, .box 0 [some ((.sl 5 (.one (.int .u8))), 0), some (I, 0), some (I, 0)]], false)
  | _ => none,
 fun b => match b with
  | 7 => some ([.own 3 75 k4 2 false, .box 0 [some ((.sl 5 (.one (.int .u8))), 0), some (I, 0), some (I, 0)]], false)
  | 21 => some ([.box 0 [some ((.sl 5 (.one (.int .u8))), 0), some (I, 0), some (I, 0)], .box 5 [some (I, 0), some (I, 0), some (I, 0), some (I, 0)]], false)
  | _ => none,
 fun _ => []⟩
def jU (n : Nat) : Mz := ⟨bD, fun x => N.RK n x.1 x.2.1 x.2.2⟩
def ct (n : Nat) : List (FuncId × Mz) := [(31, gh n), (57, ZJ n), (127, Ux n)]
theorem ZW : Mw Try.prog 98 := ⟨_, _, Try.func98, rfl, by kernel_rfl⟩
theorem iL (n : Nat) (x : bD.ins.D) : L9 (find tbl) (plain (ct n)) cD n Try.f98 bD x = N.RK n x.1 x.2.1 x.2.2 := by kernel_rfl
theorem ib (n : Nat) : K6 Try.prog TT 98 (jU n) := OJ (an := cD) (n := n) Try.func98 rfl (by kernel_rfl) PO (OI (OQ (aI n) Vc (OQ (Vr n) Ta (OQ (Tj n) SX Oc)))) follows (iL n)
def aW : Sm := ⟨[.val false [(.sl 5 (.one (.int .u8)))]], [(true, [(I, 0), (I, 0), ((.sl 3 (.one I)), 0)]), (true, [((.sl 104 k7), 0)]), (false, [((.sl 43 k5), 2)]), (false, [((.sl 75 k4), 2)])]⟩
def bO : An := ⟨fun _ => none,
 fun b => match b with
  | 0 => some ([.slot 9 I, .own 8 43 k5 2 false, .box 11 [some ((.sl 5 (.one (.int .u8))), 0), some (I, 0), some (I, 0)]], false)
  | _ => none,
 fun b => match b with
  | 7 => some ([.own 8 43 k5 2 false, .box 11 [some ((.sl 5 (.one (.int .u8))), 0), some (I, 0), some (I, 0)]], false)
  | _ => none,
 fun _ => []⟩
def jK (n : Nat) : Mz := ⟨aW, fun x => N.P6 n x⟩
def cK (n : Nat) : List (FuncId × Mz) := [(53, jP n), (55, jQ n), (57, ZJ n), (97, jT n), (98, jU n)]
theorem ZM : Mw Try.prog 25 := ⟨_, _, Try.func25, rfl, by kernel_rfl⟩
theorem gq (n : Nat) (x : aW.ins.D) : L9 (find tbl) (plain (cK n)) bO n Try.f25 aW x = N.P6 n x := by kernel_rfl
theorem iR (n : Nat) : K6 Try.prog TT 25 (jK n) := OJ (an := bO) (n := n) Try.func25 rfl (by kernel_rfl) PO (OI (OQ (iW n) ZR (OQ (iX n) ZS (OQ (Vr n) Ta (OQ (ia n) ZV (OQ (ib n) ZW Oc)))))) follows (gq n)
def bE : Sm := ⟨[.val false [(.sl 43 k5)]], [(false, [((.sl 43 k5), 2)])]⟩
def cE : An := ⟨fun _ => none,
 fun _ => none,
 fun _ => none,
 fun _ => []⟩
def jV (n : Nat) : Mz := ⟨bE, fun x => N.Q9 x⟩
def cu (n : Nat) : List (FuncId × Mz) := []
theorem ZX : Mw Try.prog 99 := ⟨_, _, Try.func99, rfl, by kernel_rfl⟩
theorem iM (n : Nat) (x : bE.ins.D) : L9 (find tbl) (plain (cu n)) cE n Try.f99 bE x = N.Q9 x := by kernel_rfl
theorem ic (n : Nat) : K6 Try.prog TT 99 (jV n) := OJ (an := cE) (n := n) Try.func99 rfl (by kernel_rfl) PO (OI Oc) follows (iM n)
def Ww : Sm := ⟨[.val false [(.sl 75 k4)]], [(false, [((.sl 75 k4), 2)])]⟩
def YW : An := ⟨fun _ => none,
 fun _ => none,
 fun _ => none,
 fun _ => []⟩
def fU (n : Nat) : Mz := ⟨Ww, fun x => N.Qo x⟩
def ZZ (n : Nat) : List (FuncId × Mz) := []
theorem Xn : Mw Try.prog 100 := ⟨_, _, Try.func100, rfl, by kernel_rfl⟩
theorem cy (n : Nat) (x : Ww.ins.D) : L9 (find tbl) (plain (ZZ n)) YW n Try.f100 Ww x = N.Qo x := by kernel_rfl
theorem eE (n : Nat) : K6 Try.prog TT 100 (fU n) := OJ (an := YW) (n := n) Try.func100 rfl (by kernel_rfl) PO (OI Oc) follows (cy n)
def az : Sm := ⟨[.val false [I], .val false [I], .val false [I]], [(false, [(.bool, 0)])]⟩
def bq : An := ⟨fun _ => none,
 fun _ => none,
 fun _ => none,
 fun _ => []⟩
def aS (n : Nat) : Mz := ⟨az, fun x => N.PW x.1 x.2.1 x.2.2⟩
def cg (n : Nat) : List (FuncId × Mz) := []
theorem Tu : Mw Try.prog 71 := ⟨_, _, Try.func71, rfl, by kernel_rfl⟩
theorem iH (n : Nat) (x : az.ins.D) : L9 (find tbl) (plain (cg n)) bq n Try.f71 az x = N.PW x.1 x.2.1 x.2.2 := by kernel_rfl
theorem WU (n : Nat) : K6 Try.prog TT 71 (aS n) := OJ (an := bq) (n := n) Try.func71 rfl (by kernel_rfl) PO (OI Oc) follows (iH n)
def au : Sm := ⟨[.val true [I, I, (.sl 3 (.one I))]], [(false, [(.bool, 0)])]⟩
def bf : An := ⟨fun _ => none,
 fun b => match b with
  | 0 => some ([.slot 29 I], true)
  | _ => none,
 fun _ => none,
 fun _ => []⟩
def gk (n : Nat) : Mz := ⟨au, fun x => N.Qw n x.1 x.2.1 x.2.2⟩
def cY (n : Nat) : List (FuncId × Mz) := [(71, aS n)]
theorem Vd : Mw Try.prog 59 := ⟨_, _, Try.func59, rfl, by kernel_rfl⟩
theorem iD (n : Nat) (x : au.ins.D) : L9 (find tbl) (plain (cY n)) bf n Try.f59 au x = N.Qw n x.1 x.2.1 x.2.2 := by kernel_rfl
theorem aJ (n : Nat) : K6 Try.prog TT 59 (gk n) := OJ (an := bf) (n := n) Try.func59 rfl (by kernel_rfl) PO (OI (OQ (WU n) Tu Oc)) follows (iD n)
def bB : Sm := ⟨[.val true [I, I, (.sl 109 k2)]], [(false, [(.bool, 0)])]⟩
def cA : An := ⟨fun _ => none,
 fun b => match b with
  | 0 => some ([.slot 24 I], true)
  | _ => none,
 fun _ => none,
 fun _ => []⟩
def jS (n : Nat) : Mz := ⟨bB, fun x => N.Sf n x.1 x.2.1 x.2.2⟩
def cm (n : Nat) : List (FuncId × Mz) := [(71, aS n)]
theorem ZU : Mw Try.prog 93 := ⟨_, _, Try.func93, rfl, by kernel_rfl⟩
theorem iJ (n : Nat) (x : bB.ins.D) : L9 (find tbl) (plain (cm n)) cA n Try.f93 bB x = N.Sf n x.1 x.2.1 x.2.2 := by kernel_rfl
theorem iZ (n : Nat) : K6 Try.prog TT 93 (jS n) := OJ (an := cA) (n := n) Try.func93 rfl (by kernel_rfl) PO (OI (OQ (WU n) Tu Oc)) follows (iJ n)
def aV : Sm := ⟨[.val true [(.sl 104 k7)]], [(false, [(.bool, 0)])]⟩
def bN : An := ⟨fun _ => none,
 fun b => match b with
  | 0 => some ([.slot 10 I], true)
  | 2 => some ([.slot 39 I], true)
  | _ => none,
 fun _ => none,
 fun _ => []⟩
def jJ (n : Nat) : Mz := ⟨aV, fun x => N.Rm n x⟩
def cJ (n : Nat) : List (FuncId × Mz) := [(93, jS n)]
theorem ZL : Mw Try.prog 21 := ⟨_, _, Try.func21, rfl, by kernel_rfl⟩
theorem gp (n : Nat) (x : aV.ins.D) : L9 (find tbl) (plain (cJ n)) bN n Try.f21 aV x = N.Rm n x := by kernel_rfl
theorem iQ (n : Nat) : K6 Try.prog TT 21 (jJ n) := OJ (an := bN) (n := n) Try.func21 rfl (by kernel_rfl) PO (OI (OQ (iZ n) ZU Oc)) follows (gp n)
def XH : Sm := ⟨[.val true [I, I, (.sl 3 (.one I))], .val false [I]], [(false, [(.bool, 0)])]⟩
def Yo : An := ⟨fun _ => none,
 fun _ => none,
 fun _ => none,
 fun _ => []⟩
def aQ (n : Nat) : Mz := ⟨XH, fun x => N.Qp x.1 x.2.1 x.2.2.1 x.2.2.2⟩
def Zs (n : Nat) : List (FuncId × Mz) := [(71, aS n)]
theorem V2 : Mw Try.prog 130 := ⟨_, _, Try.func130, rfl, by kernel_rfl⟩
theorem dQ (n : Nat) (x : XH.ins.D) : L9 (find tbl) (plain (Zs n)) Yo n Try.f130 XH x = N.Qp x.1 x.2.1 x.2.2.1 x.2.2.2 := by kernel_rfl
theorem ZG (n : Nat) : K6 Try.prog TT 130 (aQ n) := OJ (an := Yo) (n := n) Try.func130 rfl (by kernel_rfl) PO (OI (OQ (WU n) Tu Oc)) follows (dQ n)
def aw : Sm := ⟨[.val true [I, I, (.sl 3 (.one I))], .val false [I]], [(false, [(I, 0)])]⟩
def bg : An := ⟨fun _ => none,
 fun _ => none,
 fun _ => none,
 fun _ => []⟩
def iw (n : Nat) : Mz := ⟨aw, fun x => N.QO n x.1 x.2.1 x.2.2.1 x.2.2.2⟩
def cZ (n : Nat) : List (FuncId × Mz) := [(59, gk n), (130, aQ n)]
theorem Wk : Mw Try.prog 61 := ⟨_, _, Try.func61, rfl, by kernel_rfl⟩
theorem iE (n : Nat) (x : aw.ins.D) : L9 (find tbl) (plain (cZ n)) bg n Try.f61 aw x = N.QO n x.1 x.2.1 x.2.2.1 x.2.2.2 := by kernel_rfl
theorem fS (n : Nat) : K6 Try.prog TT 61 (iw n) := OJ (an := bg) (n := n) Try.func61 rfl (by kernel_rfl) PO (OI (OQ (aJ n) Vd (OQ (ZG n) V2 Oc))) follows (iE n)
def XC : Sm := ⟨[.val true [I, I, (.sl 3 (.one I))], .val true [I, I, I, .bool, I]], [(false, [(.bool, 0)])]⟩
def Yj : An := ⟨fun _ => none,
 fun _ => none,
 fun _ => none,
 fun _ => []⟩
def fm (n : Nat) : Mz := ⟨XC, fun x => N.Qe n x.1 x.2.1 x.2.2.1 x.2.2.2.1 x.2.2.2.2.1 x.2.2.2.2.2.1 x.2.2.2.2.2.2.1 x.2.2.2.2.2.2.2⟩
def Zn (n : Nat) : List (FuncId × Mz) := [(61, iw n)]
theorem Xy : Mw Try.prog 113 := ⟨_, _, Try.func113, rfl, by kernel_rfl⟩
theorem dL (n : Nat) (x : XC.ins.D) : L9 (find tbl) (plain (Zn n)) Yj n Try.f113 XC x = N.Qe n x.1 x.2.1 x.2.2.1 x.2.2.2.1 x.2.2.2.2.1 x.2.2.2.2.2.1 x.2.2.2.2.2.2.1 x.2.2.2.2.2.2.2 := by kernel_rfl
theorem eP (n : Nat) : K6 Try.prog TT 113 (fm n) := OJ (an := Yj) (n := n) Try.func113 rfl (by kernel_rfl) PO (OI (OQ (fS n) Wk Oc)) follows (dL n)
def ai : Sm := ⟨[.val true [I, I, (.sl 3 (.one I))], .val false [(.sl 43 k5)]], [(false, [(.bool, 0)])]⟩
def bX : An := ⟨fun _ => none,
 fun b => match b with
  | 0 => some ([.slot 19 I], true)
  | 2 => some ([.slot 59 I], true)
  | _ => none,
 fun _ => none,
 fun _ => []⟩
def iu (n : Nat) : Mz := ⟨ai, fun x => N.Ra n x.1 x.2.1 x.2.2.1 x.2.2.2⟩
def cT (n : Nat) : List (FuncId × Mz) := [(59, gk n), (71, aS n), (113, fm n)]
theorem Wi : Mw Try.prog 34 := ⟨_, _, Try.func34, rfl, by kernel_rfl⟩
theorem hY (n : Nat) (x : ai.ins.D) : L9 (find tbl) (plain (cT n)) bX n Try.f34 ai x = N.Ra n x.1 x.2.1 x.2.2.1 x.2.2.2 := by kernel_rfl
theorem fQ (n : Nat) : K6 Try.prog TT 34 (iu n) := OJ (an := bX) (n := n) Try.func34 rfl (by kernel_rfl) PO (OI (OQ (aJ n) Vd (OQ (WU n) Tu (OQ (eP n) Xy Oc)))) follows (hY n)
def ah : Sm := ⟨[.val false [(.sl 75 k4)]], [(false, [(.bool, 0)])]⟩
def bW : An := ⟨fun _ => none,
 fun b => match b with
  | 0 => some ([.slot 10 I], true)
  | 2 => some ([.slot 51 I], true)
  | _ => none,
 fun _ => none,
 fun _ => []⟩
def iq (n : Nat) : Mz := ⟨ah, fun x => N.Qx n x⟩
def cS (n : Nat) : List (FuncId × Mz) := [(71, aS n)]
theorem Wh : Mw Try.prog 33 := ⟨_, _, Try.func33, rfl, by kernel_rfl⟩
theorem hX (n : Nat) (x : ah.ins.D) : L9 (find tbl) (plain (cS n)) bW n Try.f33 ah x = N.Qx n x := by kernel_rfl
theorem fO (n : Nat) : K6 Try.prog TT 33 (iq n) := OJ (an := bW) (n := n) Try.func33 rfl (by kernel_rfl) PO (OI (OQ (WU n) Tu Oc)) follows (hX n)
def Wx : Sm := ⟨[.val false [(.sl 43 k5)], .val false [(.sl 75 k4)]], [(false, [((.sl 3 (.one I)), 2)])]⟩
def YX : An := ⟨fun _ => none,
 fun b => match b with
  | 0 => some ([.own 5 3 (.one I) 2 false, .slot 13 I], false)
  | 2 => some ([.slot 8 .bool, .slot 33 I], false)
  | _ => none,
 fun b => match b with
  | 7 => some ([.own 5 3 (.one I) 2 false], false)
  | _ => none,
 fun _ => []⟩
def fV (n : Nat) : Mz := ⟨Wx, fun x => N.Sz n x.1 x.2⟩
def Zb (n : Nat) : List (FuncId × Mz) := []
theorem Xo : Mw Try.prog 101 := ⟨_, _, Try.func101, rfl, by kernel_rfl⟩
theorem cz (n : Nat) (x : Wx.ins.D) : L9 (find tbl) (plain (Zb n)) YX n Try.f101 Wx x = N.Sz n x.1 x.2 := by kernel_rfl
theorem eF (n : Nat) : K6 Try.prog TT 101 (fV n) := OJ (an := YX) (n := n) Try.func101 rfl (by kernel_rfl) PO (OI Oc) follows (cz n)
def W0 : Sm := ⟨[.val true [(.sl 104 k7)], .val false [I]], [(false, [(I, 0)])]⟩
def Ya : An := ⟨fun _ => none,
 fun b => match b with
  | 0 => some ([.slot 10 I], true)
  | _ => none,
 fun _ => none,
 fun _ => []⟩
def aO (n : Nat) : Mz := ⟨W0, fun x => N.R4 n x.1 x.2⟩
def Ze (n : Nat) : List (FuncId × Mz) := []
theorem V0 : Mw Try.prog 104 := ⟨_, _, Try.func104, rfl, by kernel_rfl⟩
theorem dC (n : Nat) (x : W0.ins.D) : L9 (find tbl) (plain (Ze n)) Ya n Try.f104 W0 x = N.R4 n x.1 x.2 := by kernel_rfl
theorem ZE (n : Nat) : K6 Try.prog TT 104 (aO n) := OJ (an := Ya) (n := n) Try.func104 rfl (by kernel_rfl) PO (OI Oc) follows (dC n)
def XI : Sm := ⟨[.val false [(.sl 3 (.one I))], .val false [I]], [(false, [(.bool, 0)])]⟩
def Yp : An := ⟨fun _ => none,
 fun b => match b with
  | 0 => some ([.slot 9 I], true)
  | _ => none,
 fun _ => none,
 fun _ => []⟩
def fx (n : Nat) : Mz := ⟨XI, fun x => N.Sq n x.1 x.2⟩
def Zt (n : Nat) : List (FuncId × Mz) := []
theorem X2 : Mw Try.prog 133 := ⟨_, _, Try.func133, rfl, by kernel_rfl⟩
theorem dR (n : Nat) (x : XI.ins.D) : L9 (find tbl) (plain (Zt n)) Yp n Try.f133 XI x = N.Sq n x.1 x.2 := by kernel_rfl
theorem eT (n : Nat) : K6 Try.prog TT 133 (fx n) := OJ (an := Yp) (n := n) Try.func133 rfl (by kernel_rfl) PO (OI Oc) follows (dR n)
def Wy : Sm := ⟨[.val true [(.sl 104 k7)], .val false [(.sl 75 k4)], .val false [I]], [(false, [((.sl 3 (.one I)), 2)])]⟩
def YY : An := ⟨fun _ => none,
 fun b => match b with
  | 0 => some ([.own 8 3 (.one I) 2 false, .slot 15 I], false)
  | 2 => some ([.own 7 3 (.one I) 2 false, .own 8 3 (.one I) 2 false, .slot 30 I], false)
  | _ => none,
 fun b => match b with
  | 7 => some ([.own 8 3 (.one I) 2 false], false)
  | 13 => some ([.own 7 3 (.one I) 2 false, .own 8 3 (.one I) 2 false], false)
  | _ => none,
 fun _ => []⟩
def fW (n : Nat) : Mz := ⟨Wy, fun x => N.Sg n x.1 x.2.1 x.2.2⟩
def Zc (n : Nat) : List (FuncId × Mz) := [(104, aO n), (133, fx n)]
theorem Xp : Mw Try.prog 102 := ⟨_, _, Try.func102, rfl, by kernel_rfl⟩
theorem dA (n : Nat) (x : Wy.ins.D) : L9 (find tbl) (plain (Zc n)) YY n Try.f102 Wy x = N.Sg n x.1 x.2.1 x.2.2 := by kernel_rfl
theorem eG (n : Nat) : K6 Try.prog TT 102 (fW n) := OJ (an := YY) (n := n) Try.func102 rfl (by kernel_rfl) PO (OI (OQ (ZE n) V0 (OQ (eT n) X2 Oc))) follows (dA n)
def Xd : Sm := ⟨[.val true [I, I, (.sl 3 (.one I))], .val false [I]], [(false, [((.sl 3 (.one I)), 2)])]⟩
def ZA : An := ⟨fun _ => none,
 fun _ => none,
 fun b => match b with
  | 12 => some ([.own 5 3 (.one I) 2 false], false)
  | 18 => some ([.own 5 3 (.one I) 2 false], false)
  | 24 => some ([.own 5 3 (.one I) 2 false], false)
  | 30 => some ([.own 5 3 (.one I) 2 false], false)
  | _ => none,
 fun _ => []⟩
def gT (n : Nat) : Mz := ⟨Xd, fun x => N.Sp x.1 x.2.1 x.2.2.1 x.2.2.2⟩
def aE (n : Nat) : List (FuncId × Mz) := []
theorem YM : Mw Try.prog 191 := ⟨_, _, Try.func191, rfl, by kernel_rfl⟩
theorem dx (n : Nat) (x : Xd.ins.D) : L9 (find tbl) (plain (aE n)) ZA n Try.f191 Xd x = N.Sp x.1 x.2.1 x.2.2.1 x.2.2.2 := by kernel_rfl
theorem fH (n : Nat) : K6 Try.prog TT 191 (gT n) := OJ (an := ZA) (n := n) Try.func191 rfl (by kernel_rfl) PO (OI Oc) follows (dx n)
def XX : Sm := ⟨[.val true [I, I, (.sl 3 (.one I))], .val false [I], .val false [.bool]], [(false, [((.sl 3 (.one I)), 2)])]⟩
def Y4 : An := ⟨fun _ => none,
 fun b => match b with
  | 0 => some ([.own 7 3 (.one I) 2 false, .slot 15 I], false)
  | _ => none,
 fun b => match b with
  | 7 => some ([.own 7 3 (.one I) 2 false], false)
  | _ => none,
 fun _ => []⟩
def gN (n : Nat) : Mz := ⟨XX, fun x => N.S0 n x.1 x.2.1 x.2.2.1 x.2.2.2.1 x.2.2.2.2⟩
def Z8 (n : Nat) : List (FuncId × Mz) := [(191, gT n)]
theorem YH : Mw Try.prog 177 := ⟨_, _, Try.func177, rfl, by kernel_rfl⟩
theorem di (n : Nat) (x : XX.ins.D) : L9 (find tbl) (plain (Z8 n)) Y4 n Try.f177 XX x = N.S0 n x.1 x.2.1 x.2.2.1 x.2.2.2.1 x.2.2.2.2 := by kernel_rfl
theorem fC (n : Nat) : K6 Try.prog TT 177 (gN n) := OJ (an := Y4) (n := n) Try.func177 rfl (by kernel_rfl) PO (OI (OQ (fH n) YM Oc)) follows (di n)
def XL : Sm := ⟨[.val true [I, I, (.sl 3 (.one I))], .val false [I], .val false [.bool]], [(false, [((.sl 3 (.one I)), 2)])]⟩
def Ys : An := ⟨fun _ => none,
 fun b => match b with
  | 0 => some ([.slot 19 I, .own 7 3 (.one I) 2 false], false)
  | 2 => some ([.own 9 3 (.one I) 2 false, .own 7 3 (.one I) 2 false], false)
  | 4 => some ([.own 9 3 (.one I) 2 false, .slot 57 I, .own 7 3 (.one I) 2 false], false)
  | _ => none,
 fun b => match b with
  | 19 => some ([.own 9 3 (.one I) 2 false, .own 7 3 (.one I) 2 false], false)
  | _ => none,
 fun _ => []⟩
def gB (n : Nat) : Mz := ⟨XL, fun x => N.R3 n x.1 x.2.1 x.2.2.1 x.2.2.2.1 x.2.2.2.2⟩
def Zw (n : Nat) : List (FuncId × Mz) := [(177, gN n)]
theorem X5 : Mw Try.prog 153 := ⟨_, _, Try.func153, rfl, by kernel_rfl⟩
theorem dU (n : Nat) (x : XL.ins.D) : L9 (find tbl) (plain (Zw n)) Ys n Try.f153 XL x = N.R3 n x.1 x.2.1 x.2.2.1 x.2.2.2.1 x.2.2.2.2 := by kernel_rfl
theorem eW (n : Nat) : K6 Try.prog TT 153 (gB n) := OJ (an := Ys) (n := n) Try.func153 rfl (by kernel_rfl) PO (OI (OQ (fC n) YH Oc)) follows (dU n)
def Wz : Sm := ⟨[.val true [I, I, (.sl 3 (.one I))], .val false [I], .val false [I]], [(false, [(I, 0)])]⟩
def YZ : An := ⟨fun _ => none,
 fun _ => none,
 fun _ => none,
 fun _ => []⟩
def fX (n : Nat) : Mz := ⟨Wz, fun x => N.QR n x.1 x.2.1 x.2.2.1 x.2.2.2.1 x.2.2.2.2⟩
def Zd (n : Nat) : List (FuncId × Mz) := [(61, iw n), (130, aQ n), (153, gB n)]
theorem Xq : Mw Try.prog 103 := ⟨_, _, Try.func103, rfl, by kernel_rfl⟩
theorem dB (n : Nat) (x : Wz.ins.D) : L9 (find tbl) (plain (Zd n)) YZ n Try.f103 Wz x = N.QR n x.1 x.2.1 x.2.2.1 x.2.2.2.1 x.2.2.2.2 := by kernel_rfl
theorem eH (n : Nat) : K6 Try.prog TT 103 (fX n) := OJ (an := YZ) (n := n) Try.func103 rfl (by kernel_rfl) PO (OI (OQ (fS n) Wk (OQ (ZG n) V2 (OQ (eW n) X5 Oc)))) follows (dB n)
def XM : Sm := ⟨[.val false [(.sl 24 (.one (.sl 3 (.one I))))]], [(false, [(.bool, 0)])]⟩
def Yt : An := ⟨fun _ => none,
 fun b => match b with
  | 0 => some ([.slot 12 I], true)
  | 2 => some ([.slot 33 I], true)
  | _ => none,
 fun _ => none,
 fun _ => []⟩
def gC (n : Nat) : Mz := ⟨XM, fun x => N.Rk n x⟩
def Zx (n : Nat) : List (FuncId × Mz) := [(71, aS n)]
theorem X6 : Mw Try.prog 154 := ⟨_, _, Try.func154, rfl, by kernel_rfl⟩
theorem dV (n : Nat) (x : XM.ins.D) : L9 (find tbl) (plain (Zx n)) Yt n Try.f154 XM x = N.Rk n x := by kernel_rfl
theorem eX (n : Nat) : K6 Try.prog TT 154 (gC n) := OJ (an := Yt) (n := n) Try.func154 rfl (by kernel_rfl) PO (OI (OQ (WU n) Tu Oc)) follows (dV n)
def XN : Sm := ⟨[.val false [(.sl 24 (.one (.sl 3 (.one I))))]], [(false, [((.sl 24 (.one (.sl 3 (.one I)))), 2)])]⟩
def Yu : An := ⟨fun _ => none,
 fun b => match b with
  | 0 => some ([.slot 5 I, .own 4 24 (.one (.sl 3 (.one I))) 2 false], false)
  | 2 => some ([.slot 45 I, .own 4 24 (.one (.sl 3 (.one I))) 2 false], false)
  | 4 => some ([.slot 55 I, .own 4 24 (.one (.sl 3 (.one I))) 2 false], false)
  | _ => none,
 fun b => match b with
  | 9 => some ([.slot 3 I], false)
  | 19 => some ([.own 4 24 (.one (.sl 3 (.one I))) 2 false], false)
  | _ => none,
 fun _ => []⟩
def gD (n : Nat) : Mz := ⟨XN, fun x => N.Se n x⟩
def Zy (n : Nat) : List (FuncId × Mz) := []
theorem X7 : Mw Try.prog 155 := ⟨_, _, Try.func155, rfl, by kernel_rfl⟩
theorem dW (n : Nat) (x : XN.ins.D) : L9 (find tbl) (plain (Zy n)) Yu n Try.f155 XN x = N.Se n x := by kernel_rfl
theorem eY (n : Nat) : K6 Try.prog TT 155 (gD n) := OJ (an := Yu) (n := n) Try.func155 rfl (by kernel_rfl) PO (OI Oc) follows (dW n)
def W4 : Sm := ⟨[.val false [(.sl 24 (.one (.sl 3 (.one I))))]], [(false, [((.sl 3 (.one I)), 2)]), (false, [(I, 0)])]⟩
def Yb : An := ⟨fun _ => none,
 fun b => match b with
  | 0 => some ([.own 5 3 (.one I) 2 false, .slot 6 I, .slot 17 I], false)
  | 2 => some ([.own 5 3 (.one I) 2 false, .slot 6 I, .slot 24 I], false)
  | _ => none,
 fun _ => none,
 fun _ => []⟩
def fY (n : Nat) : Mz := ⟨W4, fun x => N.R1 n x⟩
def Zf (n : Nat) : List (FuncId × Mz) := [(154, gC n), (155, gD n)]
theorem Xr : Mw Try.prog 105 := ⟨_, _, Try.func105, rfl, by kernel_rfl⟩
theorem dD (n : Nat) (x : W4.ins.D) : L9 (find tbl) (plain (Zf n)) Yb n Try.f105 W4 x = N.R1 n x := by kernel_rfl
theorem eI (n : Nat) : K6 Try.prog TT 105 (fY n) := OJ (an := Yb) (n := n) Try.func105 rfl (by kernel_rfl) PO (OI (OQ (eX n) X6 (OQ (eY n) X7 Oc))) follows (dD n)
def aX : Sm := ⟨[.val true [I, I, (.sl 3 (.one I))], .val true [(.sl 104 k7)], .val false [(.sl 43 k5)], .val false [(.sl 75 k4)]], [(false, [((.sl 43 k5), 2)]), (false, [((.sl 75 k4), 2)])]⟩
def bP : An := ⟨fun _ => none,
 fun b => match b with
  | 0 => some ([.own 14 24 (.one (.sl 3 (.one I))) 2 false, .slot 62 I], false)
  | 2 => some ([.own 17 3 (.one I) 2 false, .slot 68 I], false)
  | 4 => some ([.slot 110 I, .own 10 43 k5 2 false, .own 11 75 k4 2 false], false)
  | _ => none,
 fun b => match b with
  | 19 => some ([.own 10 43 k5 2 false, .own 11 75 k4 2 false], false)
  | 48 => some ([.slot 20 I], false)
  | _ => none,
 fun _ => []⟩
def jL (n : Nat) : Mz := ⟨aX, fun x => N.Q8 n x.1 x.2.1 x.2.2.1 x.2.2.2.1 x.2.2.2.2.1 x.2.2.2.2.2⟩
def cL (n : Nat) : List (FuncId × Mz) := [(21, jJ n), (33, iq n), (34, iu n), (59, gk n), (99, jV n), (100, fU n), (101, fV n), (102, fW n), (103, fX n), (104, aO n), (105, fY n)]
theorem ZN : Mw Try.prog 26 := ⟨_, _, Try.func26, rfl, by kernel_rfl⟩
theorem gr (n : Nat) (x : aX.ins.D) : L9 (find tbl) (plain (cL n)) bP n Try.f26 aX x = N.Q8 n x.1 x.2.1 x.2.2.1 x.2.2.2.1 x.2.2.2.2.1 x.2.2.2.2.2 := by kernel_rfl
theorem iS (n : Nat) : K6 Try.prog TT 26 (jL n) := OJ (an := bP) (n := n) Try.func26 rfl (by kernel_rfl) PO (OI (OQ (iQ n) ZL (OQ (fO n) Wh (OQ (fQ n) Wi (OQ (aJ n) Vd (OQ (ic n) ZX (OQ (eE n) Xn (OQ (eF n) Xo (OQ (eG n) Xp (OQ (eH n) Xq (OQ (ZE n) V0 (OQ (eI n) Xr Oc)))))))))))) follows (gr n)
def XB : Sm := ⟨[.val false [(.sl 109 k2)]], [(false, [(.bool, 0)])]⟩
def Yi : An := ⟨fun _ => none,
 fun b => match b with
  | 0 => some ([.slot 3 I], true)
  | _ => none,
 fun _ => none,
 fun _ => []⟩
def fk (n : Nat) : Mz := ⟨XB, fun x => N.RL n x⟩
def Zm (n : Nat) : List (FuncId × Mz) := [(67, Xk n)]
theorem Xx : Mw Try.prog 112 := ⟨_, _, Try.func112, rfl, by kernel_rfl⟩
theorem dK (n : Nat) (x : XB.ins.D) : L9 (find tbl) (plain (Zm n)) Yi n Try.f112 XB x = N.RL n x := by kernel_rfl
theorem eO (n : Nat) : K6 Try.prog TT 112 (fk n) := OJ (an := Yi) (n := n) Try.func112 rfl (by kernel_rfl) PO (OI (OQ (VG n) S4 Oc)) follows (dK n)
def ag : Sm := ⟨[.val true [(.sl 104 k7)]], [(false, [(.bool, 0)])]⟩
def bV : An := ⟨fun _ => none,
 fun b => match b with
  | 0 => some ([.slot 3 I], true)
  | 2 => some ([.slot 5 I], true)
  | _ => none,
 fun _ => none,
 fun _ => []⟩
def ik (n : Nat) : Mz := ⟨ag, fun x => N.Q1 n x⟩
def cR (n : Nat) : List (FuncId × Mz) := [(67, Xk n), (112, fk n)]
theorem Wg : Mw Try.prog 32 := ⟨_, _, Try.func32, rfl, by kernel_rfl⟩
theorem gz (n : Nat) (x : ag.ins.D) : L9 (find tbl) (plain (cR n)) bV n Try.f32 ag x = N.Q1 n x := by kernel_rfl
theorem fN (n : Nat) : K6 Try.prog TT 32 (ik n) := OJ (an := bV) (n := n) Try.func32 rfl (by kernel_rfl) PO (OI (OQ (VG n) S4 (OQ (eO n) Xx Oc))) follows (gz n)
def ao : Sm := ⟨[.val true [I, I, (.sl 3 (.one I))]], [(false, [(.bool, 0)])]⟩
def ba : An := ⟨fun _ => none,
 fun b => match b with
  | 0 => some ([.slot 3 I], true)
  | _ => none,
 fun _ => none,
 fun _ => []⟩
def iv (n : Nat) : Mz := ⟨ao, fun x => N.QS n x.1 x.2.1 x.2.2⟩
def cW (n : Nat) : List (FuncId × Mz) := [(67, Xk n)]
theorem Wj : Mw Try.prog 56 := ⟨_, _, Try.func56, rfl, by kernel_rfl⟩
theorem iB (n : Nat) (x : ao.ins.D) : L9 (find tbl) (plain (cW n)) ba n Try.f56 ao x = N.QS n x.1 x.2.1 x.2.2 := by kernel_rfl
theorem fR (n : Nat) : K6 Try.prog TT 56 (iv n) := OJ (an := ba) (n := n) Try.func56 rfl (by kernel_rfl) PO (OI (OQ (VG n) S4 Oc)) follows (iB n)
def XA : Sm := ⟨[.val true [I, I, (.sl 3 (.one I))], .val false [I]], [(false, [(.bool, 0)])]⟩
def Yh : An := ⟨fun _ => none,
 fun _ => none,
 fun _ => none,
 fun _ => []⟩
def fj (n : Nat) : Mz := ⟨XA, fun x => N.Rf x.1 x.2.1 x.2.2.1 x.2.2.2⟩
def Zl (n : Nat) : List (FuncId × Mz) := [(67, Xk n)]
theorem Xw : Mw Try.prog 111 := ⟨_, _, Try.func111, rfl, by kernel_rfl⟩
theorem dJ (n : Nat) (x : XA.ins.D) : L9 (find tbl) (plain (Zl n)) Yh n Try.f111 XA x = N.Rf x.1 x.2.1 x.2.2.1 x.2.2.2 := by kernel_rfl
theorem eN (n : Nat) : K6 Try.prog TT 111 (fj n) := OJ (an := Yh) (n := n) Try.func111 rfl (by kernel_rfl) PO (OI (OQ (VG n) S4 Oc)) follows (dJ n)
def ae : Sm := ⟨[.val true [I, I, (.sl 3 (.one I))], .val false [(.sl 43 k5)]], [(false, [(.bool, 0)])]⟩
def bT : An := ⟨fun _ => none,
 fun b => match b with
  | 0 => some ([.slot 5 I], true)
  | 2 => some ([.slot 7 I], true)
  | _ => none,
 fun _ => none,
 fun _ => []⟩
def ij (n : Nat) : Mz := ⟨ae, fun x => N.Rc n x.1 x.2.1 x.2.2.1 x.2.2.2⟩
def cP (n : Nat) : List (FuncId × Mz) := [(56, iv n), (67, Xk n), (111, fj n)]
theorem Wf : Mw Try.prog 30 := ⟨_, _, Try.func30, rfl, by kernel_rfl⟩
theorem gx (n : Nat) (x : ae.ins.D) : L9 (find tbl) (plain (cP n)) bT n Try.f30 ae x = N.Rc n x.1 x.2.1 x.2.2.1 x.2.2.2 := by kernel_rfl
theorem fM (n : Nat) : K6 Try.prog TT 30 (ij n) := OJ (an := bT) (n := n) Try.func30 rfl (by kernel_rfl) PO (OI (OQ (fR n) Wj (OQ (VG n) S4 (OQ (eN n) Xw Oc)))) follows (gx n)
def W5 : Sm := ⟨[.val false [(.sl 43 k5)], .val false [(.sl 75 k4)]], [(false, [((.sl 3 (.one I)), 2)])]⟩
def Yc : An := ⟨fun _ => none,
 fun b => match b with
  | 0 => some ([.own 5 3 (.one I) 2 false, .slot 6 I], false)
  | 2 => some ([.slot 7 .bool, .slot 8 I], false)
  | _ => none,
 fun b => match b with
  | 7 => some ([.own 5 3 (.one I) 2 false], false)
  | _ => none,
 fun _ => []⟩
def fZ (n : Nat) : Mz := ⟨W5, fun x => N.Rt n x.1 x.2⟩
def Zg (n : Nat) : List (FuncId × Mz) := []
theorem Xs : Mw Try.prog 106 := ⟨_, _, Try.func106, rfl, by kernel_rfl⟩
theorem dE (n : Nat) (x : W5.ins.D) : L9 (find tbl) (plain (Zg n)) Yc n Try.f106 W5 x = N.Rt n x.1 x.2 := by kernel_rfl
theorem eJ (n : Nat) : K6 Try.prog TT 106 (fZ n) := OJ (an := Yc) (n := n) Try.func106 rfl (by kernel_rfl) PO (OI Oc) follows (dE n)
def W8 : Sm := ⟨[.val true [(.sl 104 k7)], .val false [I]], [(false, [(I, 0)])]⟩
def Yf : An := ⟨fun _ => none,
 fun b => match b with
  | 0 => some ([.slot 5 I], true)
  | _ => none,
 fun _ => none,
 fun _ => []⟩
def aP (n : Nat) : Mz := ⟨W8, fun x => N.Pt n x.1 x.2⟩
def Zj (n : Nat) : List (FuncId × Mz) := []
theorem V1 : Mw Try.prog 109 := ⟨_, _, Try.func109, rfl, by kernel_rfl⟩
theorem dH (n : Nat) (x : W8.ins.D) : L9 (find tbl) (plain (Zj n)) Yf n Try.f109 W8 x = N.Pt n x.1 x.2 := by kernel_rfl
theorem ZF (n : Nat) : K6 Try.prog TT 109 (aP n) := OJ (an := Yf) (n := n) Try.func109 rfl (by kernel_rfl) PO (OI Oc) follows (dH n)
def XO : Sm := ⟨[.val false [(.sl 3 (.one I))], .val false [I]], [(false, [(.bool, 0)])]⟩
def Yv : An := ⟨fun _ => none,
 fun b => match b with
  | 0 => some ([.slot 5 I], true)
  | _ => none,
 fun _ => none,
 fun _ => []⟩
def gE (n : Nat) : Mz := ⟨XO, fun x => N.Pn n x.1 x.2⟩
def Zz (n : Nat) : List (FuncId × Mz) := []
theorem X8 : Mw Try.prog 156 := ⟨_, _, Try.func156, rfl, by kernel_rfl⟩
theorem dX (n : Nat) (x : XO.ins.D) : L9 (find tbl) (plain (Zz n)) Yv n Try.f156 XO x = N.Pn n x.1 x.2 := by kernel_rfl
theorem eZ (n : Nat) : K6 Try.prog TT 156 (gE n) := OJ (an := Yv) (n := n) Try.func156 rfl (by kernel_rfl) PO (OI Oc) follows (dX n)
def W6 : Sm := ⟨[.val true [(.sl 104 k7)], .val false [(.sl 75 k4)], .val false [I]], [(false, [((.sl 3 (.one I)), 2)])]⟩
def Yd : An := ⟨fun _ => none,
 fun b => match b with
  | 0 => some ([.own 8 3 (.one I) 2 false, .slot 9 I], false)
  | 2 => some ([.own 7 3 (.one I) 2 false, .own 8 3 (.one I) 2 false, .slot 10 I], false)
  | _ => none,
 fun b => match b with
  | 7 => some ([.own 8 3 (.one I) 2 false], false)
  | 13 => some ([.own 7 3 (.one I) 2 false, .own 8 3 (.one I) 2 false], false)
  | _ => none,
 fun _ => []⟩
def fe (n : Nat) : Mz := ⟨W6, fun x => N.RJ n x.1 x.2.1 x.2.2⟩
def Zh (n : Nat) : List (FuncId × Mz) := [(109, aP n), (156, gE n)]
theorem Xt : Mw Try.prog 107 := ⟨_, _, Try.func107, rfl, by kernel_rfl⟩
theorem dF (n : Nat) (x : W6.ins.D) : L9 (find tbl) (plain (Zh n)) Yd n Try.f107 W6 x = N.RJ n x.1 x.2.1 x.2.2 := by kernel_rfl
theorem eK (n : Nat) : K6 Try.prog TT 107 (fe n) := OJ (an := Yd) (n := n) Try.func107 rfl (by kernel_rfl) PO (OI (OQ (ZF n) V1 (OQ (eZ n) X8 Oc))) follows (dF n)
def XZ : Sm := ⟨[.val true [I, I, (.sl 3 (.one I))], .val false [I]], [(false, [(.bool, 0)])]⟩
def Y6 : An := ⟨fun _ => none,
 fun _ => none,
 fun _ => none,
 fun _ => []⟩
def aR (n : Nat) : Mz := ⟨XZ, fun x => N.Rd n x.1 x.2.1 x.2.2.1 x.2.2.2⟩
def aA (n : Nat) : List (FuncId × Mz) := [(56, iv n), (67, Xk n)]
theorem V3 : Mw Try.prog 179 := ⟨_, _, Try.func179, rfl, by kernel_rfl⟩
theorem dq (n : Nat) (x : XZ.ins.D) : L9 (find tbl) (plain (aA n)) Y6 n Try.f179 XZ x = N.Rd n x.1 x.2.1 x.2.2.1 x.2.2.2 := by kernel_rfl
theorem ZH (n : Nat) : K6 Try.prog TT 179 (aR n) := OJ (an := Y6) (n := n) Try.func179 rfl (by kernel_rfl) PO (OI (OQ (fR n) Wj (OQ (VG n) S4 Oc))) follows (dq n)
def Xg : Sm := ⟨[.val true [I, I, (.sl 3 (.one I))], .val false [I]], [(false, [((.sl 3 (.one I)), 2)])]⟩
def ZD : An := ⟨fun _ => none,
 fun _ => none,
 fun b => match b with
  | 15 => some ([.own 5 3 (.one I) 2 false], false)
  | 21 => some ([.own 5 3 (.one I) 2 false], false)
  | 27 => some ([.own 5 3 (.one I) 2 false], false)
  | 33 => some ([.own 5 3 (.one I) 2 false], false)
  | _ => none,
 fun _ => []⟩
def gW (n : Nat) : Mz := ⟨Xg, fun x => N.Qg x.1 x.2.1 x.2.2.1 x.2.2.2⟩
def aH (n : Nat) : List (FuncId × Mz) := []
theorem YP : Mw Try.prog 197 := ⟨_, _, Try.func197, rfl, by kernel_rfl⟩
theorem eA (n : Nat) (x : Xg.ins.D) : L9 (find tbl) (plain (aH n)) ZD n Try.f197 Xg x = N.Qg x.1 x.2.1 x.2.2.1 x.2.2.2 := by kernel_rfl
theorem fL (n : Nat) : K6 Try.prog TT 197 (gW n) := OJ (an := ZD) (n := n) Try.func197 rfl (by kernel_rfl) PO (OI Oc) follows (eA n)
def Xf : Sm := ⟨[.val true [I, I, (.sl 3 (.one I))], .val false [I], .val false [.bool]], [(false, [((.sl 3 (.one I)), 2)])]⟩
def ZC : An := ⟨fun _ => none,
 fun b => match b with
  | 0 => some ([.own 7 3 (.one I) 2 false, .slot 9 I], false)
  | _ => none,
 fun b => match b with
  | 7 => some ([.own 7 3 (.one I) 2 false], false)
  | _ => none,
 fun _ => []⟩
def gV (n : Nat) : Mz := ⟨Xf, fun x => N.SJ n x.1 x.2.1 x.2.2.1 x.2.2.2.1 x.2.2.2.2⟩
def aG (n : Nat) : List (FuncId × Mz) := [(197, gW n)]
theorem YO : Mw Try.prog 196 := ⟨_, _, Try.func196, rfl, by kernel_rfl⟩
theorem dz (n : Nat) (x : Xf.ins.D) : L9 (find tbl) (plain (aG n)) ZC n Try.f196 Xf x = N.SJ n x.1 x.2.1 x.2.2.1 x.2.2.2.1 x.2.2.2.2 := by kernel_rfl
theorem fK (n : Nat) : K6 Try.prog TT 196 (gV n) := OJ (an := ZC) (n := n) Try.func196 rfl (by kernel_rfl) PO (OI (OQ (fL n) YP Oc)) follows (dz n)
def Xe : Sm := ⟨[.val true [I, I, (.sl 3 (.one I))], .val false [I], .val false [.bool]], [(false, [((.sl 3 (.one I)), 2)])]⟩
def ZB : An := ⟨fun _ => none,
 fun b => match b with
  | 0 => some ([.own 7 3 (.one I) 2 false, .slot 8 I], false)
  | 2 => some ([.own 9 3 (.one I) 2 false, .slot 10 I, .own 7 3 (.one I) 2 false], false)
  | 4 => some ([.own 9 3 (.one I) 2 false, .slot 13 I, .own 7 3 (.one I) 2 false], false)
  | _ => none,
 fun b => match b with
  | 13 => some ([.own 9 3 (.one I) 2 false, .own 7 3 (.one I) 2 false], false)
  | 19 => some ([.own 9 3 (.one I) 2 false, .own 7 3 (.one I) 2 false], false)
  | _ => none,
 fun _ => []⟩
def gU (n : Nat) : Mz := ⟨Xe, fun x => N.Q3 n x.1 x.2.1 x.2.2.1 x.2.2.2.1 x.2.2.2.2⟩
def aF (n : Nat) : List (FuncId × Mz) := [(196, gV n)]
theorem YN : Mw Try.prog 192 := ⟨_, _, Try.func192, rfl, by kernel_rfl⟩
theorem dy (n : Nat) (x : Xe.ins.D) : L9 (find tbl) (plain (aF n)) ZB n Try.f192 Xe x = N.Q3 n x.1 x.2.1 x.2.2.1 x.2.2.2.1 x.2.2.2.2 := by kernel_rfl
theorem fJ (n : Nat) : K6 Try.prog TT 192 (gU n) := OJ (an := ZB) (n := n) Try.func192 rfl (by kernel_rfl) PO (OI (OQ (fK n) YO Oc)) follows (dy n)
def XY : Sm := ⟨[.val true [I, I, (.sl 3 (.one I))], .val false [I], .val false [.bool]], [(false, [((.sl 3 (.one I)), 2)])]⟩
def Y5 : An := ⟨fun _ => none,
 fun _ => none,
 fun _ => none,
 fun _ => []⟩
def gO (n : Nat) : Mz := ⟨XY, fun x => N.R5 n x.1 x.2.1 x.2.2.1 x.2.2.2.1 x.2.2.2.2⟩
def Z9 (n : Nat) : List (FuncId × Mz) := [(179, aR n), (192, gU n)]
theorem YI : Mw Try.prog 178 := ⟨_, _, Try.func178, rfl, by kernel_rfl⟩
theorem dm (n : Nat) (x : XY.ins.D) : L9 (find tbl) (plain (Z9 n)) Y5 n Try.f178 XY x = N.R5 n x.1 x.2.1 x.2.2.1 x.2.2.2.1 x.2.2.2.2 := by kernel_rfl
theorem fD (n : Nat) : K6 Try.prog TT 178 (gO n) := OJ (an := Y5) (n := n) Try.func178 rfl (by kernel_rfl) PO (OI (OQ (ZH n) V3 (OQ (fJ n) YN Oc))) follows (dm n)
def XP : Sm := ⟨[.val true [I, I, (.sl 3 (.one I))], .val false [I], .val false [I]], [(false, [(I, 0)])]⟩
def Yw : An := ⟨fun _ => none,
 fun _ => none,
 fun _ => none,
 fun _ => []⟩
def gF (n : Nat) : Mz := ⟨XP, fun x => N.QT n x.1 x.2.1 x.2.2.1 x.2.2.2.1 x.2.2.2.2⟩
def Z0 (n : Nat) : List (FuncId × Mz) := [(178, gO n), (179, aR n)]
theorem X9 : Mw Try.prog 157 := ⟨_, _, Try.func157, rfl, by kernel_rfl⟩
theorem dY (n : Nat) (x : XP.ins.D) : L9 (find tbl) (plain (Z0 n)) Yw n Try.f157 XP x = N.QT n x.1 x.2.1 x.2.2.1 x.2.2.2.1 x.2.2.2.2 := by kernel_rfl
theorem ea (n : Nat) : K6 Try.prog TT 157 (gF n) := OJ (an := Yw) (n := n) Try.func157 rfl (by kernel_rfl) PO (OI (OQ (fD n) YI (OQ (ZH n) V3 Oc))) follows (dY n)
def W7 : Sm := ⟨[.val true [I, I, (.sl 3 (.one I))], .val false [I], .val false [I]], [(false, [(I, 0)])]⟩
def Ye : An := ⟨fun _ => none,
 fun _ => none,
 fun _ => none,
 fun _ => []⟩
def fg (n : Nat) : Mz := ⟨W7, fun x => N.Rs n x.1 x.2.1 x.2.2.1 x.2.2.2.1 x.2.2.2.2⟩
def Zi (n : Nat) : List (FuncId × Mz) := [(157, gF n)]
theorem Xu : Mw Try.prog 108 := ⟨_, _, Try.func108, rfl, by kernel_rfl⟩
theorem dG (n : Nat) (x : W7.ins.D) : L9 (find tbl) (plain (Zi n)) Ye n Try.f108 W7 x = N.Rs n x.1 x.2.1 x.2.2.1 x.2.2.2.1 x.2.2.2.2 := by kernel_rfl
theorem eL (n : Nat) : K6 Try.prog TT 108 (fg n) := OJ (an := Ye) (n := n) Try.func108 rfl (by kernel_rfl) PO (OI (OQ (ea n) X9 Oc)) follows (dG n)
def XQ : Sm := ⟨[.val false [(.sl 24 (.one (.sl 3 (.one I))))]], [(false, [(.bool, 0)])]⟩
def Yx : An := ⟨fun _ => none,
 fun b => match b with
  | 0 => some ([.slot 3 I], true)
  | 2 => some ([.slot 4 I], true)
  | _ => none,
 fun _ => none,
 fun _ => []⟩
def gG (n : Nat) : Mz := ⟨XQ, fun x => N.Rq n x⟩
def Z1 (n : Nat) : List (FuncId × Mz) := [(67, Xk n)]
theorem YA : Mw Try.prog 158 := ⟨_, _, Try.func158, rfl, by kernel_rfl⟩
theorem dZ (n : Nat) (x : XQ.ins.D) : L9 (find tbl) (plain (Z1 n)) Yx n Try.f158 XQ x = N.Rq n x := by kernel_rfl
theorem ed (n : Nat) : K6 Try.prog TT 158 (gG n) := OJ (an := Yx) (n := n) Try.func158 rfl (by kernel_rfl) PO (OI (OQ (VG n) S4 Oc)) follows (dZ n)
end Go.Proofs.Ytglbgceejloiaaa.Ev
