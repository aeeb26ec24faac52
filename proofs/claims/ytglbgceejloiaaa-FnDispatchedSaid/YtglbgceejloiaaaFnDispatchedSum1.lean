/- Summaries of the functions. Conditions: none. -/
import Derived.Test.YtglbgceejloiaaaFnDispatchedSum0
namespace Go.Proofs.Ytglbgceejloiaaa.Ev
open Go Go.Ev Go.Proofs
set_option linter.unusedVariables false
set_option maxRecDepth 100000
def Xa : Sm := ⟨[.val false [(.sl 24 (.one (.sl 3 (.one I))))], .row false [((.sl 3 (.one I)), 2)], .row false [((.sl 3 (.one I)), 2)], .row false [((.sl 3 (.one I)), 2)], .val false [I]], []⟩
def Y7 : An := ⟨fun _ => none,
 fun b => match b with
  | 0 => some ([.slot 14 I, .own 11 3 (.one I) 2 false], false)
  | 2 => some ([.slot 15 I, .own 1 3 (.one I) 2 true, .own 2 3 (.one I) 2 true, .own 11 3 (.one I) 2 false, .own 12 3 (.one I) 2 false, .own 13 4 (.one .bool) 2 false], false)
  | 4 => some ([.slot 17 I, .slot 18 I, .slot 19 I, .own 11 3 (.one I) 2 false, .own 12 3 (.one I) 2 false], false)
  | 6 => some ([.slot 21 I, .own 1 3 (.one I) 2 true, .own 2 3 (.one I) 2 true, .own 11 3 (.one I) 2 false], false)
  | 8 => some ([.slot 15 I, .own 3 3 (.one I) 2 true], false)
  | _ => none,
 fun b => match b with
  | 19 => some ([.slot 17 I, .slot 18 I, .own 11 3 (.one I) 2 false, .own 12 3 (.one I) 2 false], false)
  | 25 => some ([.own 1 3 (.one I) 2 true, .own 2 3 (.one I) 2 true, .own 11 3 (.one I) 2 false], false)
  | 57 => some ([.own 11 3 (.one I) 2 false, .own 12 3 (.one I) 2 false], false)
  | _ => none,
 fun _ => []⟩
def gP (n : Nat) : Mz := ⟨Xa, fun x => N.SK n x.1 x.2.1 x.2.2.1 x.2.2.2.1 x.2.2.2.2⟩
def aB (n : Nat) : List (FuncId × Mz) := []
theorem YJ : Mw Try.prog 180 := ⟨_, _, Try.func180, rfl, by kernel_rfl⟩
theorem dr (n : Nat) (x : Xa.ins.D) : L9 (find tbl) (plain (aB n)) Y7 n Try.f180 Xa x = N.SK n x.1 x.2.1 x.2.2.1 x.2.2.2.1 x.2.2.2.2 := by kernel_rfl
theorem fE (n : Nat) : K6 Try.prog TT 180 (gP n) := OJ (an := Y7) (n := n) Try.func180 rfl (by kernel_rfl) PO (OI Oc) follows (dr n)
def XR : Sm := ⟨[.val false [(.sl 24 (.one (.sl 3 (.one I))))]], [(false, [(I, 0)])]⟩
def Yy : An := ⟨fun _ => none,
 fun b => match b with
  | 0 => some ([.slot 8 I, .own 5 3 (.one I) 2 false, .own 6 3 (.one I) 2 false, .own 7 3 (.one I) 2 false], false)
  | 2 => some ([.slot 9 I, .slot 10 I], false)
  | _ => none,
 fun b => match b with
  | 13 => some ([.slot 9 I], false)
  | _ => none,
 fun _ => []⟩
def gH (n : Nat) : Mz := ⟨XR, fun x => N.P8 n x⟩
def Z2 (n : Nat) : List (FuncId × Mz) := [(180, gP n)]
theorem YB : Mw Try.prog 159 := ⟨_, _, Try.func159, rfl, by kernel_rfl⟩
theorem da (n : Nat) (x : XR.ins.D) : L9 (find tbl) (plain (Z2 n)) Yy n Try.f159 XR x = N.P8 n x := by kernel_rfl
theorem eh (n : Nat) : K6 Try.prog TT 159 (gH n) := OJ (an := Yy) (n := n) Try.func159 rfl (by kernel_rfl) PO (OI (OQ (fE n) YJ Oc)) follows (da n)
def XS : Sm := ⟨[.val false [(.sl 24 (.one (.sl 3 (.one I))))], .val false [I]], [(false, [((.sl 24 (.one (.sl 3 (.one I)))), 0)])]⟩
def Yz : An := ⟨fun _ => none,
 fun b => match b with
  | 0 => some ([.own 5 24 (.one (.sl 3 (.one I))) 2 false, .slot 6 I], false)
  | _ => none,
 fun _ => none,
 fun _ => []⟩
def gI (n : Nat) : Mz := ⟨XS, fun x => N.Ps n x.1 x.2⟩
def Z3 (n : Nat) : List (FuncId × Mz) := []
theorem YC : Mw Try.prog 160 := ⟨_, _, Try.func160, rfl, by kernel_rfl⟩
theorem db (n : Nat) (x : XS.ins.D) : L9 (find tbl) (plain (Z3 n)) Yz n Try.f160 XS x = N.Ps n x.1 x.2 := by kernel_rfl
theorem ej (n : Nat) : K6 Try.prog TT 160 (gI n) := OJ (an := Yz) (n := n) Try.func160 rfl (by kernel_rfl) PO (OI Oc) follows (db n)
def W9 : Sm := ⟨[.val false [(.sl 24 (.one (.sl 3 (.one I))))]], [(false, [((.sl 3 (.one I)), 2)]), (false, [(I, 0)])]⟩
def Yg : An := ⟨fun _ => none,
 fun b => match b with
  | 0 => some ([.own 8 3 (.one I) 2 false, .slot 9 I], false)
  | 2 => some ([.own 4 3 (.one I) 2 false, .slot 6 I, .slot 7 (.sl 24 (.one (.sl 3 (.one I)))), .own 8 3 (.one I) 2 false], false)
  | 4 => some ([.own 4 3 (.one I) 2 false, .slot 6 I, .slot 7 (.sl 24 (.one (.sl 3 (.one I)))), .own 8 3 (.one I) 2 false, .slot 10 I], false)
  | _ => none,
 fun _ => none,
 fun _ => []⟩
def fi (n : Nat) : Mz := ⟨W9, fun x => N.R6 n x⟩
def Zk (n : Nat) : List (FuncId × Mz) := [(158, gG n), (159, gH n), (160, gI n)]
theorem Xv : Mw Try.prog 110 := ⟨_, _, Try.func110, rfl, by kernel_rfl⟩
theorem dI (n : Nat) (x : W9.ins.D) : L9 (find tbl) (plain (Zk n)) Yg n Try.f110 W9 x = N.R6 n x := by kernel_rfl
theorem eM (n : Nat) : K6 Try.prog TT 110 (fi n) := OJ (an := Yg) (n := n) Try.func110 rfl (by kernel_rfl) PO (OI (OQ (ed n) YA (OQ (eh n) YB (OQ (ej n) YC Oc)))) follows (dI n)
def aY : Sm := ⟨[.val true [I, I, (.sl 3 (.one I))], .val true [(.sl 104 k7)], .val false [(.sl 43 k5)], .val false [(.sl 75 k4)]], [(false, [((.sl 43 k5), 2)]), (false, [((.sl 75 k4), 2)])]⟩
def bQ : An := ⟨fun _ => none,
 fun b => match b with
  | 0 => some ([.own 14 24 (.one (.sl 3 (.one I))) 2 false, .slot 15 I], false)
  | 2 => some ([.own 16 3 (.one I) 2 false, .slot 17 I], false)
  | 4 => some ([.slot 20 I, .own 10 43 k5 2 false, .own 11 75 k4 2 false], false)
  | _ => none,
 fun b => match b with
  | 19 => some ([.own 10 43 k5 2 false, .own 11 75 k4 2 false], false)
  | _ => none,
 fun _ => []⟩
def jM (n : Nat) : Mz := ⟨aY, fun x => N.RG n x.1 x.2.1 x.2.2.1 x.2.2.2.1 x.2.2.2.2.1 x.2.2.2.2.2⟩
def cM (n : Nat) : List (FuncId × Mz) := [(30, ij n), (31, gh n), (32, ik n), (106, fZ n), (107, fe n), (108, fg n), (109, aP n), (110, fi n)]
theorem ZO : Mw Try.prog 27 := ⟨_, _, Try.func27, rfl, by kernel_rfl⟩
theorem gu (n : Nat) (x : aY.ins.D) : L9 (find tbl) (plain (cM n)) bQ n Try.f27 aY x = N.RG n x.1 x.2.1 x.2.2.1 x.2.2.2.1 x.2.2.2.2.1 x.2.2.2.2.2 := by kernel_rfl
theorem iT (n : Nat) : K6 Try.prog TT 27 (jM n) := OJ (an := bQ) (n := n) Try.func27 rfl (by kernel_rfl) PO (OI (OQ (fM n) Wf (OQ (aI n) Vc (OQ (fN n) Wg (OQ (eJ n) Xs (OQ (eK n) Xt (OQ (eL n) Xu (OQ (ZF n) V1 (OQ (eM n) Xv Oc))))))))) follows (gu n)
def aZ : Sm := ⟨[.val false [(.sl 43 k5)], .val false [(.sl 43 k5)]], [(false, [(.bool, 0)])]⟩
def bR : An := ⟨fun _ => none,
 fun b => match b with
  | 0 => some ([.slot 5 I], true)
  | _ => none,
 fun _ => none,
 fun _ => []⟩
def jN (n : Nat) : Mz := ⟨aZ, fun x => N.Qf n x.1 x.2⟩
def cN (n : Nat) : List (FuncId × Mz) := []
theorem ZP : Mw Try.prog 28 := ⟨_, _, Try.func28, rfl, by kernel_rfl⟩
theorem gv (n : Nat) (x : aZ.ins.D) : L9 (find tbl) (plain (cN n)) bR n Try.f28 aZ x = N.Qf n x.1 x.2 := by kernel_rfl
theorem iU (n : Nat) : K6 Try.prog TT 28 (jN n) := OJ (an := bR) (n := n) Try.func28 rfl (by kernel_rfl) PO (OI Oc) follows (gv n)
def ab : Sm := ⟨[.val false [(.sl 75 k4)], .val false [(.sl 75 k4)]], [(false, [(.bool, 0)])]⟩
def bS : An := ⟨fun _ => none,
 fun b => match b with
  | 0 => some ([.slot 5 I], true)
  | _ => none,
 fun _ => none,
 fun _ => []⟩
def jO (n : Nat) : Mz := ⟨ab, fun x => N.QG n x.1 x.2⟩
def cO (n : Nat) : List (FuncId × Mz) := []
theorem ZQ : Mw Try.prog 29 := ⟨_, _, Try.func29, rfl, by kernel_rfl⟩
theorem gw (n : Nat) (x : ab.ins.D) : L9 (find tbl) (plain (cO n)) bS n Try.f29 ab x = N.QG n x.1 x.2 := by kernel_rfl
theorem iV (n : Nat) : K6 Try.prog TT 29 (jO n) := OJ (an := bS) (n := n) Try.func29 rfl (by kernel_rfl) PO (OI Oc) follows (gw n)
def ix : Sm := ⟨[.val false [(.sl 5 (.one (.int .u8)))]], [(false, [(.bool, 0)])]⟩
def jC : An := ⟨fun _ => none,
 fun b => match b with
  | 0 => some ([.slot 11 I], true)
  | 2 => some ([.slot 12 I], true)
  | _ => none,
 fun _ => none,
 fun _ => []⟩
def s5 (n : Nat) : Mz := ⟨ix, fun x => N.Qh n x⟩
def gm (n : Nat) : List (FuncId × Mz) := [(7, s7 n), (25, jK n), (26, jL n), (27, jM n), (28, jN n), (29, jO n), (30, ij n), (31, gh n), (32, ik n), (33, iq n), (34, iu n)]
theorem jE : Mw Try.prog 5 := ⟨_, _, Try.func5, rfl, by kernel_rfl⟩
theorem ja (n : Nat) (x : ix.ins.D) : L9 (find tbl) (plain (gm n)) jC n Try.f5 ix x = N.Qh n x := by kernel_rfl
theorem jg (n : Nat) : K6 Try.prog TT 5 (s5 n) := OJ (an := jC) (n := n) Try.func5 rfl (by kernel_rfl) PO (OI (OQ (jh n) cG (OQ (iR n) ZM (OQ (iS n) ZN (OQ (iT n) ZO (OQ (iU n) ZP (OQ (iV n) ZQ (OQ (fM n) Wf (OQ (aI n) Vc (OQ (fN n) Wg (OQ (fO n) Wh (OQ (fQ n) Wi Oc)))))))))))) follows (ja n)
end Go.Proofs.Ytglbgceejloiaaa.Ev
