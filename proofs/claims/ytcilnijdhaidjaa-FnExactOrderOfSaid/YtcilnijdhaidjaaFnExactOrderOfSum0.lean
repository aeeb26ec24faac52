/- Tables of types; summaries of the functions. Conditions: none. -/
import Derived.Test.YtcilnijdhaidjaaLib3
import Derived.Test.YtcilnijdhaidjaaFnExactOrderOfNat
import Derived.Test.YtcilnijdhaidjaaProg
import Derived.KernelRfl
namespace Go.Proofs.Ytcilnijdhaidjaa.Ev
open Go Go.Ev Go.Proofs
set_option linter.unusedVariables false
set_option maxRecDepth 100000

abbrev I : L := .int .i64
def k0 : Ls := (.cons .str (.one (.int .u64)))
def k1 : Ls := (.cons I (.one I))
def k2 : Ls := (.cons I (.cons I (.one I)))
def k3 : Ls := (.cons .bool (.cons I (.one I)))
def k4 : Ls := (.cons I (.cons I (.cons .bool (.one (.int .u8)))))
def k5 : Ls := (.cons I (.cons I (.cons I (.one I))))
def k6 : Ls := (.cons I (.cons I (.cons I (.cons .bool (.one I)))))
def k7 : Ls := (.cons I (.cons I (.one (.sl 3 (.one I)))))
def k8 : Ls := (.cons I (.cons I (.one (.sl 175 k2))))
def k9 : Ls := (.cons I (.cons I (.one (.sl 195 k2))))
def k10 : Ls := (.cons I (.cons I (.cons (.sl 149 k1) (.cons (.sl 151 k2) (.one I)))))
def k11 : Ls := (.cons I (.cons I (.cons (.sl 147 k1) (.cons (.sl 102 k2) (.one I)))))
def k12 : Ls := (.cons (.sl 3 (.one I)) (.cons I (.cons .bool (.cons I (.cons I (.cons I (.cons (.sl 3 (.one I)) (.one (.sl 127 k3)))))))))
def k13 : Ls := (.cons (.sl 3 (.one I)) (.cons I (.cons .bool (.cons I (.cons I (.cons I (.cons (.sl 3 (.one I)) (.one (.sl 156 k3)))))))))
def k14 : Ls := (.cons I (.one (.sl 33 k10)))
def k15 : Ls := (.cons I (.one (.sl 39 k11)))
def k16 : Ls := (.cons I (.cons I (.cons (.sl 3 (.one I)) (.cons (.sl 185 k9) (.cons I (.cons (.sl 33 k10) (.cons (.sl 165 k6) (.cons (.sl 167 k5) (.cons (.sl 3 (.one I)) (.cons (.sl 3 (.one I)) (.one I)))))))))))
def k17 : Ls := (.cons I (.cons I (.cons (.sl 3 (.one I)) (.cons (.sl 179 k8) (.cons I (.cons (.sl 39 k11) (.cons (.sl 135 k6) (.cons (.sl 110 k5) (.cons (.sl 3 (.one I)) (.cons (.sl 3 (.one I)) (.one I)))))))))))
def tbl : List (Nat × Ty) := [
  (3, ⟨false, (.one I), []⟩),
  (4, ⟨false, (.one .bool), []⟩),
  (30, ⟨false, (.one (.sl 149 k1)), []⟩),
  (31, ⟨false, (.one (.sl 151 k2)), []⟩),
  (33, ⟨true, k10, [(0, 3), (1, 3), (2, 30), (3, 31), (4, 3)]⟩),
  (35, ⟨false, (.one (.sl 102 k2)), []⟩),
  (37, ⟨false, (.one (.sl 147 k1)), []⟩),
  (39, ⟨true, k11, [(0, 3), (1, 3), (2, 37), (3, 35), (4, 3)]⟩),
  (59, ⟨false, (.one (.sl 33 k10)), []⟩),
  (61, ⟨true, k14, [(0, 3), (1, 59)]⟩),
  (65, ⟨false, (.one (.sl 39 k11)), []⟩),
  (67, ⟨true, k15, [(0, 3), (1, 65)]⟩),
  (102, ⟨true, k2, [(0, 3), (1, 3), (2, 3)]⟩),
  (147, ⟨true, k1, [(0, 3), (1, 3)]⟩),
  (149, ⟨true, k1, [(0, 3), (1, 3)]⟩),
  (151, ⟨true, k2, [(0, 3), (1, 3), (2, 3)]⟩)]
theorem tblOk : tbl.all (fun p => tyB Try.prog p.1 p.2) = true := by kernel_rfl
theorem follows : Try.prog.follows .mixedOrders = true := by kernel_rfl
-- laws_szItemS
def sm62 : Sm := ⟨[.val false [(.sl 149 k1)], .val false [I]], [(false, [(I, 0)])]⟩
def an62 : An := ⟨fun _ => none,
  fun _ => none,
  fun _ => none⟩
def s62 (n : Nat) : SmF := ⟨sm62, fun x => N.laws_szItemS x.1 x.2⟩
def env62 (n : Nat) : List (FuncId × SmF) := []
theorem ev62 (n : Nat) (x : sm62.ins.D) : evFn (find tbl) (find (env62 n)) an62 n Try.f62 sm62 x = N.laws_szItemS x.1 x.2 := by kernel_rfl
theorem ok62 (n : Nat) : FnOk Try.prog 62 (s62 n) := fn_native (an := an62) (n := n) Try.func62 rfl (by kernel_rfl) tblOk env_nil follows (ev62 n)
theorem body62 : HasBody Try.prog 62 := ⟨_, _, Try.func62, rfl, by kernel_rfl⟩

-- laws_szPickS
def sm63 : Sm := ⟨[.val false [(.sl 151 k2)], .val false [I]], [(false, [(I, 0)])]⟩
def an63 : An := ⟨fun _ => none,
  fun _ => none,
  fun _ => none⟩
def s63 (n : Nat) : SmF := ⟨sm63, fun x => N.laws_szPickS x.1 x.2⟩
def env63 (n : Nat) : List (FuncId × SmF) := []
theorem ev63 (n : Nat) (x : sm63.ins.D) : evFn (find tbl) (find (env63 n)) an63 n Try.f63 sm63 x = N.laws_szPickS x.1 x.2 := by kernel_rfl
theorem ok63 (n : Nat) : FnOk Try.prog 63 (s63 n) := fn_native (an := an63) (n := n) Try.func63 rfl (by kernel_rfl) tblOk env_nil follows (ev63 n)
theorem body63 : HasBody Try.prog 63 := ⟨_, _, Try.func63, rfl, by kernel_rfl⟩

-- laws_szOrder
def sm18 : Sm := ⟨[.val true [I, I, (.sl 149 k1), (.sl 151 k2), I], .val false [I]], [(false, [(I, 0)])]⟩
def an18 : An := ⟨fun _ => none,
  fun _ => none,
  fun _ => none⟩
def s18 (n : Nat) : SmF := ⟨sm18, fun x => N.laws_szOrder x.1 x.2.1 x.2.2.1 x.2.2.2.1 x.2.2.2.2.1 x.2.2.2.2.2⟩
def env18 (n : Nat) : List (FuncId × SmF) := [(62, s62 n), (63, s63 n)]
theorem ev18 (n : Nat) (x : sm18.ins.D) : evFn (find tbl) (find (env18 n)) an18 n Try.f18 sm18 x = N.laws_szOrder x.1 x.2.1 x.2.2.1 x.2.2.2.1 x.2.2.2.2.1 x.2.2.2.2.2 := by kernel_rfl
theorem ok18 (n : Nat) : FnOk Try.prog 18 (s18 n) := fn_native (an := an18) (n := n) Try.func18 rfl (by kernel_rfl) tblOk (env_cons (ok62 n) body62 (env_cons (ok63 n) body63 env_nil)) follows (ev18 n)
theorem body18 : HasBody Try.prog 18 := ⟨_, _, Try.func18, rfl, by kernel_rfl⟩

-- laws_szOrderS
def sm82 : Sm := ⟨[.val false [(.sl 33 k10)], .val false [I]], [(false, [(I, 0)])]⟩
def an82 : An := ⟨fun _ => none,
  fun b => match b with
    | 0 => some ([.slot 1 I, .slot 5 I], true)
    | _ => none,
  fun _ => none⟩
def s82 (n : Nat) : SmF := ⟨sm82, fun x => N.laws_szOrderS n x.1 x.2⟩
def env82 (n : Nat) : List (FuncId × SmF) := [(18, s18 n)]
theorem ev82 (n : Nat) (x : sm82.ins.D) : evFn (find tbl) (find (env82 n)) an82 n Try.f82 sm82 x = N.laws_szOrderS n x.1 x.2 := by kernel_rfl
theorem ok82 (n : Nat) : FnOk Try.prog 82 (s82 n) := fn_native (an := an82) (n := n) Try.func82 rfl (by kernel_rfl) tblOk (env_cons (ok18 n) body18 env_nil) follows (ev82 n)
theorem body82 : HasBody Try.prog 82 := ⟨_, _, Try.func82, rfl, by kernel_rfl⟩

-- laws_szBook
def sm36 : Sm := ⟨[.val true [I, (.sl 33 k10)], .val false [I]], [(false, [(I, 0)])]⟩
def an36 : An := ⟨fun _ => none,
  fun _ => none,
  fun _ => none⟩
def s36 (n : Nat) : SmF := ⟨sm36, fun x => N.laws_szBook n x.1 x.2.1 x.2.2⟩
def env36 (n : Nat) : List (FuncId × SmF) := [(82, s82 n)]
theorem ev36 (n : Nat) (x : sm36.ins.D) : evFn (find tbl) (find (env36 n)) an36 n Try.f36 sm36 x = N.laws_szBook n x.1 x.2.1 x.2.2 := by kernel_rfl
theorem ok36 (n : Nat) : FnOk Try.prog 36 (s36 n) := fn_native (an := an36) (n := n) Try.func36 rfl (by kernel_rfl) tblOk (env_cons (ok82 n) body82 env_nil) follows (ev36 n)
theorem body36 : HasBody Try.prog 36 := ⟨_, _, Try.func36, rfl, by kernel_rfl⟩

-- laws_toItem
def sm112 : Sm := ⟨[.val true [I, I]], [(true, [(I, 0), (I, 0)])]⟩
def an112 : An := ⟨fun _ => none,
  fun _ => none,
  fun _ => none⟩
def s112 (n : Nat) : SmF := ⟨sm112, fun x => N.laws_toItem x.1 x.2⟩
def env112 (n : Nat) : List (FuncId × SmF) := []
theorem ev112 (n : Nat) (x : sm112.ins.D) : evFn (find tbl) (find (env112 n)) an112 n Try.f112 sm112 x = N.laws_toItem x.1 x.2 := by kernel_rfl
theorem ok112 (n : Nat) : FnOk Try.prog 112 (s112 n) := fn_native (an := an112) (n := n) Try.func112 rfl (by kernel_rfl) tblOk env_nil follows (ev112 n)
theorem body112 : HasBody Try.prog 112 := ⟨_, _, Try.func112, rfl, by kernel_rfl⟩

-- laws_toItemS
def sm64 : Sm := ⟨[.val false [(.sl 149 k1)]], [(false, [((.sl 147 k1), 2)])]⟩
def an64 : An := ⟨fun _ => none,
  fun b => match b with
    | 0 => some ([.slot 4 I, .own 3 147 k1 2 false], false)
    | _ => none,
  fun _ => none⟩
def s64 (n : Nat) : SmF := ⟨sm64, fun x => N.laws_toItemS n x⟩
def env64 (n : Nat) : List (FuncId × SmF) := [(112, s112 n)]
theorem ev64 (n : Nat) (x : sm64.ins.D) : evFn (find tbl) (find (env64 n)) an64 n Try.f64 sm64 x = N.laws_toItemS n x := by kernel_rfl
theorem ok64 (n : Nat) : FnOk Try.prog 64 (s64 n) := fn_native (an := an64) (n := n) Try.func64 rfl (by kernel_rfl) tblOk (env_cons (ok112 n) body112 env_nil) follows (ev64 n)
theorem body64 : HasBody Try.prog 64 := ⟨_, _, Try.func64, rfl, by kernel_rfl⟩

-- laws_toPick
def sm113 : Sm := ⟨[.val true [I, I, I]], [(true, [(I, 0), (I, 0), (I, 0)])]⟩
def an113 : An := ⟨fun _ => none,
  fun _ => none,
  fun _ => none⟩
def s113 (n : Nat) : SmF := ⟨sm113, fun x => N.laws_toPick x.1 x.2.1 x.2.2⟩
def env113 (n : Nat) : List (FuncId × SmF) := []
theorem ev113 (n : Nat) (x : sm113.ins.D) : evFn (find tbl) (find (env113 n)) an113 n Try.f113 sm113 x = N.laws_toPick x.1 x.2.1 x.2.2 := by kernel_rfl
theorem ok113 (n : Nat) : FnOk Try.prog 113 (s113 n) := fn_native (an := an113) (n := n) Try.func113 rfl (by kernel_rfl) tblOk env_nil follows (ev113 n)
theorem body113 : HasBody Try.prog 113 := ⟨_, _, Try.func113, rfl, by kernel_rfl⟩

-- laws_toPickS
def sm65 : Sm := ⟨[.val false [(.sl 151 k2)]], [(false, [((.sl 102 k2), 2)])]⟩
def an65 : An := ⟨fun _ => none,
  fun b => match b with
    | 0 => some ([.slot 4 I, .own 3 102 k2 2 false], false)
    | _ => none,
  fun _ => none⟩
def s65 (n : Nat) : SmF := ⟨sm65, fun x => N.laws_toPickS n x⟩
def env65 (n : Nat) : List (FuncId × SmF) := [(113, s113 n)]
theorem ev65 (n : Nat) (x : sm65.ins.D) : evFn (find tbl) (find (env65 n)) an65 n Try.f65 sm65 x = N.laws_toPickS n x := by kernel_rfl
theorem ok65 (n : Nat) : FnOk Try.prog 65 (s65 n) := fn_native (an := an65) (n := n) Try.func65 rfl (by kernel_rfl) tblOk (env_cons (ok113 n) body113 env_nil) follows (ev65 n)
theorem body65 : HasBody Try.prog 65 := ⟨_, _, Try.func65, rfl, by kernel_rfl⟩

-- laws_toOrder
def sm20 : Sm := ⟨[.val true [I, I, (.sl 149 k1), (.sl 151 k2), I]], [(true, [(I, 0), (I, 0), ((.sl 147 k1), 2), ((.sl 102 k2), 2), (I, 0)])]⟩
def an20 : An := ⟨fun _ => none,
  fun _ => none,
  fun _ => none⟩
def s20 (n : Nat) : SmF := ⟨sm20, fun x => N.laws_toOrder n x.1 x.2.1 x.2.2.1 x.2.2.2.1 x.2.2.2.2⟩
def env20 (n : Nat) : List (FuncId × SmF) := [(64, s64 n), (65, s65 n)]
theorem ev20 (n : Nat) (x : sm20.ins.D) : evFn (find tbl) (find (env20 n)) an20 n Try.f20 sm20 x = N.laws_toOrder n x.1 x.2.1 x.2.2.1 x.2.2.2.1 x.2.2.2.2 := by kernel_rfl
theorem ok20 (n : Nat) : FnOk Try.prog 20 (s20 n) := fn_native (an := an20) (n := n) Try.func20 rfl (by kernel_rfl) tblOk (env_cons (ok64 n) body64 (env_cons (ok65 n) body65 env_nil)) follows (ev20 n)
theorem body20 : HasBody Try.prog 20 := ⟨_, _, Try.func20, rfl, by kernel_rfl⟩

-- laws_toOrderS
def sm85 : Sm := ⟨[.val false [(.sl 33 k10)]], [(false, [((.sl 39 k11), 2)])]⟩
def an85 : An := ⟨fun _ => none,
  fun b => match b with
    | 0 => some ([.slot 4 I, .own 3 39 k11 2 false], false)
    | _ => none,
  fun _ => none⟩
def s85 (n : Nat) : SmF := ⟨sm85, fun x => N.laws_toOrderS n x⟩
def env85 (n : Nat) : List (FuncId × SmF) := [(20, s20 n)]
theorem ev85 (n : Nat) (x : sm85.ins.D) : evFn (find tbl) (find (env85 n)) an85 n Try.f85 sm85 x = N.laws_toOrderS n x := by kernel_rfl
theorem ok85 (n : Nat) : FnOk Try.prog 85 (s85 n) := fn_native (an := an85) (n := n) Try.func85 rfl (by kernel_rfl) tblOk (env_cons (ok20 n) body20 env_nil) follows (ev85 n)
theorem body85 : HasBody Try.prog 85 := ⟨_, _, Try.func85, rfl, by kernel_rfl⟩

-- laws_toBook
def sm38 : Sm := ⟨[.val true [I, (.sl 33 k10)]], [(true, [(I, 0), ((.sl 39 k11), 2)])]⟩
def an38 : An := ⟨fun _ => none,
  fun _ => none,
  fun _ => none⟩
def s38 (n : Nat) : SmF := ⟨sm38, fun x => N.laws_toBook n x.1 x.2⟩
def env38 (n : Nat) : List (FuncId × SmF) := [(85, s85 n)]
theorem ev38 (n : Nat) (x : sm38.ins.D) : evFn (find tbl) (find (env38 n)) an38 n Try.f38 sm38 x = N.laws_toBook n x.1 x.2 := by kernel_rfl
theorem ok38 (n : Nat) : FnOk Try.prog 38 (s38 n) := fn_native (an := an38) (n := n) Try.func38 rfl (by kernel_rfl) tblOk (env_cons (ok85 n) body85 env_nil) follows (ev38 n)
theorem body38 : HasBody Try.prog 38 := ⟨_, _, Try.func38, rfl, by kernel_rfl⟩

-- spec_l11Find
def sm83 : Sm := ⟨[.val true [I, (.sl 39 k11)], .val false [I]], [(false, [(I, 0)])]⟩
def an83 : An := ⟨fun _ => none,
  fun b => match b with
    | 0 => some ([.slot 5 I], true)
    | _ => none,
  fun _ => none⟩
def s83 (n : Nat) : SmF := ⟨sm83, fun x => N.spec_l11Find n x.1 x.2.1 x.2.2⟩
def env83 (n : Nat) : List (FuncId × SmF) := []
theorem ev83 (n : Nat) (x : sm83.ins.D) : evFn (find tbl) (find (env83 n)) an83 n Try.f83 sm83 x = N.spec_l11Find n x.1 x.2.1 x.2.2 := by kernel_rfl
theorem ok83 (n : Nat) : FnOk Try.prog 83 (s83 n) := fn_native (an := an83) (n := n) Try.func83 rfl (by kernel_rfl) tblOk env_nil follows (ev83 n)
theorem body83 : HasBody Try.prog 83 := ⟨_, _, Try.func83, rfl, by kernel_rfl⟩

-- spec_l11CopyOrder
def sm84 : Sm := ⟨[.val true [I, I, (.sl 147 k1), (.sl 102 k2), I]], [(true, [(I, 0), (I, 0), ((.sl 147 k1), 2), ((.sl 102 k2), 2), (I, 0)])]⟩
def an84 : An := ⟨fun _ => none,
  fun _ => none,
  fun _ => none⟩
def s84 (n : Nat) : SmF := ⟨sm84, fun x => N.spec_l11CopyOrder x.1 x.2.1 x.2.2.1 x.2.2.2.1 x.2.2.2.2⟩
def env84 (n : Nat) : List (FuncId × SmF) := []
theorem ev84 (n : Nat) (x : sm84.ins.D) : evFn (find tbl) (find (env84 n)) an84 n Try.f84 sm84 x = N.spec_l11CopyOrder x.1 x.2.1 x.2.2.1 x.2.2.2.1 x.2.2.2.2 := by kernel_rfl
theorem ok84 (n : Nat) : FnOk Try.prog 84 (s84 n) := fn_native (an := an84) (n := n) Try.func84 rfl (by kernel_rfl) tblOk env_nil follows (ev84 n)
theorem body84 : HasBody Try.prog 84 := ⟨_, _, Try.func84, rfl, by kernel_rfl⟩

-- spec_OrderOf
def sm37 : Sm := ⟨[.val true [I, (.sl 39 k11)], .val false [I]], [(true, [(I, 0), (I, 0), ((.sl 147 k1), 2), ((.sl 102 k2), 2), (I, 0)]), (false, [(.bool, 0)])]⟩
def an37 : An := ⟨fun _ => none,
  fun _ => none,
  fun _ => none⟩
def s37 (n : Nat) : SmF := ⟨sm37, fun x => N.spec_OrderOf n x.1 x.2.1 x.2.2⟩
def env37 (n : Nat) : List (FuncId × SmF) := [(83, s83 n), (84, s84 n)]
theorem ev37 (n : Nat) (x : sm37.ins.D) : evFn (find tbl) (find (env37 n)) an37 n Try.f37 sm37 x = N.spec_OrderOf n x.1 x.2.1 x.2.2 := by kernel_rfl
theorem ok37 (n : Nat) : FnOk Try.prog 37 (s37 n) := fn_native (an := an37) (n := n) Try.func37 rfl (by kernel_rfl) tblOk (env_cons (ok83 n) body83 (env_cons (ok84 n) body84 env_nil)) follows (ev37 n)
theorem body37 : HasBody Try.prog 37 := ⟨_, _, Try.func37, rfl, by kernel_rfl⟩

-- impl_orderAt
def sm86 : Sm := ⟨[.val true [I, (.sl 39 k11)], .val false [I]], [(false, [(I, 0)])]⟩
def an86 : An := ⟨fun _ => none,
  fun b => match b with
    | 0 => some ([.slot 10 I], true)
    | _ => none,
  fun _ => none⟩
def s86 (n : Nat) : SmF := ⟨sm86, fun x => N.impl_orderAt n x.1 x.2.1 x.2.2⟩
def env86 (n : Nat) : List (FuncId × SmF) := []
theorem ev86 (n : Nat) (x : sm86.ins.D) : evFn (find tbl) (find (env86 n)) an86 n Try.f86 sm86 x = N.impl_orderAt n x.1 x.2.1 x.2.2 := by kernel_rfl
theorem ok86 (n : Nat) : FnOk Try.prog 86 (s86 n) := fn_native (an := an86) (n := n) Try.func86 rfl (by kernel_rfl) tblOk env_nil follows (ev86 n)
theorem body86 : HasBody Try.prog 86 := ⟨_, _, Try.func86, rfl, by kernel_rfl⟩

-- impl_copyItems
def sm122 : Sm := ⟨[.val false [(.sl 147 k1)]], [(false, [((.sl 147 k1), 2)])]⟩
def an122 : An := ⟨fun _ => none,
  fun _ => none,
  fun _ => none⟩
def s122 (n : Nat) : SmF := ⟨sm122, fun x => N.impl_copyItems x⟩
def env122 (n : Nat) : List (FuncId × SmF) := []
theorem ev122 (n : Nat) (x : sm122.ins.D) : evFn (find tbl) (find (env122 n)) an122 n Try.f122 sm122 x = N.impl_copyItems x := by kernel_rfl
theorem ok122 (n : Nat) : FnOk Try.prog 122 (s122 n) := fn_native (an := an122) (n := n) Try.func122 rfl (by kernel_rfl) tblOk env_nil follows (ev122 n)
theorem body122 : HasBody Try.prog 122 := ⟨_, _, Try.func122, rfl, by kernel_rfl⟩

-- impl_copyPicks
def sm123 : Sm := ⟨[.val false [(.sl 102 k2)]], [(false, [((.sl 102 k2), 2)])]⟩
def an123 : An := ⟨fun _ => none,
  fun _ => none,
  fun _ => none⟩
def s123 (n : Nat) : SmF := ⟨sm123, fun x => N.impl_copyPicks x⟩
def env123 (n : Nat) : List (FuncId × SmF) := []
theorem ev123 (n : Nat) (x : sm123.ins.D) : evFn (find tbl) (find (env123 n)) an123 n Try.f123 sm123 x = N.impl_copyPicks x := by kernel_rfl
theorem ok123 (n : Nat) : FnOk Try.prog 123 (s123 n) := fn_native (an := an123) (n := n) Try.func123 rfl (by kernel_rfl) tblOk env_nil follows (ev123 n)
theorem body123 : HasBody Try.prog 123 := ⟨_, _, Try.func123, rfl, by kernel_rfl⟩

-- impl_copyOrder
def sm87 : Sm := ⟨[.val true [I, I, (.sl 147 k1), (.sl 102 k2), I]], [(true, [(I, 0), (I, 0), ((.sl 147 k1), 2), ((.sl 102 k2), 2), (I, 0)])]⟩
def an87 : An := ⟨fun _ => none,
  fun _ => none,
  fun _ => none⟩
def s87 (n : Nat) : SmF := ⟨sm87, fun x => N.impl_copyOrder x.1 x.2.1 x.2.2.1 x.2.2.2.1 x.2.2.2.2⟩
def env87 (n : Nat) : List (FuncId × SmF) := [(122, s122 n), (123, s123 n)]
theorem ev87 (n : Nat) (x : sm87.ins.D) : evFn (find tbl) (find (env87 n)) an87 n Try.f87 sm87 x = N.impl_copyOrder x.1 x.2.1 x.2.2.1 x.2.2.2.1 x.2.2.2.2 := by kernel_rfl
theorem ok87 (n : Nat) : FnOk Try.prog 87 (s87 n) := fn_native (an := an87) (n := n) Try.func87 rfl (by kernel_rfl) tblOk (env_cons (ok122 n) body122 (env_cons (ok123 n) body123 env_nil)) follows (ev87 n)
theorem body87 : HasBody Try.prog 87 := ⟨_, _, Try.func87, rfl, by kernel_rfl⟩

-- impl_OrderOf
def sm39 : Sm := ⟨[.val true [I, (.sl 39 k11)], .val false [I]], [(true, [(I, 0), (I, 0), ((.sl 147 k1), 2), ((.sl 102 k2), 2), (I, 0)]), (false, [(.bool, 0)])]⟩
def an39 : An := ⟨fun _ => none,
  fun _ => none,
  fun _ => none⟩
def s39 (n : Nat) : SmF := ⟨sm39, fun x => N.impl_OrderOf n x.1 x.2.1 x.2.2⟩
def env39 (n : Nat) : List (FuncId × SmF) := [(86, s86 n), (87, s87 n)]
theorem ev39 (n : Nat) (x : sm39.ins.D) : evFn (find tbl) (find (env39 n)) an39 n Try.f39 sm39 x = N.impl_OrderOf n x.1 x.2.1 x.2.2 := by kernel_rfl
theorem ok39 (n : Nat) : FnOk Try.prog 39 (s39 n) := fn_native (an := an39) (n := n) Try.func39 rfl (by kernel_rfl) tblOk (env_cons (ok86 n) body86 (env_cons (ok87 n) body87 env_nil)) follows (ev39 n)
theorem body39 : HasBody Try.prog 39 := ⟨_, _, Try.func39, rfl, by kernel_rfl⟩

-- laws_eqItem
def sm114 : Sm := ⟨[.val true [I, I], .val true [I, I]], [(false, [(.bool, 0)])]⟩
def an114 : An := ⟨fun _ => none,
  fun _ => none,
  fun _ => none⟩
def s114 (n : Nat) : SmF := ⟨sm114, fun x => N.laws_eqItem x.1 x.2.1 x.2.2.1 x.2.2.2⟩
def env114 (n : Nat) : List (FuncId × SmF) := []
theorem ev114 (n : Nat) (x : sm114.ins.D) : evFn (find tbl) (find (env114 n)) an114 n Try.f114 sm114 x = N.laws_eqItem x.1 x.2.1 x.2.2.1 x.2.2.2 := by kernel_rfl
theorem ok114 (n : Nat) : FnOk Try.prog 114 (s114 n) := fn_native (an := an114) (n := n) Try.func114 rfl (by kernel_rfl) tblOk env_nil follows (ev114 n)
theorem body114 : HasBody Try.prog 114 := ⟨_, _, Try.func114, rfl, by kernel_rfl⟩

-- laws_eqItemS
def sm67 : Sm := ⟨[.val false [(.sl 147 k1)], .val false [(.sl 147 k1)]], [(false, [(.bool, 0)])]⟩
def an67 : An := ⟨fun _ => none,
  fun b => match b with
    | 0 => some ([.slot 5 I], true)
    | _ => none,
  fun _ => none⟩
def s67 (n : Nat) : SmF := ⟨sm67, fun x => N.laws_eqItemS n x.1 x.2⟩
def env67 (n : Nat) : List (FuncId × SmF) := [(114, s114 n)]
theorem ev67 (n : Nat) (x : sm67.ins.D) : evFn (find tbl) (find (env67 n)) an67 n Try.f67 sm67 x = N.laws_eqItemS n x.1 x.2 := by kernel_rfl
theorem ok67 (n : Nat) : FnOk Try.prog 67 (s67 n) := fn_native (an := an67) (n := n) Try.func67 rfl (by kernel_rfl) tblOk (env_cons (ok114 n) body114 env_nil) follows (ev67 n)
theorem body67 : HasBody Try.prog 67 := ⟨_, _, Try.func67, rfl, by kernel_rfl⟩

-- laws_eqPick
def sm66 : Sm := ⟨[.val true [I, I, I], .val true [I, I, I]], [(false, [(.bool, 0)])]⟩
def an66 : An := ⟨fun _ => none,
  fun _ => none,
  fun _ => none⟩
def s66 (n : Nat) : SmF := ⟨sm66, fun x => N.laws_eqPick x.1 x.2.1 x.2.2.1 x.2.2.2.1 x.2.2.2.2.1 x.2.2.2.2.2⟩
def env66 (n : Nat) : List (FuncId × SmF) := []
theorem ev66 (n : Nat) (x : sm66.ins.D) : evFn (find tbl) (find (env66 n)) an66 n Try.f66 sm66 x = N.laws_eqPick x.1 x.2.1 x.2.2.1 x.2.2.2.1 x.2.2.2.2.1 x.2.2.2.2.2 := by kernel_rfl
theorem ok66 (n : Nat) : FnOk Try.prog 66 (s66 n) := fn_native (an := an66) (n := n) Try.func66 rfl (by kernel_rfl) tblOk env_nil follows (ev66 n)
theorem body66 : HasBody Try.prog 66 := ⟨_, _, Try.func66, rfl, by kernel_rfl⟩

-- laws_eqPickS
def sm22 : Sm := ⟨[.val false [(.sl 102 k2)], .val false [(.sl 102 k2)]], [(false, [(.bool, 0)])]⟩
def an22 : An := ⟨fun _ => none,
  fun b => match b with
    | 0 => some ([.slot 5 I], true)
    | _ => none,
  fun _ => none⟩
def s22 (n : Nat) : SmF := ⟨sm22, fun x => N.laws_eqPickS n x.1 x.2⟩
def env22 (n : Nat) : List (FuncId × SmF) := [(66, s66 n)]
theorem ev22 (n : Nat) (x : sm22.ins.D) : evFn (find tbl) (find (env22 n)) an22 n Try.f22 sm22 x = N.laws_eqPickS n x.1 x.2 := by kernel_rfl
theorem ok22 (n : Nat) : FnOk Try.prog 22 (s22 n) := fn_native (an := an22) (n := n) Try.func22 rfl (by kernel_rfl) tblOk (env_cons (ok66 n) body66 env_nil) follows (ev22 n)
theorem body22 : HasBody Try.prog 22 := ⟨_, _, Try.func22, rfl, by kernel_rfl⟩

-- laws_eqOrder
def sm23 : Sm := ⟨[.val true [I, I, (.sl 147 k1), (.sl 102 k2), I], .val true [I, I, (.sl 147 k1), (.sl 102 k2), I]], [(false, [(.bool, 0)])]⟩
def an23 : An := ⟨fun _ => none,
  fun _ => none,
  fun _ => none⟩
def s23 (n : Nat) : SmF := ⟨sm23, fun x => N.laws_eqOrder n x.1 x.2.1 x.2.2.1 x.2.2.2.1 x.2.2.2.2.1 x.2.2.2.2.2.1 x.2.2.2.2.2.2.1 x.2.2.2.2.2.2.2.1 x.2.2.2.2.2.2.2.2.1 x.2.2.2.2.2.2.2.2.2⟩
def env23 (n : Nat) : List (FuncId × SmF) := [(22, s22 n), (67, s67 n)]
theorem ev23 (n : Nat) (x : sm23.ins.D) : evFn (find tbl) (find (env23 n)) an23 n Try.f23 sm23 x = N.laws_eqOrder n x.1 x.2.1 x.2.2.1 x.2.2.2.1 x.2.2.2.2.1 x.2.2.2.2.2.1 x.2.2.2.2.2.2.1 x.2.2.2.2.2.2.2.1 x.2.2.2.2.2.2.2.2.1 x.2.2.2.2.2.2.2.2.2 := by kernel_rfl
theorem ok23 (n : Nat) : FnOk Try.prog 23 (s23 n) := fn_native (an := an23) (n := n) Try.func23 rfl (by kernel_rfl) tblOk (env_cons (ok22 n) body22 (env_cons (ok67 n) body67 env_nil)) follows (ev23 n)
theorem body23 : HasBody Try.prog 23 := ⟨_, _, Try.func23, rfl, by kernel_rfl⟩

-- laws_eqOrderS
def sm88 : Sm := ⟨[.val false [(.sl 39 k11)], .val false [(.sl 39 k11)]], [(false, [(.bool, 0)])]⟩
def an88 : An := ⟨fun _ => none,
  fun b => match b with
    | 0 => some ([.slot 5 I], true)
    | _ => none,
  fun _ => none⟩
def s88 (n : Nat) : SmF := ⟨sm88, fun x => N.laws_eqOrderS n x.1 x.2⟩
def env88 (n : Nat) : List (FuncId × SmF) := [(23, s23 n)]
theorem ev88 (n : Nat) (x : sm88.ins.D) : evFn (find tbl) (find (env88 n)) an88 n Try.f88 sm88 x = N.laws_eqOrderS n x.1 x.2 := by kernel_rfl
theorem ok88 (n : Nat) : FnOk Try.prog 88 (s88 n) := fn_native (an := an88) (n := n) Try.func88 rfl (by kernel_rfl) tblOk (env_cons (ok23 n) body23 env_nil) follows (ev88 n)
theorem body88 : HasBody Try.prog 88 := ⟨_, _, Try.func88, rfl, by kernel_rfl⟩

-- laws_eqBook
def sm40 : Sm := ⟨[.val true [I, (.sl 39 k11)], .val true [I, (.sl 39 k11)]], [(false, [(.bool, 0)])]⟩
def an40 : An := ⟨fun _ => none,
  fun _ => none,
  fun _ => none⟩
def s40 (n : Nat) : SmF := ⟨sm40, fun x => N.laws_eqBook n x.1 x.2.1 x.2.2.1 x.2.2.2⟩
def env40 (n : Nat) : List (FuncId × SmF) := [(88, s88 n)]
theorem ev40 (n : Nat) (x : sm40.ins.D) : evFn (find tbl) (find (env40 n)) an40 n Try.f40 sm40 x = N.laws_eqBook n x.1 x.2.1 x.2.2.1 x.2.2.2 := by kernel_rfl
theorem ok40 (n : Nat) : FnOk Try.prog 40 (s40 n) := fn_native (an := an40) (n := n) Try.func40 rfl (by kernel_rfl) tblOk (env_cons (ok88 n) body88 env_nil) follows (ev40 n)
theorem body40 : HasBody Try.prog 40 := ⟨_, _, Try.func40, rfl, by kernel_rfl⟩

-- laws_markItemS
def sm68 : Sm := ⟨[.row false [((.sl 147 k1), 2)], .val false [I]], [(false, [(I, 0)])]⟩
def an68 : An := ⟨fun _ => none,
  fun b => match b with
    | 0 => some ([.slot 1 I, .slot 5 I, .own 0 147 k1 2 true], false)
    | _ => none,
  fun _ => none⟩
def s68 (n : Nat) : SmF := ⟨sm68, fun x => N.laws_markItemS n x.1 x.2⟩
def env68 (n : Nat) : List (FuncId × SmF) := []
theorem ev68 (n : Nat) (x : sm68.ins.D) : evFn (find tbl) (find (env68 n)) an68 n Try.f68 sm68 x = N.laws_markItemS n x.1 x.2 := by kernel_rfl
theorem ok68 (n : Nat) : FnOk Try.prog 68 (s68 n) := fn_native (an := an68) (n := n) Try.func68 rfl (by kernel_rfl) tblOk env_nil follows (ev68 n)
theorem body68 : HasBody Try.prog 68 := ⟨_, _, Try.func68, rfl, by kernel_rfl⟩

-- laws_markPickS
def sm25 : Sm := ⟨[.row false [((.sl 102 k2), 2)], .val false [I]], [(false, [(I, 0)])]⟩
def an25 : An := ⟨fun _ => none,
  fun b => match b with
    | 0 => some ([.slot 1 I, .slot 5 I, .own 0 102 k2 2 true], false)
    | _ => none,
  fun _ => none⟩
def s25 (n : Nat) : SmF := ⟨sm25, fun x => N.laws_markPickS n x.1 x.2⟩
def env25 (n : Nat) : List (FuncId × SmF) := []
theorem ev25 (n : Nat) (x : sm25.ins.D) : evFn (find tbl) (find (env25 n)) an25 n Try.f25 sm25 x = N.laws_markPickS n x.1 x.2 := by kernel_rfl
theorem ok25 (n : Nat) : FnOk Try.prog 25 (s25 n) := fn_native (an := an25) (n := n) Try.func25 rfl (by kernel_rfl) tblOk env_nil follows (ev25 n)
theorem body25 : HasBody Try.prog 25 := ⟨_, _, Try.func25, rfl, by kernel_rfl⟩

-- laws_markOrderS
def sm89 : Sm := ⟨[.row false [((.sl 39 k11), 2)], .val false [I]], [(false, [(I, 0)])]⟩
def an89 : An := ⟨fun _ => none,
  fun b => match b with
    | 0 => some ([.slot 1 I, .slot 5 I, .own 0 39 k11 2 true], false)
    | _ => none,
  fun _ => none⟩
def s89 (n : Nat) : SmF := ⟨sm89, fun x => N.laws_markOrderS n x.1 x.2⟩
def env89 (n : Nat) : List (FuncId × SmF) := [(25, s25 n), (68, s68 n)]
theorem ev89 (n : Nat) (x : sm89.ins.D) : evFn (find tbl) (find (env89 n)) an89 n Try.f89 sm89 x = N.laws_markOrderS n x.1 x.2 := by kernel_rfl
theorem ok89 (n : Nat) : FnOk Try.prog 89 (s89 n) := fn_native (an := an89) (n := n) Try.func89 rfl (by kernel_rfl) tblOk (env_cons (ok25 n) body25 (env_cons (ok68 n) body68 env_nil)) follows (ev89 n)
theorem body89 : HasBody Try.prog 89 := ⟨_, _, Try.func89, rfl, by kernel_rfl⟩

-- laws_markBook
def sm41 : Sm := ⟨[.row true [(I, 0), ((.sl 39 k11), 2)], .val false [I]], [(false, [(I, 0)])]⟩
def an41 : An := ⟨fun _ => none,
  fun _ => none,
  fun _ => none⟩
def s41 (n : Nat) : SmF := ⟨sm41, fun x => N.laws_markBook n x.1 x.2.1 x.2.2⟩
def env41 (n : Nat) : List (FuncId × SmF) := [(89, s89 n)]
theorem ev41 (n : Nat) (x : sm41.ins.D) : evFn (find tbl) (find (env41 n)) an41 n Try.f41 sm41 x = N.laws_markBook n x.1 x.2.1 x.2.2 := by kernel_rfl
theorem ok41 (n : Nat) : FnOk Try.prog 41 (s41 n) := fn_native (an := an41) (n := n) Try.func41 rfl (by kernel_rfl) tblOk (env_cons (ok89 n) body89 env_nil) follows (ev41 n)
theorem body41 : HasBody Try.prog 41 := ⟨_, _, Try.func41, rfl, by kernel_rfl⟩

-- laws_markOrder
def sm24 : Sm := ⟨[.row true [(I, 0), (I, 0), ((.sl 147 k1), 2), ((.sl 102 k2), 2), (I, 0)], .val false [I]], [(false, [(I, 0)])]⟩
def an24 : An := ⟨fun _ => none,
  fun _ => none,
  fun _ => none⟩
def s24 (n : Nat) : SmF := ⟨sm24, fun x => N.laws_markOrder n x.1 x.2.1 x.2.2.1 x.2.2.2.1 x.2.2.2.2.1 x.2.2.2.2.2⟩
def env24 (n : Nat) : List (FuncId × SmF) := [(25, s25 n), (68, s68 n)]
theorem ev24 (n : Nat) (x : sm24.ins.D) : evFn (find tbl) (find (env24 n)) an24 n Try.f24 sm24 x = N.laws_markOrder n x.1 x.2.1 x.2.2.1 x.2.2.2.1 x.2.2.2.2.1 x.2.2.2.2.2 := by kernel_rfl
theorem ok24 (n : Nat) : FnOk Try.prog 24 (s24 n) := fn_native (an := an24) (n := n) Try.func24 rfl (by kernel_rfl) tblOk (env_cons (ok25 n) body25 (env_cons (ok68 n) body68 env_nil)) follows (ev24 n)
theorem body24 : HasBody Try.prog 24 := ⟨_, _, Try.func24, rfl, by kernel_rfl⟩

-- laws_heldItemS
def sm90 : Sm := ⟨[.val false [(.sl 147 k1)], .val false [I]], [(false, [(I, 0)])]⟩
def an90 : An := ⟨fun _ => none,
  fun b => match b with
    | 0 => some ([.slot 1 I, .slot 5 I], true)
    | _ => none,
  fun _ => none⟩
def s90 (n : Nat) : SmF := ⟨sm90, fun x => N.laws_heldItemS n x.1 x.2⟩
def env90 (n : Nat) : List (FuncId × SmF) := []
theorem ev90 (n : Nat) (x : sm90.ins.D) : evFn (find tbl) (find (env90 n)) an90 n Try.f90 sm90 x = N.laws_heldItemS n x.1 x.2 := by kernel_rfl
theorem ok90 (n : Nat) : FnOk Try.prog 90 (s90 n) := fn_native (an := an90) (n := n) Try.func90 rfl (by kernel_rfl) tblOk env_nil follows (ev90 n)
theorem body90 : HasBody Try.prog 90 := ⟨_, _, Try.func90, rfl, by kernel_rfl⟩

-- laws_heldPickS
def sm26 : Sm := ⟨[.val false [(.sl 102 k2)], .val false [I]], [(false, [(I, 0)])]⟩
def an26 : An := ⟨fun _ => none,
  fun b => match b with
    | 0 => some ([.slot 1 I, .slot 5 I], true)
    | _ => none,
  fun _ => none⟩
def s26 (n : Nat) : SmF := ⟨sm26, fun x => N.laws_heldPickS n x.1 x.2⟩
def env26 (n : Nat) : List (FuncId × SmF) := []
theorem ev26 (n : Nat) (x : sm26.ins.D) : evFn (find tbl) (find (env26 n)) an26 n Try.f26 sm26 x = N.laws_heldPickS n x.1 x.2 := by kernel_rfl
theorem ok26 (n : Nat) : FnOk Try.prog 26 (s26 n) := fn_native (an := an26) (n := n) Try.func26 rfl (by kernel_rfl) tblOk env_nil follows (ev26 n)
theorem body26 : HasBody Try.prog 26 := ⟨_, _, Try.func26, rfl, by kernel_rfl⟩

-- laws_heldOrder
def sm42 : Sm := ⟨[.val true [I, I, (.sl 147 k1), (.sl 102 k2), I], .val false [I]], [(false, [(I, 0)])]⟩
def an42 : An := ⟨fun _ => none,
  fun _ => none,
  fun _ => none⟩
def s42 (n : Nat) : SmF := ⟨sm42, fun x => N.laws_heldOrder n x.1 x.2.1 x.2.2.1 x.2.2.2.1 x.2.2.2.2.1 x.2.2.2.2.2⟩
def env42 (n : Nat) : List (FuncId × SmF) := [(26, s26 n), (90, s90 n)]
theorem ev42 (n : Nat) (x : sm42.ins.D) : evFn (find tbl) (find (env42 n)) an42 n Try.f42 sm42 x = N.laws_heldOrder n x.1 x.2.1 x.2.2.1 x.2.2.2.1 x.2.2.2.2.1 x.2.2.2.2.2 := by kernel_rfl
theorem ok42 (n : Nat) : FnOk Try.prog 42 (s42 n) := fn_native (an := an42) (n := n) Try.func42 rfl (by kernel_rfl) tblOk (env_cons (ok26 n) body26 (env_cons (ok90 n) body90 env_nil)) follows (ev42 n)
theorem body42 : HasBody Try.prog 42 := ⟨_, _, Try.func42, rfl, by kernel_rfl⟩

-- laws_FnExactOrderOf
def sm7 : Sm := ⟨[.val true [I, (.sl 33 k10)], .val false [I]], [(false, [(.bool, 0)])]⟩
def an7 : An := ⟨fun _ => none,
  fun _ => none,
  fun _ => none⟩
def s7 (n : Nat) : SmF := ⟨sm7, fun x => N.laws_FnExactOrderOf n x.1 x.2.1 x.2.2⟩
def env7 (n : Nat) : List (FuncId × SmF) := [(23, s23 n), (24, s24 n), (36, s36 n), (37, s37 n), (38, s38 n), (39, s39 n), (40, s40 n), (41, s41 n), (42, s42 n)]
theorem ev7 (n : Nat) (x : sm7.ins.D) : evFn (find tbl) (find (env7 n)) an7 n Try.f7 sm7 x = N.laws_FnExactOrderOf n x.1 x.2.1 x.2.2 := by kernel_rfl
theorem ok7 (n : Nat) : FnOk Try.prog 7 (s7 n) := fn_native (an := an7) (n := n) Try.func7 rfl (by kernel_rfl) tblOk (env_cons (ok23 n) body23 (env_cons (ok24 n) body24 (env_cons (ok36 n) body36 (env_cons (ok37 n) body37 (env_cons (ok38 n) body38 (env_cons (ok39 n) body39 (env_cons (ok40 n) body40 (env_cons (ok41 n) body41 (env_cons (ok42 n) body42 env_nil))))))))) follows (ev7 n)
theorem body7 : HasBody Try.prog 7 := ⟨_, _, Try.func7, rfl, by kernel_rfl⟩
end Go.Proofs.Ytcilnijdhaidjaa.Ev
